import PyProof.Rows.All
import Wide.All
import OpenK.AllK
import Wide.FinOn
import HandS.List
import HandS.Text
import KE.SortData
import HandS.ForMost
import HandS.ForExc
import HandS.TupAny
import HandS.IsInst
import HandS.Deep
import HandS.CallSlots
import HandS.Defaults
import HandS.ExcInit
import HandS.Zip
import HandS.RevRange
import HandS.Iter
import HandS.WordsExc
import PySem.Challenge.RW_errandback_k10_houses
set_option Elab.async false
section
/-! A small deterministic machine for the programs at hand: values, a store, code, runs. Places by the library's own functions. -/
set_option autoImplicit false
set_option linter.all false
namespace Ab
abbrev Txt := List Nat
inductive Val where
  | non | bl (b : Bool) | int (i : Int) | str (s : Txt) | tup (vs : List Val) | lst (vs : List Val) | loc (l : Nat) | scr (ns : List Int) | exc (c : Nat) (fs : List (Nat × Val))
  deriving Inhabited
abbrev AKey := List (Sum Int Txt)
inductive SO where
  | list (vs : List Val)
  | dS (kvs : List (Txt × Val))
  | dT (kvs : List (AKey × Val))
  | dTf (kvs : List (AKey × Val))
  | inst (c : Nat) (fs : List (Nat × Val))
  deriving Inhabited
abbrev Sto := List SO
structure Exc where
  cls : Nat
  fs : List (Nat × Val)
abbrev R (α : Type) := Option (Except Exc α × Sto)
def ok {α : Type} (a : α) (s : Sto) : R α := some (.ok a, s)
def bnd {α β : Type} (m : R α) (k : α → Sto → R β) : R β := match m with
  | none => none
  | some (.error e, s) => some (.error e, s)
  | some (.ok a, s) => k a s
def lift {α : Type} (o : Option (α × Sto)) : R α := match o with
  | none => none
  | some (a, s) => ok a s
/-- a value that leaves the store alone -/
def pur {α : Type} (s : Sto) (o : Option α) : R α := match o with
  | none => none
  | some a => ok a s
def LIM : Nat := 100000

/-! ### values -/
mutual
def Val.beq : Val → Val → Bool
  | .non, .non => true
  | .bl a, .bl b => a == b
  | .int a, .int b => a == b
  | .str a, .str b => a == b
  | .tup a, .tup b => Val.beqs a b
  | .lst a, .lst b => Val.beqs a b
  | .loc a, .loc b => a == b
  | .scr a, .scr b => a == b
  | _, _ => false
def Val.beqs : List Val → List Val → Bool
  | [], [] => true
  | a :: r, b :: t => Val.beq a b && Val.beqs r t
  | _, _ => false
end
mutual
theorem Val.beq_eq : ∀ (a b : Val), Val.beq a b = true → a = b
  | .non, b, h => by cases b <;> simp_all [Val.beq]
  | .bl _, b, h => by cases b <;> simp_all [Val.beq]
  | .int _, b, h => by cases b <;> simp_all [Val.beq]
  | .str _, b, h => by cases b <;> simp_all [Val.beq]
  | .loc _, b, h => by cases b <;> simp_all [Val.beq]
  | .scr _, b, h => by cases b <;> simp_all [Val.beq]
  | .exc _ _, b, h => by cases b <;> simp_all [Val.beq]
  | .tup x, b, h => by
    cases b <;> simp [Val.beq] at h
    rw [Val.beqs_eq _ _ h]
  | .lst x, b, h => by
    cases b <;> simp [Val.beq] at h
    rw [Val.beqs_eq _ _ h]
theorem Val.beqs_eq : ∀ (a b : List Val), Val.beqs a b = true → a = b
  | [], b, h => by cases b <;> simp_all [Val.beqs]
  | x :: r, [], h => by simp [Val.beqs] at h
  | x :: r, y :: t, h => by
    simp [Val.beqs] at h
    rw [Val.beq_eq _ _ h.1, Val.beqs_eq _ _ h.2]
end
/-- lists behind places are read; texts, tuples, numbers as they are. Fuel: the depth -/
def res (s : Sto) : Nat → Val → Option Val
  | 0, _ => none
  | n + 1, v => match v with
    | .non => some .non
    | .bl b => some (.bl b)
    | .int i => some (.int i)
    | .str x => some (.str x)
    | .tup vs => (vs.mapM (res s n)).map .tup
    | .lst vs => (vs.mapM (res s n)).map .lst
    | .loc l => match s[l]? with
      | some (.list vs) => (vs.mapM (res s n)).map .lst
      | _ => none
    | _ => none
/-- truth values count among the numbers -/
def numOf : Val → Option Int
  | .int i => some i
  | .bl b => some (if b = true then 1 else 0)
  | _ => none
mutual
def pyEq : Val → Val → Bool
  | .tup a, w => match w with
    | .tup b => pyEqs a b
    | _ => false
  | .lst a, w => match w with
    | .lst b => pyEqs a b
    | _ => false
  | .str a, w => match w with
    | .str b => a == b
    | _ => false
  | .non, w => match w with
    | .non => true
    | _ => false
  | v, w => match numOf v, numOf w with
    | some i, some j => i == j
    | _, _ => false
def pyEqs : List Val → List Val → Bool
  | [], ys => ys.isEmpty
  | a :: r, ys => match ys with
    | [] => false
    | b :: t => pyEq a b && pyEqs r t
end
def DEEP : Nat := 12
def eqV (s : Sto) (a b : Val) : Option Bool :=
  match res s DEEP a, res s DEEP b with
  | some x, some y => some (pyEq x y)
  | _, _ => none
def alloc (m : Bool) (vs : List Val) (s : Sto) : Val × Sto := if m = true then (.loc s.length, s ++ [.list vs]) else (.lst vs, s)
/-- a list's items -/
def lstOf (s : Sto) : Val → Option (List Val)
  | .lst vs => some vs
  | .loc l => match s[l]? with
    | some (.list vs) => some vs
    | _ => none
  | _ => none
def seqOf (s : Sto) : Val → Option (List Val)
  | .tup vs => some vs
  | v => lstOf s v
/-- what lies from one place to another -/
def cut {α : Type} (xs : List α) (lo hi : Option Int) : List α := (xs.take (HT.sIx xs.length xs.length hi)).drop (HT.sIx xs.length 0 lo)
/-! ### operators -/
inductive BOp where
  | add | sub | mul | fdiv | mod | pow
inductive COp where
  | eq | ne | lt | le | gt | ge | inn | notin
def mulOk (i j : Int) : Bool := decide ((-(2 ^ 64) < i ∧ i < 2 ^ 64) ∨ (-(2 ^ 64) < j ∧ j < 2 ^ 64))
def binV (op : BOp) (m : Bool) (a b : Val) (s : Sto) : Option (Val × Sto) :=
  match op, a, b with
  | .add, .int i, .int j => some (.int (i + j), s)
  | .add, .str x, .str y => if x.length + y.length ≤ LIM then some (.str (x ++ y), s) else none
  | .add, .tup x, .tup y => if x.length + y.length ≤ LIM then some (.tup (x ++ y), s) else none
  | .add, a, b => match lstOf s a, lstOf s b with
    | some x, some y => if x.length + y.length ≤ LIM then some (alloc m (x ++ y) s) else none
    | _, _ => none
  | .sub, .int i, .int j => some (.int (i - j), s)
  | .mul, .int i, .int j => if mulOk i j = true then some (.int (i * j), s) else none
  | .fdiv, .int i, .int j => if 0 < j ∧ j < 1073741824 then some (.int (i / j), s) else none
  | .mod, .int i, .int j => if 0 < j then some (.int (i % j), s) else none
  | _, _, _ => none
def keyOf : List Val → Option AKey
  | [] => some []
  | .int i :: r => (keyOf r).map (Sum.inl i :: ·)
  | .str x :: r => (keyOf r).map (Sum.inr x :: ·)
  | _ => none
def dget {κ : Type} [DecidableEq κ] : List (κ × Val) → κ → Option Val
  | [], _ => none
  | p :: r, k => if p.1 = k then some p.2 else dget r k
/-- each entry of that key gets the value; a new key comes last -/
def dput {κ : Type} [DecidableEq κ] (kvs : List (κ × Val)) (k : κ) (v : Val) : List (κ × Val) :=
  match dget kvs k with
  | some _ => kvs.map fun p => (p.1, if p.1 = k then v else p.2)
  | none => kvs ++ [(k, v)]
/-- what a dict holds: some none: nothing there -/
def dlook (s : Sto) (d k : Val) : Option (Option Val) :=
  match d with
  | .loc l => match s[l]?, k with
    | some (.dS kvs), .str x => some (dget kvs x)
    | some (.dT kvs), .tup ks => (keyOf ks).map (dget kvs)
    | some (.dTf kvs), .tup ks => (keyOf ks).map (dget kvs)
    | _, _ => none
  | _ => none
/-- whether x is in a list (tuple) or a text, a dict -/
def inV (s : Sto) (x y : Val) : Option Bool :=
  match y with
  | .str t => match x with
    | .str [c] => some (decide (c ∈ t))
    | _ => none
  | .loc l => match s[l]? with
    | some (.list _) => match res s DEEP x, res s DEEP y with
      | some d, some (.lst ds) => some (ds.any fun z => pyEq z d)
      | _, _ => none
    | some _ => (dlook s y x).map (·.isSome)
    | none => none
  | .lst _ => match res s DEEP x, res s DEEP y with
    | some d, some (.lst ds) => some (ds.any fun z => pyEq z d)
    | _, _ => none
  | _ => none
def flat : Val → Bool
  | .non => true
  | .bl _ => true
  | .int _ => true
  | .str _ => true
  | _ => false
/-- in a tuple of flat things -/
def inT (x : Val) (vs : List Val) : Option Bool := if flat x = true ∧ vs.all flat = true then some (vs.any fun z => pyEq z x) else none
def cmpV (op : COp) (a b : Val) (s : Sto) : Option Bool :=
  match op with
  | .eq => eqV s a b
  | .ne => (eqV s a b).map not
  | .inn => match b with
    | .tup vs => inT a vs
    | _ => inV s a b
  | .notin => match b with
    | .tup vs => (inT a vs).map not
    | _ => (inV s a b).map not
  | .lt => match a, b with
    | .int i, .int j => some (decide (i < j))
    | _, _ => none
  | .le => match a, b with
    | .int i, .int j => some (decide (i ≤ j))
    | _, _ => none
  | .gt => match a, b with
    | .int i, .int j => some (decide (j < i))
    | _, _ => none
  | .ge => match a, b with
    | .int i, .int j => some (decide (j ≤ i))
    | _, _ => none
def itemV (a i : Val) (s : Sto) : Option Val :=
  match a, i with
  | .str x, .int k => if x.length ≤ LIM then (L2.atI x k).map fun c => .str [c] else none
  | a, .int k => (seqOf s a).bind fun vs => L2.atI vs k
  | a, k => (dlook s a k).bind id
def optI : Val → Option (Option Int)
  | .non => some none
  | .int i => some (some i)
  | _ => none
def sliceV (m : Bool) (a : Val) (lo hi : Option Int) (s : Sto) : Option (Val × Sto) :=
  match a with
  | .str x => if x.length ≤ LIM then some (.str (cut x lo hi), s) else none
  | .tup vs => some (.tup (cut vs lo hi), s)
  | a => (lstOf s a).map fun vs => alloc m (cut vs lo hi) s
/-! ### built-in functions and methods -/
inductive BI where
  | len | list | tuple | sorted | all | any | int | max2 | min2 | maxD | isB | isI | isS | isT | isL | lenset
mutual
/-- as the library's data -/
def toD : Val → PySem.PyData
  | .non => .none
  | .bl b => .bool b
  | .int i => .int i
  | .str s => .str ⟨s.toArray⟩
  | .tup vs => .tuple (toDs vs)
  | .lst vs => .list (toDs vs)
  | _ => .dict []
def toDs : List Val → List PySem.PyData
  | [] => []
  | v :: r => toD v :: toDs r
end
/-- sorted, by the library's order of data -/
def sortV (vs : List Val) : List Val := vs.mergeSort (PySem.W.dataLe false toD)
/-- the shapes that are sorted here: ints, texts, pairs and triples of texts -/
def shape : Val → Nat
  | .int _ => 1
  | .str _ => 2
  | .tup [.str _, .str _] => 3
  | .tup [.str _, .str _, .str _] => 4
  | _ => 0
/-- all of one shape -/
def sortable : List Val → Bool
  | [] => true
  | v :: r => shape v != 0 && r.all fun w => shape w == shape v
def boolsOf : List Val → Option (List Bool)
  | [] => some []
  | .bl b :: r => (boolsOf r).map (b :: ·)
  | _ => none
def intsOf : List Val → Option (List Int)
  | [] => some []
  | .int b :: r => (intsOf r).map (b :: ·)
  | _ => none
def strsOf : List Val → Option (List Txt)
  | [] => some []
  | .str b :: r => (strsOf r).map (b :: ·)
  | _ => none
def isKind (b : BI) (s : Sto) (v : Val) : Option Bool :=
  match v with
  | .non => some false
  | .bl _ => match b with
    | .isB | .isI => some true
    | _ => some false
  | .int _ => match b with
    | .isI => some true
    | _ => some false
  | .str _ => match b with
    | .isS => some true
    | _ => some false
  | .tup _ => match b with
    | .isT => some true
    | _ => some false
  | .lst _ => match b with
    | .isL => some true
    | _ => some false
  | .loc l => match s[l]? with
    | some (.list _) => match b with
      | .isL => some true
      | _ => some false
    | _ => none
  | _ => none
def biV (b : BI) (m : Bool) (vs : List Val) (s : Sto) : Option (Val × Sto) :=
  match b, vs with
  | .len, [.str x] => if x.length ≤ LIM then some (.int x.length, s) else none
  | .len, [.scr ns] => some (.int ns.length, s)
  | .len, [.loc l] => match s[l]? with
    | some (.list vs) => some (.int vs.length, s)
    | some (.dS kvs) => some (.int kvs.length, s)
    | _ => none
  | .len, [v] => (seqOf s v).map fun vs => (.int vs.length, s)
  | .list, [.scr ns] => some (alloc m (ns.map .int) s)
  | .list, [v] => (seqOf s v).map fun vs => alloc m vs s
  | .tuple, [v] => (seqOf s v).map fun vs => (.tup vs, s)
  | .sorted, [v] => (lstOf s v).bind fun vs => if sortable vs = true ∧ vs.length < 64 then some (alloc m (sortV vs) s) else none
  | .all, [v] => ((lstOf s v).bind boolsOf).map fun bs => (.bl (bs.all id), s)
  | .any, [v] => ((lstOf s v).bind boolsOf).map fun bs => (.bl (bs.any id), s)
  | .int, [.int i] => some (.int i, s)
  | .int, [.bl b] => some (.int (if b then 1 else 0), s)
  | .max2, [.int i, .int j] => some (.int (if j > i then j else i), s)
  | .min2, [.int i, .int j] => some (.int (if j < i then j else i), s)
  | .maxD, [v] => ((lstOf s v).bind intsOf).map fun ns => (.int (ns.foldl (fun a b => if b > a then b else a) (ns.headD 0)), s)
  | .lenset, [v] => ((lstOf s v).bind strsOf).bind fun xs => if xs.length ≤ 4000 then some (.int xs.eraseDups.length, s) else none
  | .isB, [v] => (isKind .isB s v).map fun b => (.bl b, s)
  | .isI, [v] => (isKind .isI s v).map fun b => (.bl b, s)
  | .isS, [v] => (isKind .isS s v).map fun b => (.bl b, s)
  | .isT, [v] => (isKind .isT s v).map fun b => (.bl b, s)
  | .isL, [v] => (isKind .isL s v).map fun b => (.bl b, s)
  | _, _ => none
inductive BM where
  | append | pop | popAt | remove | index | clear | extend | count | join | sindex | get1 | get2 | update
/-- texts one behind the other, sep between two -/
def joinT (sep : Txt) (xs : List Txt) : Txt := TL.joinL sep xs
def first {α : Type} (p : α → Bool) : List α → Option Nat
  | [] => none
  | x :: r => if p x = true then some 0 else (first p r).map (· + 1)
def bmV (b : BM) (o : Val) (vs : List Val) (s : Sto) : Option (Val × Sto) :=
  match b, o, vs with
  | .append, .loc l, [v] => match s[l]? with
    | some (.list xs) => if xs.length < LIM then some (.non, s.set l (.list (xs ++ [v]))) else none
    | _ => none
  | .pop, .loc l, [] => match s[l]? with
    | some (.list xs) => match xs[xs.length - 1]? with
      | some y => some (y, s.set l (.list xs.dropLast))
      | none => none
    | _ => none
  | .popAt, .loc l, [.int i] => match s[l]? with
    | some (.list xs) => if 0 ≤ i ∧ i < 1000000000 then (match xs[i.toNat]? with
      | some y => some (y, s.set l (.list (xs.eraseIdx i.toNat)))
      | none => none) else none
    | _ => none
  | .clear, .loc l, [] => match s[l]? with
    | some (.list _) => some (.non, s.set l (.list []))
    | _ => none
  | .extend, .loc l, [v] => match s[l]?, lstOf s v with
    | some (.list xs), some ys => if xs.length + ys.length ≤ LIM then some (.non, s.set l (.list (xs ++ ys))) else none
    | _, _ => none
  | .remove, .loc l, [v] => match s[l]? with
    | some (.list xs) => match strsOf xs, v with
      | some ts, .str x => (first (· == x) ts).map fun j => (.non, s.set l (.list (xs.eraseIdx j)))
      | _, _ => none
    | _ => none
  | .index, o, [v] => match lstOf s o with
    | some xs => if flat v = true ∧ xs.all flat = true then (first (fun z => pyEq z v) xs).map fun j => (.int j, s) else none
    | none => none
  | .join, .str sep, [v] => ((lstOf s v).bind strsOf).bind fun xs => if (xs.map List.length).sum + xs.length * sep.length ≤ LIM then some (.str (joinT sep xs), s) else none
  | .sindex, .str t, [.str [c]] => (first (· == c) t).map fun j => (.int j, s)
  | .get1, d, [k] => (dlook s d k).map fun o => (o.getD .non, s)
  | .get2, d, [k, z] => (dlook s d k).map fun o => (o.getD z, s)
  | _, _, _ => none
/-- the object of a method is of its type -/
def bmTy (b : BM) (o : Val) (s : Sto) : Bool := match b with
  | .join | .sindex => match o with
    | .str _ => true
    | _ => false
  | .get1 | .get2 | .update => match o with
    | .loc l => match s[l]? with
      | some (.dS _) => true
      | some (.dT _) => true
      | some (.dTf _) => true
      | _ => false
    | _ => false
  | _ => (lstOf s o).isSome
/-- d[k] = v, xs[i] = v -/
def setV (o i v : Val) (s : Sto) : Option Sto :=
  match o with
  | .loc l => match s[l]?, i with
    | some (.list xs), .int k => (L2.ixN xs.length k).map fun j => s.set l (.list (xs.set j v))
    | some (.dS kvs), .str x => if kvs.length < LIM then some (s.set l (.dS (dput kvs x v))) else none
    | some (.dT kvs), .tup ks => if kvs.length < LIM then (keyOf ks).map fun k => s.set l (.dT (dput kvs k v)) else none
    | _, _ => none
  | _ => none
/-! ### code -/
inductive Tg where
  | name (i : Nat)
  | names (is : List Nat)
mutual
inductive Ex where
  | var (i : Nat)
  | cst (v : Val)
  | bin (op : BOp) (m : Bool) (a b : Ex)
  | cmp (op : COp) (a b : Ex)
  | inK (g : Nat) (neg : Bool) (a : Ex)
  | listK (g : Nat) (m : Bool)
  | isN (neg : Bool) (a : Ex)
  | andE (a b : Ex)
  | orE (a b : Ex)
  | notE (a : Ex)
  | ite (c a b : Ex)
  | tup (es : List Ex)
  | lst (m : Bool) (es : List Ex)
  | dS (ks vs : List Ex)
  | dT
  | item (a i : Ex)
  | slice (m : Bool) (a : Ex) (lo hi : Option Ex)
  | fld (a : Ex) (f : Nat)
  | bi (b : BI) (m : Bool) (es : List Ex)
  | vals (m : Bool) (d : Ex)
  | bm (b : BM) (o : Ex) (es : List Ex)
  | call (f : Nat) (es : List Ex)
  | mk (c : Nat) (es : List Ex)
  | meth (m : Nat) (o : Ex) (es : List Ex)
  | methD (m : Nat) (o : Ex) (es : List Ex)
  | methK (m : Nat) (o : Ex) (es : List Ex) (e : Ex)
  | comp (m : Bool) (elt : Ex) (tg : Tg) (it : It) (cond : Option Ex) (own : List Nat)
inductive It where
  | val (e : Ex)
  | rng1 (e : Ex)
  | rng2 (a b : Ex)
  | rrng (e : Ex)
  | enum (e : Ex)
  | zip (a b : Ex)
  | keys (e : Ex)
end
inductive Stm where
  | asg (t : Tg) (e : Ex)
  | asgF (o : Ex) (f : Nat) (e : Ex)
  | asgI (o i : Ex) (e : Ex)
  | augN (i : Nat) (op : BOp) (e : Ex)
  | augF (o : Ex) (f : Nat) (op : BOp) (e : Ex)
  | expr (e : Ex)
  | ret (e : Ex)
  | retN
  | ifS (c : Ex) (a b : List Stm)
  | forS (t : Tg) (it : It) (b : List Stm)
  | forK (t : Tg) (e : Ex) (b : List Stm)
  | whl (c : Ex) (b : List Stm)
  | pass
  | brk
  | cont
  | stuck
  | raise (c : Nat) (es : List Ex)
  | tryS (b : List Stm) (c : Nat) (x : Option Nat) (h : List Stm)
structure Fn where
  np : Nat
  ns : Nat
  body : List Stm
structure Tab where
  code : Nat → Option Fn
  init : Nat → Nat
  meth : Nat → Nat → Option Nat
  gv : Nat → List Val
structure Ctx where
  T : Tab
  call : Nat → List Val → Sto → R Val
  init : Nat → List Val → Sto → R Val
/-! ### runs -/
abbrev Env := List (Option Val)
def wipe (en : Env) : List Nat → Env
  | [] => en
  | v :: vs => (wipe en vs).set v none
def setAll (en : Env) : List Nat → List Val → Option Env
  | [], [] => some en
  | i :: is, v :: vs => setAll (en.set i (some v)) is vs
  | _, _ => none
def bindT (t : Tg) (v : Val) (en : Env) : Option Env :=
  match t with
  | .name i => some (en.set i (some v))
  | .names is => match v with
    | .tup vs => setAll en is vs
    | _ => none
/-- a list that is walked stands as it stood -/
def still (c : Option (Nat × List Val)) (s : Sto) : Bool :=
  match c with
  | none => true
  | some (l, vs) => match s[l]? with
    | some (.list ws) => Val.beqs ws vs
    | _ => false
abbrev Walk := List Val × Option (Nat × List Val)
def walkV (s : Sto) : Val → Option Walk
  | .tup vs => some (vs, none)
  | .lst vs => some (vs, none)
  | .scr ns => some (ns.map .int, none)
  | .str x => some (x.map fun c => .str [c], none)
  | .loc l => match s[l]? with
    | some (.list vs) => some (vs, some (l, vs))
    | _ => none
  | _ => none
def rngV (lo : Int) (n : Nat) : List Val := (List.range n).map fun k => .int (lo + (k : Nat))
def rngOk (i j : Int) : Bool := decide (-1000000000 ≤ i ∧ i ≤ 1000000000 ∧ -1000000000 ≤ j ∧ j ≤ 1000000000)
def enumV (n : Nat) : List Val → List Val
  | [] => []
  | v :: r => .tup [.int n, v] :: enumV (n + 1) r
def zipV : List Val → List Val → List Val
  | a :: r, b :: t => .tup [a, b] :: zipV r t
  | _, _ => []
/-- the items kept by a comprehension -/
def compL (c : Option (Nat × List Val)) (f : Val → Sto → R (Option Val)) : List Val → Sto → R (List Val)
  | [], s => if still c s = true then ok [] s else none
  | v :: r, s => if still c s = true then
      (match f v s with
      | some (.ok o, s1) => (match compL c f r s1 with
        | some (.ok vs, s2) => ok (o.toList ++ vs) s2
        | _ => none)
      | _ => none) else none
mutual
def ev (C : Ctx) : Ex → Env → Sto → R Val
  | .var i, en, s => match en[i]? with
    | some (some v) => ok v s
    | _ => none
  | .cst v, _, s => ok v s
  | .bin op m a b, en, s => bnd (ev C a en s) fun x s => bnd (ev C b en s) fun y s => lift (binV op m x y s)
  | .cmp op a b, en, s => bnd (ev C a en s) fun x s => bnd (ev C b en s) fun y s => pur s ((cmpV op x y s).map .bl)
  | .inK g neg a, en, s => bnd (ev C a en s) fun x s => pur s ((inT x (C.T.gv g)).map fun b => .bl (if neg = true then !b else b))
  | .listK g m, _, s => lift (some (alloc m (C.T.gv g) s))
  | .isN neg a, en, s => bnd (ev C a en s) fun x s => ok (.bl (match x with
    | .non => !neg
    | _ => neg)) s
  | .andE a b, en, s => bnd (ev C a en s) fun x s => match x with
    | .bl true => bnd (ev C b en s) fun y s => (match y with
      | .bl c => ok (.bl c) s
      | _ => none)
    | .bl false => ok (.bl false) s
    | _ => none
  | .orE a b, en, s => bnd (ev C a en s) fun x s => match x with
    | .bl true => ok (.bl true) s
    | .bl false => bnd (ev C b en s) fun y s => (match y with
      | .bl c => ok (.bl c) s
      | _ => none)
    | _ => none
  | .notE a, en, s => bnd (ev C a en s) fun x s => match x with
    | .bl b => ok (.bl (!b)) s
    | _ => none
  | .ite c a b, en, s => bnd (ev C c en s) fun x s => match x with
    | .bl true => ev C a en s
    | .bl false => ev C b en s
    | _ => none
  | .tup es, en, s => bnd (evs C es en s) fun vs s => if vs.length ≤ LIM then ok (.tup vs) s else none
  | .lst m es, en, s => bnd (evs C es en s) fun vs s => if vs.length ≤ LIM then lift (some (alloc m vs s)) else none
  | .dS ks vs, en, s => if ks.isEmpty = true ∧ vs.isEmpty = true then ok (.loc s.length) (s ++ [.dS []]) else none
  | .dT, _, s => ok (.loc s.length) (s ++ [.dT []])
  | .item a i, en, s => bnd (ev C a en s) fun x s => bnd (ev C i en s) fun y s => pur s (itemV x y s)
  | .slice m a lo hi, en, s => bnd (ev C a en s) fun x s => bnd (evo C lo en s) fun l s => bnd (evo C hi en s) fun h s => lift (sliceV m x l h s)
  | .fld a f, en, s => bnd (ev C a en s) fun x s => match x with
    | .loc l => (match s[l]? with
      | some (.inst _ fs) => pur s (fs.lookup f)
      | _ => none)
    | .exc _ fs => pur s (fs.lookup f)
    | _ => none
  | .bi b m es, en, s => bnd (evs C es en s) fun vs s => lift (biV b m vs s)
  | .vals m d, en, s => bnd (ev C d en s) fun x s => match x with
    | .loc l => (match s[l]? with
      | some (.dS kvs) => lift (some (alloc m (kvs.map (·.2)) s))
      | _ => none)
    | _ => none
  | .bm b o es, en, s => bnd (ev C o en s) fun x s => if bmTy b x s = true then bnd (evs C es en s) fun vs s => lift (bmV b x vs s) else none
  | .call f es, en, s => bnd (evs C es en s) fun vs s => C.call f vs s
  | .mk c es, en, s => bnd (evs C es en s) fun vs s => bnd (C.init (C.T.init c) (.loc s.length :: vs) (s ++ [.inst c []])) fun r s1 => match r with
    | .non => ok (.loc s.length) s1
    | _ => none
  | .meth m o es, en, s => bnd (ev C o en s) fun x s => match x with
    | .loc l => (match s[l]? with
      | some (.inst c fs) => (match C.T.meth c m with
        | some f => bnd (evs C es en s) fun vs s => C.call f (.loc l :: vs) s
        | none => none)
      | _ => none)
    | _ => none
  | .methD m o es, en, s => bnd (ev C o en s) fun x s => match x with
    | .loc l => (match s[l]? with
      | some (.inst c fs) => (match C.T.meth c m with
        | some f => bnd (evs C es en s) fun vs s => C.call f (.loc l :: (vs ++ [.bl false])) s
        | none => none)
      | _ => none)
    | _ => none
  | .methK m o es e, en, s => bnd (ev C o en s) fun x s => match x with
    | .loc l => (match s[l]? with
      | some (.inst c fs) => (match C.T.meth c m with
        | some f => bnd (evs C es en s) fun vs s => bnd (ev C e en s) fun u s => C.call f (.loc l :: (vs ++ [u])) s
        | none => none)
      | _ => none)
    | _ => none
  | .comp m elt tg it cond own, en, s => bnd (evi C it en s) fun w s =>
    if w.1.length ≤ LIM then bnd (compL w.2 (fun v s => match bindT tg v (wipe en own) with
      | none => none
      | some en1 => bnd (evc C cond en1 s) fun c s => if c = true then bnd (ev C elt en1 s) fun x s => ok (some x) s else ok none s) w.1 s) fun vs s => lift (some (alloc m vs s)) else none
def evs (C : Ctx) : List Ex → Env → Sto → R (List Val)
  | [], _, s => ok [] s
  | e :: r, en, s => bnd (ev C e en s) fun v s => bnd (evs C r en s) fun vs s => ok (v :: vs) s
def evo (C : Ctx) : Option Ex → Env → Sto → R (Option Int)
  | none, _, s => ok none s
  | some e, en, s => bnd (ev C e en s) fun v s => match v with
    | .int i => ok (some i) s
    | _ => none
def evc (C : Ctx) : Option Ex → Env → Sto → R Bool
  | none, _, s => ok true s
  | some e, en, s => bnd (ev C e en s) fun v s => match v with
    | .bl b => ok b s
    | _ => none
def evi (C : Ctx) : It → Env → Sto → R Walk
  | .val e, en, s => bnd (ev C e en s) fun v s => pur s (walkV s v)
  | .rng1 e, en, s => bnd (ev C e en s) fun v s => match v with
    | .int j => if rngOk 0 j = true then ok (rngV 0 j.toNat, none) s else none
    | _ => none
  | .rng2 a b, en, s => bnd (ev C a en s) fun v s => bnd (ev C b en s) fun u s => match v, u with
    | .int i, .int j => if rngOk i j = true then ok (rngV i (j - i).toNat, none) s else none
    | _, _ => none
  | .rrng e, en, s => bnd (ev C e en s) fun v s => match v with
    | .int j => if rngOk 0 j = true then ok ((rngV 0 j.toNat).reverse, none) s else none
    | _ => none
  | .enum e, en, s => bnd (ev C e en s) fun v s => match v with
    | .tup vs => ok (enumV 0 vs, none) s
    | .lst vs => ok (enumV 0 vs, none) s
    | _ => none
  | .zip a b, en, s => bnd (ev C a en s) fun v s => bnd (ev C b en s) fun u s => match v, u with
    | .tup xs, .tup ys => ok (zipV xs ys, none) s
    | .lst xs, .lst ys => ok (zipV xs ys, none) s
    | .tup xs, .lst ys => ok (zipV xs ys, none) s
    | _, _ => none
  | .keys _, _, _ => none
end
/-- an attribute is set: in its place, or last -/
def putF (f : Nat) (v : Val) : List (Nat × Val) → List (Nat × Val)
  | [] => [(f, v)]
  | p :: r => bif p.1 == f then (p.1, v) :: r else p :: putF f v r
inductive SR where
  | next | brk | cont | ret (v : Val) | err (e : Exc)
abbrev S := Option (SR × Env × Sto)
/-- behind an expression -/
def sb {α : Type} (m : R α) (en : Env) (k : α → Sto → S) : S := match m with
  | none => none
  | some (.error e, s) => some (.err e, en, s)
  | some (.ok a, s) => k a s
def sq (m : S) (k : Env → Sto → S) : S := match m with
  | some (.next, en, s) => k en s
  | r => r
def forL (c : Option (Nat × List Val)) (f : Val → Env → Sto → S) : List Val → Env → Sto → S
  | [], en, s => if still c s = true then some (.next, en, s) else none
  | v :: r, en, s => if still c s = true then (match f v en s with
      | some (.next, en1, s1) => forL c f r en1 s1
      | some (.cont, en1, s1) => forL c f r en1 s1
      | some (.brk, en1, s1) => some (.next, en1, s1)
      | x => x) else none
def whlL (c : Env → Sto → R Val) (f : Env → Sto → S) : Nat → Env → Sto → S
  | 0, _, _ => none
  | n + 1, en, s => sb (c en s) en fun v s => match v with
    | .bl true => (match f en s with
      | some (.next, en1, s1) => whlL c f n en1 s1
      | some (.cont, en1, s1) => whlL c f n en1 s1
      | some (.brk, en1, s1) => some (.next, en1, s1)
      | x => x)
    | .bl false => some (.next, en, s)
    | _ => none
/-- a key as a value -/
def keyV (k : AKey) : Val := .tup (k.map fun
  | .inl i => .int i
  | .inr t => .str t)
/-- what was locked is free again -/
def unlock (l : Nat) (s : Sto) : Option Sto := match s[l]? with
  | some (.dTf kvs) => some (s.set l (.dT kvs))
  | _ => none
/-- the keys of a dict, one after the other: it stands still meanwhile -/
def forKeys (c : Sto → R Val) (f : Val → Env → Sto → S) (en : Env) (s : Sto) : S := match c s with
  | some (.ok (.loc l), _) => (match s[l]? with
    | some (.dT kvs) => (match c (s.set l (.dTf kvs)) with
      | some (.ok (.loc l'), s1) => if l' = l then (match forL none f (kvs.map fun p => keyV p.1) en s1 with
        | some (.next, en2, s2) => (unlock l s2).map fun s3 => (.next, en2, s3)
        | some (.ret v, en2, s2) => (unlock l s2).map fun s3 => (.ret v, en2, s3)
        | _ => none) else none
      | _ => none)
    | _ => none)
  | _ => none
def WF : Nat := 100000
mutual
def exec (C : Ctx) : Stm → Env → Sto → S
  | .asg t e, en, s => sb (ev C e en s) en fun v s => (bindT t v en).map fun en1 => (.next, en1, s)
  | .asgF o f e, en, s => sb (ev C e en s) en fun v s => sb (ev C o en s) en fun x s => match x with
    | .loc l => (match s[l]? with
      | some (.inst c fs) => if fs.length < 900 then some (.next, en, s.set l (.inst c (putF f v fs))) else none
      | _ => none)
    | _ => none
  | .asgI o i e, en, s => sb (ev C e en s) en fun v s => sb (ev C o en s) en fun x s => sb (ev C i en s) en fun y s => (setV x y v s).map fun s => (.next, en, s)
  | .augN i op e, en, s => match en[i]? with
    | some (some x) => sb (ev C e en s) en fun v s => (binV op false x v s).bind fun (z, s) => (match x with
      | .int _ => some (.next, en.set i (some z), s)
      | _ => none)
    | _ => none
  | .augF o f op e, en, s => sb (ev C o en s) en fun x s => match x with
    | .loc l => (match s[l]? with
      | some (.inst _ fs) => (match fs.lookup f with
        | some (.int a) => sb (ev C e en s) en fun v s => (match v, op with
          | .int b, .add => (match s[l]? with
            | some (.inst c fs1) => if fs1.length < 900 then some (.next, en, s.set l (.inst c (putF f (.int (a + b)) fs1))) else none
            | _ => none)
          | .int b, .sub => (match s[l]? with
            | some (.inst c fs1) => if fs1.length < 900 then some (.next, en, s.set l (.inst c (putF f (.int (a - b)) fs1))) else none
            | _ => none)
          | _, _ => none)
        | _ => none)
      | _ => none)
    | _ => none
  | .expr e, en, s => sb (ev C e en s) en fun _ s => some (.next, en, s)
  | .ret e, en, s => sb (ev C e en s) en fun v s => some (.ret v, en, s)
  | .retN, en, s => some (.ret .non, en, s)
  | .ifS c a b, en, s => sb (ev C c en s) en fun v s => match v with
    | .bl true => execs C a en s
    | .bl false => execs C b en s
    | _ => none
  | .forS t it b, en, s => sb (evi C it en s) en fun w s => forL w.2 (fun v en s => match bindT t v en with
    | some en1 => execs C b en1 s
    | none => none) w.1 en s
  | .forK t e b, en, s => forKeys (ev C e en) (fun v en s => match bindT t v en with
    | some en1 => execs C b en1 s
    | none => none) en s
  | .whl c b, en, s => whlL (ev C c) (execs C b) WF en s
  | .pass, en, s => some (.next, en, s)
  | .brk, en, s => some (.brk, en, s)
  | .cont, en, s => some (.cont, en, s)
  | .stuck, _, _ => none
  | .raise _ _, _, _ => none
  | .tryS _ _ _ _, _, _ => none
def execs (C : Ctx) : List Stm → Env → Sto → S
  | [], en, s => some (.next, en, s)
  | st :: r, en, s => sq (exec C st en s) fun en s => execs C r en s
end
def fin (m : S) : R Val := match m with
  | some (.next, _, s) => ok .non s
  | some (.ret v, _, s) => ok v s
  | some (.err e, _, s) => some (.error e, s)
  | _ => none
def runF (T : Tab) (call init : Nat → List Val → Sto → R Val) (f : Nat) (vs : List Val) (s : Sto) : R Val :=
  match T.code f with
  | none => none
  | some c => if vs.length = c.np then fin (execs { T := T, call := call, init := init } c.body (vs.map some ++ List.replicate (c.ns - c.np) none) s) else none
def callN (T : Tab) : Nat → Nat → List Val → Sto → R Val
  | 0 => fun _ _ _ => none
  | 1 => runF T (fun _ _ _ => none) (fun _ _ _ => none)
  | k + 2 => runF T (callN T (k + 1)) (callN T k)
end Ab
end
section
set_option Elab.async false
set_option linter.all false
set_option autoImplicit false
set_option maxRecDepth 100000
set_option maxHeartbeats 4000000
/-! The machine of Ab against the hand layer's heap: what stands for what. -/
namespace Sn
open PySem L2
open Ab (Val SO Sto Exc R Txt)
/-- where the classes stand, what the attributes are called -/
structure Bs where
  K : PySem.W.Frag
  A : Nat → Addr
  fld : Nat → Str
  inj : ∀ i j, fld i = fld j → i = j
  okC : Nat → Bool
  okF : Nat → Bool
variable {B : Bs}
abbrev str (s : Txt) : Str := ⟨s.toArray⟩
/-- signs that there are -/
def good (s : Txt) : Prop := ∀ c ∈ s, c < 1114112
mutual
def RV (B : Bs) (φ : List Addr) (F : Hp) : Val → V → Prop
  | .non, v => v = .non
  | .bl b, v => v = .bl b
  | .int i, v => v = .int i
  | .str s, v => v = .str (str s) ∧ good s
  | .tup vs, v => ∃ a xs, v = .ref a ∧ F a = some (.tup xs) ∧ RVs B φ F vs xs
  | .lst vs, v => ∃ a xs, v = .ref a ∧ F a = some (.lst xs) ∧ RVs B φ F vs xs
  | .loc l, v => ∃ a, v = .ref a ∧ φ[l]? = some a
  | .scr ns, v => ∃ a, v = .ref a ∧ SqL B.K F a (ns.map V.int)
  | .exc _ _, _ => False
def RVs (B : Bs) (φ : List Addr) (F : Hp) : List Val → List V → Prop
  | [], xs => xs = []
  | v :: vs, xs => ∃ x r, xs = x :: r ∧ RV B φ F v x ∧ RVs B φ F vs r
end
structure Le (φ : List Addr) (F : Hp) (φ' : List Addr) (F' : Hp) : Prop where
  p : ∀ (l : Nat) (a : Addr), φ[l]? = some a → φ'[l]? = some a
  f : ∀ a o, F a = some o → F' a = some o
theorem Le.refl (φ : List Addr) (F : Hp) : Le φ F φ F := ⟨fun _ _ h => h, fun _ _ h => h⟩
theorem Le.trans {φ φ1 φ2 : List Addr} {F F1 F2 : Hp} (a : Le φ F φ1 F1) (b : Le φ1 F1 φ2 F2) : Le φ F φ2 F2 := ⟨fun l x h => b.p l x (a.p l x h), fun x o h => b.f x o (a.f x o h)⟩
mutual
theorem RV.mono {φ φ' : List Addr} {F F' : Hp} (e : Le φ F φ' F') : ∀ {v : Val} {x : V}, RV B φ F v x → RV B φ' F' v x
  | .non, _, h => h
  | .bl _, _, h => h
  | .int _, _, h => h
  | .str _, _, h => h
  | .tup _, _, ⟨a, xs, r, f, q⟩ => ⟨a, xs, r, e.f _ _ f, RVs.mono e q⟩
  | .lst _, _, ⟨a, xs, r, f, q⟩ => ⟨a, xs, r, e.f _ _ f, RVs.mono e q⟩
  | .loc _, _, ⟨a, r, f⟩ => ⟨a, r, e.p _ _ f⟩
  | .scr _, _, ⟨a, r, f⟩ => ⟨a, r, Same.seq (show Same F F' from e.f) f⟩
  | .exc _ _, _, h => h
theorem RVs.mono {φ φ' : List Addr} {F F' : Hp} (e : Le φ F φ' F') : ∀ {v : List Val} {x : List V}, RVs B φ F v x → RVs B φ' F' v x
  | [], _, h => h
  | _ :: _, _, ⟨y, r, q, h1, h2⟩ => ⟨y, r, q, RV.mono e h1, RVs.mono e h2⟩
end
theorem RVs.length {φ : List Addr} {F : Hp} : ∀ {v : List Val} {x : List V}, RVs B φ F v x → v.length = x.length
  | [], _, h => by rw [show _ = [] from h]; rfl
  | _ :: _, _, ⟨y, r, q, h1, h2⟩ => by rw [q, List.length_cons, List.length_cons, RVs.length h2]
theorem RVs.get {φ : List Addr} {F : Hp} : ∀ {v : List Val} {x : List V} {i : Nat} {y : V}, RVs B φ F v x → x[i]? = some y → ∃ u, v[i]? = some u ∧ RV B φ F u y
  | [], _, i, y, h, e => by rw [show _ = [] from h] at e; simp at e
  | _ :: _, _, 0, y, ⟨z, r, q, h1, h2⟩, e => by subst q; simp at e; subst e; exact ⟨_, rfl, h1⟩
  | _ :: _, _, i + 1, y, ⟨z, r, q, h1, h2⟩, e => by
    subst q
    obtain ⟨u, a, b⟩ := RVs.get (i := i) h2 (by simpa using e)
    exact ⟨u, by simpa using a, b⟩
theorem RVs.got {φ : List Addr} {F : Hp} {v : List Val} {x : List V} {i : Nat} {u : Val} (h : RVs B φ F v x) (e : v[i]? = some u) : ∃ y, x[i]? = some y ∧ RV B φ F u y := by
  have hl := h.length
  have hi : i < x.length := by rw [← hl]; exact (List.getElem?_eq_some_iff.mp e).1
  obtain ⟨u', a, b⟩ := h.get (List.getElem?_eq_getElem hi)
  rw [e] at a
  cases a
  exact ⟨_, List.getElem?_eq_getElem hi, b⟩
theorem RVs.append {φ : List Addr} {F : Hp} : ∀ {v w : List Val} {x y : List V}, RVs B φ F v x → RVs B φ F w y → RVs B φ F (v ++ w) (x ++ y)
  | [], _, _, _, h, k => by rw [show _ = [] from h]; exact k
  | _ :: _, _, _, _, ⟨z, r, q, h1, h2⟩, k => ⟨z, r ++ _, by rw [q]; rfl, h1, RVs.append h2 k⟩
theorem RVs.drop {φ : List Addr} {F : Hp} : ∀ {v : List Val} {x : List V} (n : Nat), RVs B φ F v x → RVs B φ F (v.drop n) (x.drop n)
  | _, _, 0, h => h
  | [], _, n + 1, h => by rw [show _ = [] from h]; rfl
  | _ :: _, _, n + 1, ⟨z, r, q, h1, h2⟩ => by rw [q]; exact RVs.drop n h2
theorem RVs.take {φ : List Addr} {F : Hp} : ∀ {v : List Val} {x : List V} (n : Nat), RVs B φ F v x → RVs B φ F (v.take n) (x.take n)
  | _, _, 0, h => rfl
  | [], _, n + 1, h => by rw [show _ = [] from h]; rfl
  | _ :: _, _, n + 1, ⟨z, r, q, h1, h2⟩ => by rw [q]; exact ⟨z, r.take n, rfl, h1, RVs.take n h2⟩
theorem RVs.set {φ : List Addr} {F : Hp} {u : Val} {y : V} (hu : RV B φ F u y) : ∀ {v : List Val} {x : List V} (n : Nat), RVs B φ F v x → RVs B φ F (v.set n u) (x.set n y)
  | [], _, n, h => by rw [show _ = [] from h]; rfl
  | _ :: _, _, 0, ⟨z, r, q, h1, h2⟩ => by rw [q]; exact ⟨y, r, rfl, hu, h2⟩
  | _ :: _, _, n + 1, ⟨z, r, q, h1, h2⟩ => by rw [q]; exact ⟨z, r.set n y, rfl, h1, RVs.set hu n h2⟩
theorem RVs.erase {φ : List Addr} {F : Hp} : ∀ {v : List Val} {x : List V} (n : Nat), RVs B φ F v x → RVs B φ F (v.eraseIdx n) (x.eraseIdx n)
  | [], _, n, h => by rw [show _ = [] from h]; rfl
  | _ :: _, _, 0, ⟨z, r, q, h1, h2⟩ => by rw [q]; exact h2
  | _ :: _, _, n + 1, ⟨z, r, q, h1, h2⟩ => by rw [q]; exact ⟨z, r.eraseIdx n, rfl, h1, RVs.erase n h2⟩
theorem RVs.dropLast {φ : List Addr} {F : Hp} {v : List Val} {x : List V} (h : RVs B φ F v x) : RVs B φ F v.dropLast x.dropLast := by
  rw [List.dropLast_eq_take, List.dropLast_eq_take, h.length]
  exact h.take _
/-! ### attributes -/
def RFs (B : Bs) (φ : List Addr) (F : Hp) : List (Nat × Val) → List (Str × V) → Prop
  | [], xs => xs = []
  | p :: r, xs => ∃ x t, xs = (B.fld p.1, x) :: t ∧ RV B φ F p.2 x ∧ RFs B φ F r t
theorem RFs.mono {φ φ' : List Addr} {F F' : Hp} (e : Le φ F φ' F') : ∀ {v : List (Nat × Val)} {x : List (Str × V)}, RFs B φ F v x → RFs B φ' F' v x
  | [], _, h => h
  | _ :: _, _, ⟨y, r, q, h1, h2⟩ => ⟨y, r, q, h1.mono e, RFs.mono e h2⟩
theorem RFs.look {φ : List Addr} {F : Hp} {f : Nat} {v : Val} : ∀ {fs : List (Nat × Val)} {x : List (Str × V)}, RFs B φ F fs x → fs.lookup f = some v → ∃ y, x.lookup (B.fld f) = some y ∧ RV B φ F v y
  | [], _, h, e => by simp at e
  | (g, u) :: r, _, ⟨y, t, q, h1, h2⟩, e => by
    subst q
    by_cases c : f = g
    · subst c
      simp at e
      subst e
      exact ⟨y, by simp, h1⟩
    · have c1 : (f == g) = false := by simpa using c
      have c2 : (B.fld f == B.fld g) = false := by simpa using fun z => c (B.inj _ _ z)
      rw [List.lookup_cons, c1] at e
      obtain ⟨z, a, b⟩ := RFs.look h2 e
      refine ⟨z, ?_, b⟩
      show List.lookup (B.fld f) ((B.fld g, y) :: t) = some z
      rw [List.lookup_cons, c2]
      exact a
theorem RFs.put {φ : List Addr} {F : Hp} {f : Nat} {v : Val} {y : V} (hv : RV B φ F v y) : ∀ {fs : List (Nat × Val)} {x : List (Str × V)}, RFs B φ F fs x → RFs B φ F (Ab.putF f v fs) (L2.putF (B.fld f) y x)
  | [], _, h => by
    rw [show _ = [] from h]
    exact ⟨y, [], rfl, hv, rfl⟩
  | p :: r, _, ⟨z, t, q, h1, h2⟩ => by
    subst q
    by_cases c : p.1 = f
    · have e1 : Ab.putF f v (p :: r) = (p.1, v) :: r := by simp [Ab.putF, c]
      have e2 : L2.putF (B.fld f) y ((B.fld p.1, z) :: t) = (B.fld p.1, y) :: t := by
        unfold L2.putF
        rw [c, if_pos rfl]
      rw [e1, e2]
      exact ⟨y, t, rfl, hv, h2⟩
    · have e0 : (p.1 == f) = false := beq_eq_false_iff_ne.mpr c
      have e1 : Ab.putF f v (p :: r) = p :: Ab.putF f v r := by rw [Ab.putF, e0]; rfl
      have e2 : L2.putF (B.fld f) y ((B.fld p.1, z) :: t) = (B.fld p.1, z) :: L2.putF (B.fld f) y t := by
        conv => lhs; unfold L2.putF
        exact if_neg fun w => c (B.inj _ _ w)
      rw [e1, e2]
      exact ⟨z, _, rfl, h1, RFs.put hv h2⟩
theorem RFs.length {φ : List Addr} {F : Hp} : ∀ {v : List (Nat × Val)} {x : List (Str × V)}, RFs B φ F v x → v.length = x.length
  | [], _, h => by rw [show _ = [] from h]; rfl
  | _ :: _, _, ⟨y, r, q, h1, h2⟩ => by rw [q, List.length_cons, List.length_cons, RFs.length h2]
/-! ### dicts -/
def keyS (s : Txt) : Key := Sum.inr (str s)
def keyT (k : Ab.AKey) : List Key := k.map fun
  | .inl i => Sum.inl i
  | .inr s => Sum.inr (str s)
def RKs {α κ : Type} (B : Bs) (g : α → κ) (φ : List Addr) (F : Hp) : List (α × Val) → List (κ × V) → Prop
  | [], xs => xs = []
  | p :: r, xs => ∃ x t, xs = (g p.1, x) :: t ∧ RV B φ F p.2 x ∧ RKs B g φ F r t
theorem RKs.mono {α κ : Type} {g : α → κ} {φ φ' : List Addr} {F F' : Hp} (e : Le φ F φ' F') : ∀ {v : List (α × Val)} {x : List (κ × V)}, RKs B g φ F v x → RKs B g φ' F' v x
  | [], _, h => h
  | _ :: _, _, ⟨y, r, q, h1, h2⟩ => ⟨y, r, q, h1.mono e, RKs.mono e h2⟩
/-- the keys' texts are texts -/
def goodK (k : Ab.AKey) : Prop := ∀ t, Sum.inr t ∈ k → good t
/-- what an object of the store is in the heap -/
def RO (B : Bs) (φ : List Addr) (F : Hp) : SO → HO → Prop
  | .list vs, o => ∃ xs, o = .lst xs ∧ RVs B φ F vs xs
  | .dS kvs, o => ∃ xs, o = .dK xs ∧ RKs B keyS φ F kvs xs
  | .dT kvs, o => ∃ xs, o = .dT xs ∧ RKs B keyT φ F kvs xs ∧ ∀ p ∈ kvs, goodK p.1
  | .dTf kvs, o => ∃ od xs, o = .frz od (.dT xs) ∧ RKs B keyT φ F kvs xs ∧ ∀ p ∈ kvs, goodK p.1
  | .inst c fs, o => ∃ dx xs, o = .ins (B.A c) dx xs ∧ RFs B φ F fs xs ∧ B.okC c = true ∧ (fs.all fun p => B.okF p.1) = true
theorem RO.mono {φ φ' : List Addr} {F F' : Hp} (e : Le φ F φ' F') : ∀ {v : SO} {x : HO}, RO B φ F v x → RO B φ' F' v x
  | .list _, _, ⟨xs, q, h⟩ => ⟨xs, q, h.mono e⟩
  | .dS _, _, ⟨xs, q, h⟩ => ⟨xs, q, h.mono e⟩
  | .dT _, _, ⟨xs, q, h, g⟩ => ⟨xs, q, h.mono e, g⟩
  | .dTf _, _, ⟨od, xs, q, h, g⟩ => ⟨od, xs, q, h.mono e, g⟩
  | .inst _ _, _, ⟨dx, xs, q, h, k⟩ => ⟨dx, xs, q, h.mono e, k⟩
/-- the store stands in the heap -/
structure Rp (B : Bs) (φ : List Addr) (F : Hp) (s : Sto) (H : Hp) : Prop where
  len : φ.length = s.length
  nd : ∀ (i j : Nat) a, φ[i]? = some a → φ[j]? = some a → i = j
  obj : ∀ (l : Nat) o, s[l]? = some o → ∃ a ho, φ[l]? = some a ∧ H a = some ho ∧ RO B φ F o ho
  fz : ∀ a o, F a = some o → H a = some o
  ap : ∀ (l : Nat) (a : Addr), φ[l]? = some a → (∀ kvs, s[l]? ≠ some (.dTf kvs)) → F a = none
theorem Rp.same {φ : List Addr} {F : Hp} {s : Sto} {H : Hp} (r : Rp B φ F s H) : Same F H := r.fz
theorem Rp.at {φ : List Addr} {F : Hp} {s : Sto} {H : Hp} (r : Rp B φ F s H) {l : Nat} {a : Addr} {o : SO} (h : φ[l]? = some a) (e : s[l]? = some o) : ∃ ho, H a = some ho ∧ RO B φ F o ho := by
  obtain ⟨b, ho, e1, e2, e3⟩ := r.obj l o e
  rw [h] at e1
  cases e1
  exact ⟨ho, e2, e3⟩
theorem Rp.here {φ : List Addr} {F : Hp} {s : Sto} {H : Hp} (r : Rp B φ F s H) {l : Nat} {a : Addr} (h : φ[l]? = some a) : ∃ ho, H a = some ho := by
  have hl : l < s.length := r.len ▸ (List.getElem?_eq_some_iff.mp h).1
  obtain ⟨ho, e, _⟩ := r.at h (List.getElem?_eq_getElem hl)
  exact ⟨ho, e⟩
/-- from one state to a later one: what is not ours stands, what is new was free -/
structure Ext (φ : List Addr) (F : Hp) (H : Hp) (φ' : List Addr) (F' : Hp) (H' : Hp) : Prop where
  le : Le φ F φ' F'
  keep : ∀ b o, H b = some o → (∀ l : Nat, φ[l]? ≠ some b) → H' b = some o
  fnew : ∀ b o, F' b = some o → F b = some o ∨ H b = none ∨ ∃ xs, H b = some (.tup xs)
  pnew : ∀ (l : Nat) b, φ'[l]? = some b → φ[l]? = some b ∨ H b = none
  there : ∀ b, H' b = none → H b = none
  tup : ∀ b xs, H' b = some (.tup xs) → H b = none ∨ H b = some (.tup xs)
theorem Ext.refl (φ : List Addr) (F H : Hp) : Ext φ F H φ F H := ⟨Le.refl _ _, fun _ _ h _ => h, fun _ _ h => .inl h, fun _ _ h => .inl h, fun _ h => h, fun _ _ h => .inr h⟩
theorem Ext.trans {φ φ1 φ2 : List Addr} {F F1 F2 H H1 H2 : Hp} (a : Ext φ F H φ1 F1 H1) (b : Ext φ1 F1 H1 φ2 F2 H2) : Ext φ F H φ2 F2 H2 where
  le := a.le.trans b.le
  keep := fun c o h n => b.keep c o (a.keep c o h n) fun l e => (a.pnew l c e).elim (n l) fun z => by rw [h] at z; cases z
  fnew := fun c o h => by
    rcases b.fnew c o h with z | z | ⟨xs, z⟩
    · exact a.fnew c o z
    · exact .inr (.inl (a.there c z))
    · exact .inr ((a.tup c xs z).imp id fun y => ⟨xs, y⟩)
  pnew := fun l c h => (b.pnew l c h).elim (a.pnew l c) fun z => .inr (a.there c z)
  there := fun c h => a.there c (b.there c h)
  tup := fun c xs h => (b.tup c xs h).elim (fun z => .inl (a.there c z)) (a.tup c xs)
/-- a heap that has more -/
theorem Ext.grow {φ : List Addr} {F H H' : Hp} (k : Same H H') : Ext φ F H φ F H' := ⟨Le.refl _ _, fun b o h _ => k b o h, fun _ _ h => .inl h, fun _ _ h => .inl h, fun _ h => k.free h, fun b xs h => by
  cases e : H b with
  | none => exact .inl rfl
  | some o => exact .inr (by rw [k b o e] at h; exact h)⟩
/-- a new object that is never written -/
theorem Rp.frozen {φ : List Addr} {F : Hp} {s : Sto} {H : Hp} (r : Rp B φ F s H) {p : Addr} (hp : H p = none) (o : HO) : Ext φ F H φ (upd F p o) (upd H p o) ∧ Rp B φ (upd F p o) s (upd H p o) := by
  have fp : F p = none := r.same.free hp
  have su : Same H (upd H p o) := fun a u h => by rw [upd_ne (ne_of_none h hp)]; exact h
  have e : Le φ F φ (upd F p o) := ⟨fun _ _ h => h, fun a u h => by rw [upd_ne (ne_of_none h fp)]; exact h⟩
  refine ⟨⟨e, fun b u h _ => su b u h, fun b u h => ?_, fun l b h => .inl h, fun b h => su.free h, fun b xs h => (Ext.grow (φ := φ) (F := F) su).tup b xs h⟩, r.len, r.nd, fun l u h => ?_, fun a u h => ?_, fun l a h hs => ?_⟩
  · by_cases c : b = p
    · exact .inr (.inl (c ▸ hp))
    · rw [upd_ne c] at h
      exact .inl h
  · obtain ⟨a, ho, e1, e2, e3⟩ := r.obj l u h
    exact ⟨a, ho, e1, by rw [upd_ne (ne_of_none e2 hp)]; exact e2, e3.mono e⟩
  · by_cases c : a = p
    · subst c
      rw [upd_same] at h ⊢
      exact h
    · rw [upd_ne c] at h ⊢
      exact r.fz a u h
  · obtain ⟨ho, e2⟩ := r.here h
    rw [upd_ne (ne_of_none e2 hp)]
    exact r.ap l a h hs
/-- a heap that has more, all else as it was -/
theorem Rp.grow {φ : List Addr} {F : Hp} {s : Sto} {H H' : Hp} (r : Rp B φ F s H) (k : Same H H') : Rp B φ F s H' :=
  ⟨r.len, r.nd, fun l o e => let ⟨a, ho, e1, e2, e3⟩ := r.obj l o e; ⟨a, ho, e1, k _ _ e2, e3⟩, fun a o e => k _ _ (r.fz a o e), r.ap⟩
theorem same_upd {H : Hp} {p : Addr} {o : HO} (hp : H p = none) : Same H (upd H p o) := fun a u e => by
  rw [upd_ne (ne_of_none e hp)]
  exact e
/-- a new object that may be written -/
theorem Rp.placed {φ : List Addr} {F : Hp} {s : Sto} {H : Hp} (r : Rp B φ F s H) {p : Addr} (hp : H p = none) {o : SO} {ho : HO} (ro : ∀ φ', Le φ F φ' F → RO B φ' F o ho) :
    Ext φ F H (φ ++ [p]) F (upd H p ho) ∧ Rp B (φ ++ [p]) F (s ++ [o]) (upd H p ho) ∧ (φ ++ [p])[s.length]? = some p := by
  have fp : F p = none := r.same.free hp
  have hl := r.len
  have e : Le φ F (φ ++ [p]) F := ⟨fun l a h => by rw [List.getElem?_append_left (List.getElem?_eq_some_iff.mp h).1]; exact h, fun _ _ h => h⟩
  have hp' : (φ ++ [p])[s.length]? = some p := by rw [← hl]; simp
  have old : ∀ (l : Nat) a, (φ ++ [p])[l]? = some a → φ[l]? = some a ∨ (l = s.length ∧ a = p) := fun l a h => by
    by_cases c : l < φ.length
    · rw [List.getElem?_append_left c] at h
      exact .inl h
    · rw [List.getElem?_append_right (by omega)] at h
      by_cases c2 : l - φ.length = 0
      · rw [c2] at h
        simp at h
        exact .inr ⟨by omega, h.symm⟩
      · rw [List.getElem?_eq_none (by simp; omega)] at h
        cases h
  have pn : ∀ (l : Nat), φ[l]? ≠ some p := fun l h => by
    obtain ⟨ho, e2⟩ := r.here h
    rw [hp] at e2
    cases e2
  have su : Same H (upd H p ho) := fun a u h => by rw [upd_ne (ne_of_none h hp)]; exact h
  refine ⟨⟨e, fun b u h _ => su b u h, fun b u h => .inl h, fun l b h => (old l b h).elim .inl fun z => .inr (by rw [z.2]; exact hp), fun b h => su.free h, fun b xs h => (Ext.grow (φ := φ) (F := F) su).tup b xs h⟩, ⟨by simp [hl], fun i j a h1 h2 => ?_, fun l u h => ?_, fun a u h => ?_, fun l a h hs => ?_⟩, hp'⟩
  · rcases old i a h1 with g1 | ⟨g1, q1⟩ <;> rcases old j a h2 with g2 | ⟨g2, q2⟩
    · exact r.nd i j a g1 g2
    · subst q2
      exact absurd g1 (pn i)
    · subst q1
      exact absurd g2 (pn j)
    · omega
  · by_cases c : l < s.length
    · rw [List.getElem?_append_left c] at h
      obtain ⟨a, ho', e1, e2, e3⟩ := r.obj l u h
      exact ⟨a, ho', e.p _ _ e1, by rw [upd_ne (ne_of_none e2 hp)]; exact e2, e3.mono e⟩
    · have c2 : l = s.length := by
        have := (List.getElem?_eq_some_iff.mp h).1
        simp at this
        omega
      subst c2
      simp at h
      subst h
      exact ⟨p, ho, hp', upd_same, ro _ e⟩
  · rw [upd_ne (ne_of_none (r.fz a u h) hp)]
    exact r.fz a u h
  · rcases old l a h with g | ⟨_, rfl⟩
    · refine r.ap l a g fun kvs z => hs kvs ?_
      rw [List.getElem?_append_left (List.getElem?_eq_some_iff.mp z).1]
      exact z
    · exact fp
/-- an object is written -/
theorem Rp.write {φ : List Addr} {F : Hp} {s : Sto} {H : Hp} (r : Rp B φ F s H) {l : Nat} {a : Addr} {o : SO} {ho : HO} (h : φ[l]? = some a) (hs : ∀ kvs, s[l]? ≠ some (.dTf kvs)) (ro : RO B φ F o ho) : Rp B φ F (s.set l o) (upd H a ho) := by
  refine ⟨by simp [r.len], r.nd, fun i u e => ?_, fun b u e => ?_, fun i b hi hk => ?_⟩
  · by_cases c : l = i
    · subst c
      have hl : l < s.length := by rw [← r.len]; exact (List.getElem?_eq_some_iff.mp h).1
      rw [List.getElem?_set_self hl] at e
      cases e
      exact ⟨a, ho, h, upd_same, ro⟩
    · rw [List.getElem?_set_ne c] at e
      obtain ⟨b, ho', e1, e2, e3⟩ := r.obj i u e
      refine ⟨b, ho', e1, ?_, e3⟩
      rw [upd_ne fun z => c (r.nd l i a h (by rw [← z]; exact e1))]
      exact e2
  · rw [upd_ne fun z => by subst z; rw [r.ap l b h hs] at e; cases e]
    exact r.fz b u e
  · refine r.ap i b hi fun kvs z => ?_
    by_cases c : l = i
    · subst c
      exact hs kvs z
    · exact hk kvs (by rw [List.getElem?_set_ne c]; exact z)
/-- .. is a later state -/
theorem Ext.write {φ : List Addr} {F : Hp} {s : Sto} {H : Hp} (r : Rp B φ F s H) {l : Nat} {a : Addr} {ho : HO} (h : φ[l]? = some a) (hn : ∀ xs, ho ≠ .tup xs := by intro _ z; cases z) : Ext φ F H φ F (upd H a ho) where
  le := Le.refl _ _
  keep := fun b o e n => by
    have ne : b ≠ a := fun z => n l (by rw [z]; exact h)
    rw [upd_ne ne]
    exact e
  fnew := fun _ _ e => .inl e
  pnew := fun _ _ e => .inl e
  there := fun b e => by
    by_cases c : b = a
    · subst c
      rw [upd_same] at e
      cases e
    · rw [upd_ne c] at e
      exact e
  tup := fun b xs e => by
    by_cases c : b = a
    · subst c
      rw [upd_same] at e
      exact absurd (Option.some.inj e) (hn xs)
    · rw [upd_ne c] at e
      exact .inr e
/-! ### the frame's names -/
structure REn (B : Bs) (φ : List Addr) (F : Hp) (en : Ab.Env) (σ : L2.St) : Prop where
  len : en.length = σ.length
  at_ : ∀ (i : Nat) v, en[i]? = some (some v) → ∃ x, σ[i]? = some (some x) ∧ RV B φ F v x
theorem REn.mono {φ φ' : List Addr} {F F' : Hp} {en : Ab.Env} {σ : L2.St} (h : REn B φ F en σ) (e : Le φ F φ' F') : REn B φ' F' en σ :=
  ⟨h.len, fun i v q => let ⟨x, a, b⟩ := h.at_ i v q; ⟨x, a, b.mono e⟩⟩
theorem REn.set {φ : List Addr} {F : Hp} {en : Ab.Env} {σ : L2.St} (h : REn B φ F en σ) {v : Val} {x : V} (hv : RV B φ F v x) (i : Nat) : REn B φ F (en.set i (some v)) (σ.set i (some x)) := by
  refine ⟨by simp [h.len], fun j u q => ?_⟩
  by_cases c : i = j
  · subst c
    have hi : i < en.length := by
      have := (List.getElem?_eq_some_iff.mp q).1
      simpa using this
    rw [List.getElem?_set_self hi] at q
    cases q
    exact ⟨x, List.getElem?_set_self (by rw [← h.len]; exact hi), hv⟩
  · rw [List.getElem?_set_ne c] at q
    obtain ⟨y, a, b⟩ := h.at_ j u q
    exact ⟨y, by rw [List.getElem?_set_ne c]; exact a, b⟩
theorem REn.wipe {φ : List Addr} {F : Hp} {en : Ab.Env} {σ : L2.St} (h : REn B φ F en σ) : ∀ vs : List Nat, REn B φ F (Ab.wipe en vs) (L2.wipe σ vs)
  | [] => h
  | v :: vs => by
    have ih := REn.wipe h vs
    refine ⟨by show ((Ab.wipe en vs).set v none).length = ((L2.wipe σ vs).set v none).length; simp [ih.len], fun j u q => ?_⟩
    have q' : ((Ab.wipe en vs).set v none)[j]? = some (some u) := q
    by_cases c : v = j
    · subst c
      have hi : v < (Ab.wipe en vs).length := by
        have := (List.getElem?_eq_some_iff.mp q').1
        simpa using this
      rw [List.getElem?_set_self hi] at q'
      cases q'
    · rw [List.getElem?_set_ne c] at q'
      obtain ⟨y, a, b⟩ := ih.at_ j u q'
      exact ⟨y, by show ((L2.wipe σ vs).set v none)[j]? = _; rw [List.getElem?_set_ne c]; exact a, b⟩
/-! ### what is asked of an end -/
/-- an exception as the layer tells it -/
def RX (B : Bs) (φ : List Addr) (F : Hp) (H : Hp) (e : Exc) (cls : Value) (d : Option Addr) : Prop :=
  cls = .ref (B.A e.cls) ∧ match e.fs with
    | [] => d = none
    | fs => ∃ dx xs, d = some dx ∧ H dx = some (.xd xs) ∧ ∀ f v, fs.lookup f = some v → ∃ x, xs.lookup (B.fld f) = some x ∧ RV B φ F v x
abbrev Rel (α β : Type) := List Addr → Hp → α → β → Prop
def Out {α β : Type} (B : Bs) (W : WX) (rel : Rel α β) (φ : List Addr) (F : Hp) (H : Hp) (r : R α) (σ : L2.St) (Q : β → Hp → Prop) : Prop := match r with
  | none => False
  | some (.ok a, s) => ∀ φ' F' x H', Ext φ F H φ' F' H' → Rp B φ' F' s H' → rel φ' F' a x → Q x H'
  | some (.error e, s) => ∀ φ' F' H' cls d, Ext φ F H φ' F' H' → Rp B φ' F' s H' → RX B φ' F' H' e cls d → W cls d σ H'
section
variable {α β γ δ : Type} {W : WX} {rel : Rel α β} {rel' : Rel γ δ} {φ φ' : List Addr} {F F' H H' : Hp} {r : R α} {σ : L2.St} {Q : β → Hp → Prop}
theorem Out.mono (h : Out B W rel φ F H r σ Q) (e : Ext φ F H φ' F' H') : Out B W rel φ' F' H' r σ Q := by
  match r, h with
  | some (.ok a, s), h => exact fun φ2 F2 x H2 e2 => h φ2 F2 x H2 (e.trans e2)
  | some (.error a, s), h => exact fun φ2 F2 H2 c d e2 => h φ2 F2 H2 c d (e.trans e2)
theorem Out.imp {Q' : β → Hp → Prop} (h : Out B W rel φ F H r σ Q) (k : ∀ x H, Q x H → Q' x H) : Out B W rel φ F H r σ Q' := by
  match r, h with
  | some (.ok a, s), h => exact fun φ2 F2 x H2 e2 p q => k _ _ (h φ2 F2 x H2 e2 p q)
  | some (.error a, s), h => exact h
theorem Out.bnd {k : α → Sto → R γ} {Q : δ → Hp → Prop} (h : Out B W rel' φ F H (Ab.bnd r k) σ Q) :
    Out B W rel φ F H r σ fun x H' => ∃ φ' F' a s', r = some (.ok a, s') ∧ Ext φ F H φ' F' H' ∧ Rp B φ' F' s' H' ∧ rel φ' F' a x ∧ Out B W rel' φ' F' H' (k a s') σ Q := by
  match r, h with
  | some (.ok a, s), h => exact fun φ2 F2 x H2 e2 p q => ⟨φ2, F2, a, s, rfl, e2, p, q, Out.mono h e2⟩
  | some (.error a, s), h => exact h
theorem Out.now {a : α} {s : Sto} {x : β} (h : Out B W rel φ F H (Ab.ok a s) σ Q) (rp : Rp B φ F s H) (q : rel φ F a x) : Q x H := h φ F x H (Ext.refl _ _ _) rp q
theorem Out.fix {a : α} {s : Sto} {x : β} (h : Out B W rel φ F H (Ab.ok a s) σ Q) (e : Ext φ F H φ' F' H') (rp : Rp B φ' F' s H') (q : rel φ' F' a x) : Q x H' := h φ' F' x H' e rp q
end
/-- the readings -/
def tM {α β : Type} (B : Bs) (W : WX) (rel : Rel α β) (m : Ab.Env → Sto → R α) : L2.St → Hp → (β → Hp → Prop) → Prop := fun σ H Q =>
  ∃ φ F en s, Rp B φ F s H ∧ REn B φ F en σ ∧ Out B W rel φ F H (m en s) σ Q
/-- another reading -/
theorem PE_imp {X : Cx} {e : Expr} {t t' : TE} (h : PE X e t) (k : ∀ σ H Q, t' σ H Q → t σ H Q) : PE X e t' := ⟨fun pins s σ H Q I q => h.run pins s σ H Q I (k σ H Q q)⟩
theorem PT_imp {X : Cx} {e : Expr} {t t' : TT} (h : PT X e t) (k : ∀ σ H Q, t' σ H Q → t σ H Q) : PT X e t' := ⟨fun pins s σ H Q I q => h.run pins s σ H Q I (k σ H Q q)⟩
theorem PA_imp {X : Cx} {e : List Expr} {t t' : TA} (h : PA X e t) (k : ∀ σ H Q, t' σ H Q → t σ H Q) : PA X e t' := ⟨fun pos pins s σ H Q I q => h.run pos pins s σ H Q I (k σ H Q q)⟩
theorem PS_imp {X : Cx} {e : Stmt} {t t' : TS} (h : PS X e t) (k : ∀ D σ H, t' D σ H → t D σ H) : PS X e t' := ⟨fun pins s σ H D I q => h.run pins s σ H D I (k D σ H q)⟩
theorem PSs_imp {X : Cx} {e : List Stmt} {t t' : TS} (h : PSs X e t) (k : ∀ D σ H, t' D σ H → t D σ H) : PSs X e t' := ⟨fun pins s σ H D I q => h.run pins s σ H D I (k D σ H q)⟩
end Sn
end
section
set_option Elab.async false
set_option linter.all false
set_option autoImplicit false
set_option maxRecDepth 100000
set_option maxHeartbeats 4000000
/-! What of the syntax must be seen, and calls whose exceptions are wished for at the slots. -/
namespace Sn
open PySem L2
/-! ### syntax -/
def noStar : Expr → Bool
  | .Starred _ _ => false
  | _ => true
def noSlice : Expr → Bool
  | .Slice _ _ _ _ => false
  | _ => true
def noSet : Expr → Bool
  | .Set _ _ _ => false
  | _ => true
/-- no super() -/
def noSup : Expr → Bool
  | .Call (.Name _ _) [] [] _ => false
  | _ => true
/-- no comprehension -/
def noCmp : Expr → Bool
  | .ListComp _ _ _ _ => false
  | .SetComp _ _ _ _ => false
  | .DictComp _ _ _ _ _ => false
  | _ => true
theorem star_cons {e : Expr} {es : List Expr} {env : Env} (h : noStar e = true) : starEach (e :: es) env = (false, eval e env) :: starEach es env := by
  cases e <;> first | rfl | (simp [noStar] at h)
theorem star_any {pos : Pos} {env : Env} : ∀ {es : List Expr}, es.all noStar = true → (backTo pos (starEach es env)).any (·.1) = false
  | [], _ => rfl
  | e :: es, h => by
    obtain ⟨h1, h2⟩ : noStar e = true ∧ es.all noStar = true := by simpa using h
    rw [star_cons h1]
    show (false || (backTo pos (starEach es env)).any (·.1)) = false
    rw [star_any h2]
    rfl
theorem star_len {env : Env} : ∀ {es : List Expr}, es.all noStar = true → ∀ {pos : Pos}, (backTo pos (starEach es env)).all (fun x => !x.1) = true
  | [], _, _ => rfl
  | e :: es, h, pos => by
    obtain ⟨h1, h2⟩ : noStar e = true ∧ es.all noStar = true := by simpa using h
    rw [star_cons h1]
    show (true && (backTo pos (starEach es env)).all (fun x => !x.1)) = true
    rw [star_len h2]
    rfl
theorem few_of {env : Env} {pos : Pos} {es : List Expr} (h : es.all noStar = true) (hl : es.length < 28) : ((backTo pos (starEach es env)).all (fun x => !x.1) && (backToKw pos (keywordEach [] env)).all (fun x => x.1.isSome)
      && decide (es.length + ([] : List Keyword).length + (if ([] : List Keyword).isEmpty then 0 else 1) < 30)) = true := by
  rw [star_len h]
  show (true && true && decide (es.length + 0 + (if true then 0 else 1) < 30)) = true
  simp
  omega
theorem base_of {o : Expr} {m : Str} {env : Env} (h : noSup o = true) : attributeBase o m env (eval o env) = eval o env := by
  unfold attributeBase
  split
  · rename_i heq
    simp [noSup] at h
  · rfl
theorem plainIx_of {i : Expr} (h : noSlice i = true) : ∀ o v, subscripted i false o v = operate [o, v] (getItem o v) := by
  intro o v
  cases i <;> first | rfl | (simp [noSlice] at h)
theorem mark_of {op : CmpOp} {e : Expr} (h : noSet e = true) : behindInMarks op e = false := by
  cases e <;> first | rfl | (simp [noSet] at h)
theorem swap_of {e : Expr} {t : Option Expr} {l : Nat} {env : Env} (h : noCmp e = true) : swapsWith e t l env = pure false := by
  cases e <;> first | rfl | (simp [noCmp] at h)
theorem folded_of {e : Expr} {env : Env} (h : noSet e = true) : ∀ x, foldedSetIterable e env x = pure x := by
  intro x
  cases e <;> first | rfl | (simp [noSet] at h)
/-- forms whose test is the value's truth -/
def plainT : Expr → Bool
  | .UnaryOp .Not _ _ => false
  | .BoolOp _ _ _ => false
  | .IfExp _ _ _ _ => false
  | .Compare _ _ _ _ => false
  | _ => true
theorem test_of {e : Expr} {env : Env} (h : plainT e = true) : ∀ whole, isTrue e env whole = (do let v ← whole; standAt e.pos; holding [v] (truthy v)) := by
  intro whole
  cases e with
  | UnaryOp op x p => cases op <;> first | rfl | (simp [plainT] at h)
  | _ => first | rfl | (simp [plainT] at h)
theorem eval_meth {o : Expr} {m : Str} {apos pos : Pos} {es : List Expr} {env : Env} (hb : noSup o = true) (hs : es.all noStar = true) (hl : es.length < 28) (hp : (apos.endLine == pos.line) = true) :
    eval (.Call (.Attribute o m apos) es [] pos) env = (do
      let ov ← eval o env
      standAt apos.atName
      let (f, first) ← holding [ov] (getMethod ov m (do return (← importBound o env).getD true))
      callWith pos f first (backTo pos (starEach es env)) (backToKw pos (keywordEach [] env))) := by
  have h1 : methodCallForm (es.length + ([] : List Keyword).length) (backTo pos (starEach es env)) (backToKw pos (keywordEach [] env)) = true := few_of hs hl
  rw [eval, base_of hb]
  simp only [methodCall, h1, calleeOf, methodCallPos, hp, Bool.not_true, Bool.false_or, if_true]
  rfl
/-- with a keyword behind -/
theorem few_key {env : Env} {pos kp : Pos} {y : Str} {e : Expr} {es : List Expr} (h : es.all noStar = true) (hl : es.length < 28) : methodCallForm (es.length + [(⟨some y, e, kp⟩ : Keyword)].length) (backTo pos (starEach es env)) (backToKw pos (keywordEach [⟨some y, e, kp⟩] env)) = true := by
  unfold methodCallForm
  rw [star_len h]
  show (true && true && decide (es.length + 1 + 1 < 30)) = true
  simp
  omega
theorem any_key {env : Env} {pos kp : Pos} {y : Str} {e : Expr} {es : List Expr} (h : es.all noStar = true) : ((backTo pos (starEach es env)).any (·.1) || (backToKw pos (keywordEach [⟨some y, e, kp⟩] env)).any (·.1.isNone)) = false := by
  rw [star_any h]
  rfl
theorem eval_key {o e : Expr} {m y : Str} {apos pos kp : Pos} {es : List Expr} {env : Env} (hb : noSup o = true) (hs : es.all noStar = true) (hl : es.length < 28) (hp : (apos.endLine == pos.line) = true) :
    eval (.Call (.Attribute o m apos) es [⟨some y, e, kp⟩] pos) env = (do
      let ov ← eval o env
      standAt apos.atName
      let (f, first) ← holding [ov] (getMethod ov m (do return (← importBound o env).getD true))
      callWith pos f first (backTo pos (starEach es env)) (backToKw pos (keywordEach [⟨some y, e, kp⟩] env))) := by
  rw [eval, base_of hb]
  simp only [methodCall, few_key hs hl, calleeOf, methodCallPos, hp, Bool.not_true, Bool.false_or, if_true]
  rfl
/-! ### calls: the layer's rules by name, over readings of ours -/
/-- readings of ours grow with what is wanted -/
theorem tM_mono {α β : Type} {B : Bs} {W : WX} {rel : Rel α β} {m : Ab.Env → Ab.Sto → Ab.R α} {σ : L2.St} {H : Hp} {Q Q' : β → Hp → Prop} (h : tM B W rel m σ H Q) (k : ∀ x H, Q x H → Q' x H) : tM B W rel m σ H Q' := by
  obtain ⟨φ, F, en, s, rp, re, o⟩ := h
  exact ⟨φ, F, en, s, rp, re, o.imp k⟩
/-- wished for whatever the slots hold -/
def every (W : WX) : XK := fun cls d H => ∀ σ, W cls d σ H
theorem every_passes {X : Cx} {W : WX} (tk : Takes X W) : Passes (L2.CX X.prog X.w) X (every W) := passes_call tk fun _ _ σ _ w => w σ
section
variable {X : Cx} {B : Bs} {W : WX} {k : Nat} {m : Str} {pos apos : Pos} {o : Expr} {mo : Ab.Env → Ab.Sto → Ab.R Ab.Val}
/-- what an object must be to be told m -/
structure Told (X : Cx) (k : Nat) (m : Str) (H : Hp) (a : Addr) (f : Addr) (sp : Sp) : Prop where
  is : ∃ C dx fs, H a = some (.ins C dx fs) ∧ fs.lookup m = none ∧ Cls X.K C ∧ Meth X.K C m f
  ok : ∃ fd ps, Binds X.K fd ps [] ∧ FnOk X.prog X.w X.K X.mg X.base (L2.CX X.prog X.w) k f fd ps sp
/-- o.m(..): what o is, is seen ahead of the arguments -/
def tTold (X : Cx) (W : WX) (k : Nat) (m : Str) (ta : TE) (t : TA) : TE := fun σ H Q => ta σ H fun x H1 => ∃ a f sp, x = .ref a ∧ Told X k m H1 a f sp ∧ t σ H1 fun vs H2 => sp (x :: vs) H2 Q (WE W σ)
theorem told_with {es : List Expr} {t : TA} (hb : noSup o = true) (hs : es.all noStar = true) (hl : es.length < 28) (hp : (apos.endLine == pos.line) = true) (ho : PE X o (tM B W (RV B) mo))
    (hgo : ∀ (pins : List (Addr × Obj)) (s1 : Shared) (σ : L2.St) (H1 : Hp) (Q : VK) (a f : Addr) (sp : Sp), Inv X pins σ H1 s1 → Told X k m H1 a f sp → (t σ H1 fun vs H2 => sp (.ref a :: vs) H2 Q (WE W σ)) →
      wpAny (model X.prog X.w) X.A (callWith pos (.ref f) [.ref a] (backTo pos (starEach es X.env)) (backToKw pos (keywordEach [] X.env))) (EP X pins σ Q) X.xe s1) :
    PE X (.Call (.Attribute o m apos) es [] pos) (tTold X W k m (tM B W (RV B) mo) t) := by
  constructor
  intro pins s σ H Q I h
  apply methcall_of ho I (tM_mono h ?_) (eval_meth hb hs hl hp)
  rintro x H1 ⟨a, f, sp, rfl, T, q⟩
  obtain ⟨C, dx, fs, e1, e2, e3, e4⟩ := T.is
  exact ⟨a, C, dx, fs, f, rfl, e1, e3, e4, e2, fun s1 J => hgo pins s1 σ H1 Q a f sp J T q⟩
theorem pe_told0 (hb : noSup o = true) (hp : (apos.endLine == pos.line) = true) (ho : PE X o (tM B W (RV B) mo)) (hr : Room k X.A) (tk : Takes X W) :
    PE X (.Call (.Attribute o m apos) [] [] pos) (tTold X W k m (tM B W (RV B) mo) tNil) :=
  told_with hb rfl (by decide) hp ho fun pins s1 σ H1 Q a f sp J T q => by
    obtain ⟨_, _, _, _, _, _, M⟩ := T.is
    obtain ⟨fd, ps, b, F⟩ := T.ok
    exact PySem.W.callWith_K0 J.kIn M.kp (run_fnS (E := WE W) F hr b (passAt tk σ) J (Paired.cons (show RelV (.ref a) (Value.ref a) from rfl) .nil) q)
theorem pe_told {e : Expr} {es : List Expr} {t : TA} (hb : noSup o = true) (hs : (e :: es).all noStar = true) (hl : (e :: es).length < 28) (hp : (apos.endLine == pos.line) = true) (ho : PE X o (tM B W (RV B) mo)) (ha : PA X (e :: es) t) (hr : Room k X.A) (tk : Takes X W) :
    PE X (.Call (.Attribute o m apos) (e :: es) [] pos) (tTold X W k m (tM B W (RV B) mo) t) :=
  told_with hb hs hl hp ho fun pins s1 σ H1 Q a f sp J T q => by
    obtain ⟨_, _, _, _, _, _, M⟩ := T.is
    obtain ⟨fd, ps, b, F⟩ := T.ok
    have hs' : noStar e = true ∧ es.all noStar = true := by simpa only [List.all_cons, Bool.and_eq_true] using hs
    refine PySem.W.callWith_K (h₀ := X.base) J.mod.kin M.kp ?_ (star_cons hs'.1) (star_any hs'.2)
    refine thn (ha.run pos pins s1 σ H1 _ J q) ?_
    rintro us s2 ⟨vs, H2, J2, r, w⟩
    exact ⟨J2.kIn, run_fnS (E := WE W) F hr b (passAt tk σ) J2 (Paired.cons (show RelV (.ref a) (Value.ref a) from rfl) r) w⟩
end
/-! ### a last parameter that may lack, or be told by its name -/
/-- how such a def takes its arguments -/
structure Takes1 (K : PySem.W.Frag) (fd : FuncData) (ps : List Str) (y : Str) (d : V) : Prop where
  dflt : ∃ ds, Vals [d] ds ∧ Binds K fd ps ds
  key : KBn K fd ps (ps.length - 1) [y] (fun us ws => us ++ ws) (fun vs zs => vs ++ zs)
section
variable {X : Cx} {B : Bs} {W : WX} {k : Nat} {m y : Str} {d : V} {pos apos : Pos} {o : Expr} {mo : Ab.Env → Ab.Sto → Ab.R Ab.Val}
structure Told1 (X : Cx) (k : Nat) (m y : Str) (d : V) (H : Hp) (a : Addr) (f : Addr) (sp : Sp) : Prop where
  is : ∃ C dx fs, H a = some (.ins C dx fs) ∧ fs.lookup m = none ∧ Cls X.K C ∧ Meth X.K C m f
  ok : ∃ fd ps, Takes1 X.K fd ps y d ∧ FnOk X.prog X.w X.K X.mg X.base (L2.CX X.prog X.w) k f fd ps sp
/-- o.m(e, ..), the last one lacks -/
def tLack (X : Cx) (W : WX) (k : Nat) (m y : Str) (d : V) (ta : TE) (t : TA) : TE := fun σ H Q => ta σ H fun x H1 => ∃ a f sp, x = .ref a ∧ Told1 X k m y d H1 a f sp ∧ t σ H1 fun vs H2 => sp (x :: (vs ++ [d])) H2 Q (every W)
/-- o.m(e, .., y = z) -/
def tKey (X : Cx) (W : WX) (k : Nat) (m y : Str) (d : V) (ta : TE) (t : TA) (te : TE) : TE := fun σ H Q => ta σ H fun x H1 => ∃ a f sp, x = .ref a ∧ Told1 X k m y d H1 a f sp ∧ t σ H1 fun vs H2 => te σ H2 fun z H3 => sp (x :: (vs ++ [z])) H3 Q (every W)
/-- one keyword's value -/
theorem tM_key {te : TE} {σ : L2.St} {H : Hp} {P : V → Hp → Prop} (w : te σ H P) (mono : ∀ {Q Q' : V → Hp → Prop}, te σ H Q → (∀ x H, Q x H → Q' x H) → te σ H Q') : tCons te tNil σ H fun zs H' => ∃ c, zs = [c] ∧ P c H' := mono w fun x H' h => ⟨x, rfl, h⟩
theorem pe_lack {e : Expr} {es : List Expr} {t : TA} (hb : noSup o = true) (hs : (e :: es).all noStar = true) (hl : (e :: es).length < 28) (hp : (apos.endLine == pos.line) = true) (ho : PE X o (tM B W (RV B) mo)) (ha : PA X (e :: es) t) (hr : Room k X.A) (tk : Takes X W) :
    PE X (.Call (.Attribute o m apos) (e :: es) [] pos) (tLack X W k m y d (tM B W (RV B) mo) t) := by
  obtain ⟨s1, s2⟩ : noStar e = true ∧ es.all noStar = true := by simpa only [List.all_cons, Bool.and_eq_true] using hs
  constructor
  intro pins s σ H Q I h
  apply methcall_of ho I (tM_mono h ?_) (eval_meth hb hs hl hp)
  rintro x H1 ⟨a, f, sp, rfl, T, q⟩
  obtain ⟨C, dx, fs, e1, e2, e3, M⟩ := T.is
  obtain ⟨fd, ps, b, F⟩ := T.ok
  obtain ⟨ds, hd, bd⟩ := b.dflt
  refine ⟨a, C, dx, fs, f, rfl, e1, e3, M, e2, fun s1' J => PySem.W.callWith_K (h₀ := X.base) J.mod.kin M.kp ?_ (star_cons s1) (star_any s2)⟩
  refine thn (ha.run pos pins s1' σ H1 _ J q) ?_
  rintro us s3 ⟨vs, H2, J2, r, w⟩
  exact ⟨J2.kIn, run_fn (us := .ref a :: us) (vs := .ref a :: vs) F hr bd hd (every_passes tk) J2 (Paired.cons (show RelV (.ref a) (Value.ref a) from rfl) r) w⟩
theorem pe_key {e z : Expr} {es : List Expr} {t : TA} {mz : Ab.Env → Ab.Sto → Ab.R Ab.Val} {kp : Pos} (hb : noSup o = true) (hs : (e :: es).all noStar = true) (hl : (e :: es).length < 28) (hp : (apos.endLine == pos.line) = true) (ho : PE X o (tM B W (RV B) mo)) (ha : PA X (e :: es) t) (hz : PE X z (tM B W (RV B) mz)) (hr : Room k X.A) (tk : Takes X W) :
    PE X (.Call (.Attribute o m apos) (e :: es) [⟨some y, z, kp⟩] pos) (tKey X W k m y d (tM B W (RV B) mo) t (tM B W (RV B) mz)) := by
  obtain ⟨s1, s2⟩ : noStar e = true ∧ es.all noStar = true := by simpa only [List.all_cons, Bool.and_eq_true] using hs
  constructor
  intro pins s σ H Q I h
  refine PySem.W.methodCall_KW (pl := do return (← importBound o X.env).getD true) (thn (ho.run pins s σ H _ I h) ?_) (eval_key hb hs hl hp)
  rintro u s3 ⟨x, H1, J, rx, a, f, sp, rfl, T, q⟩
  cases rx
  obtain ⟨C, dx, fs, e1, e2, e3, M⟩ := T.is
  obtain ⟨fd, ps, b, F⟩ := T.ok
  apply getmeth_ok J e1 e3 M e2
  refine PySem.W.callWith_KW (first := [.ref a]) (h₀ := X.base) J.mod.kin M.kp rfl ?_ (any_key hs) (star_cons s1)
  refine thn (ha.run pos pins s3 σ H1 _ J q) ?_
  rintro us s4 ⟨vs, H2, J2, r, w⟩
  refine thn ((pk_cons hz pk_nil).run pos pins s4 σ H2 _ J2 (tM_key w fun h k => tM_mono h k)) ?_
  rintro ws s5 ⟨zs, H3, J3, rz, c, rfl, w2⟩
  refine ⟨J3.kIn, ?_⟩
  have hn := F.len _ _ _ _ w2
  refine run_fnN (us := .ref a :: us) (vs := .ref a :: vs) F hr b.key (every_passes tk) J3 (Paired.cons (show RelV (.ref a) (Value.ref a) from rfl) r) rz ?_ rfl w2
  simp only [List.length_cons, List.length_append, List.length_nil] at hn ⊢
  omega
end
/-! ### one of two readings -/
section
variable {X : Cx}
theorem PE_or {e : Expr} {t t' : TE} (h : PE X e t) (h' : PE X e t') : PE X e (fun σ H Q => t σ H Q ∨ t' σ H Q) := ⟨fun pins s σ H Q I q => q.elim (h.run pins s σ H Q I) (h'.run pins s σ H Q I)⟩
theorem PE_no {e : Expr} : PE X e (fun _ _ _ => False) := ⟨fun _ _ _ _ _ _ q => q.elim⟩
theorem PI_or {tg e : Expr} {t t' : TI} (h : PI X tg e t) (h' : PI X tg e t') : PI X tg e (fun σ H Q => t σ H Q ∨ t' σ H Q) := ⟨fun pins s σ H Q I q => q.elim (h.run pins s σ H Q I) (h'.run pins s σ H Q I)⟩
theorem PS_or {e : Stmt} {t t' : TS} (h : PS X e t) (h' : PS X e t') : PS X e (fun σ H Q => t σ H Q ∨ t' σ H Q) := ⟨fun pins s σ H Q I q => q.elim (h.run pins s σ H Q I) (h'.run pins s σ H Q I)⟩
end
end Sn
end
section
set_option Elab.async false
set_option linter.all false
set_option autoImplicit false
set_option maxRecDepth 100000
set_option maxHeartbeats 4000000
/-! Operators. -/
namespace Sn
open PySem L2
open Ab (Val SO Sto Exc R Txt)
variable {B : Bs}
open Ab (toD toDs)
theorem str_beq (a b : Txt) : (str a == str b) = (a == b) := by
  by_cases h : a = b
  · subst h; simp
  · have h2 : ¬ str a = str b := fun e => h (by simpa [str] using e)
    rw [beq_eq_false_iff_ne.mpr h, beq_eq_false_iff_ne.mpr h2]
mutual
theorem pyEq_eqv : ∀ (a b : Val), PyData.eqv (toD a) (toD b) = Ab.pyEq a b
  | .non, b => by cases b <;> simp [toD, PyData.eqv, Ab.pyEq]
  | .bl _, b => by cases b <;> simp [toD, PyData.eqv, Ab.pyEq, Ab.numOf] <;> (try (rename_i x y; cases x <;> cases y <;> rfl))
  | .int _, b => by cases b <;> simp [toD, PyData.eqv, Ab.pyEq, Ab.numOf]
  | .str _, b => by cases b <;> simp [toD, PyData.eqv, Ab.pyEq, str_beq]
  | .loc _, b => by cases b <;> simp [toD, PyData.eqv, Ab.pyEq, Ab.numOf]
  | .scr _, b => by cases b <;> simp [toD, PyData.eqv, Ab.pyEq, Ab.numOf]
  | .exc _ _, b => by cases b <;> simp [toD, PyData.eqv, Ab.pyEq, Ab.numOf]
  | .tup x, b => by
    cases b with
    | tup y => simpa [toD, PyData.eqv, Ab.pyEq] using pyEqs_eqv x y
    | _ => simp [toD, PyData.eqv, Ab.pyEq]
  | .lst x, b => by
    cases b with
    | lst y => simpa [toD, PyData.eqv, Ab.pyEq] using pyEqs_eqv x y
    | _ => simp [toD, PyData.eqv, Ab.pyEq]
theorem pyEqs_eqv : ∀ (a b : List Val), PyData.eqvAll (toDs a) (toDs b) = Ab.pyEqs a b
  | [], b => by cases b <;> simp [toDs, PyData.eqvAll, Ab.pyEqs]
  | x :: a, b => by
    cases b with
    | nil => simp [toDs, PyData.eqvAll, Ab.pyEqs]
    | cons y b => simp [toDs, PyData.eqvAll, Ab.pyEqs, pyEq_eqv x y, pyEqs_eqv a b]
end
theorem any_eqv (d : Val) : ∀ ds : List Val, ((toDs ds).any fun z => PyData.eqv z (toD d)) = ds.any fun z => Ab.pyEq z d
  | [] => rfl
  | x :: r => by
    simp only [toDs, List.any_cons]
    rw [pyEq_eqv x d, any_eqv d r]
theorem mapM_some {α β : Type} {f : α → Option β} : ∀ {l : List α} {r : List β}, l.mapM f = some r → (l = [] ∧ r = []) ∨ ∃ a t b u, l = a :: t ∧ r = b :: u ∧ f a = some b ∧ t.mapM f = some u
  | [], r, h => by simp at h; exact .inl ⟨rfl, h⟩
  | a :: t, r, h => by
    rw [List.mapM_cons] at h
    cases e : f a with
    | none => rw [e] at h; cases h
    | some b =>
      rw [e] at h
      cases e2 : t.mapM f with
      | none => rw [e2] at h; cases h
      | some u =>
        rw [e2] at h
        cases h
        exact .inr ⟨a, t, b, u, rfl, rfl, e, e2⟩
/-- what res reads is data -/
structure Dat (B : Bs) (H : Hp) (n : Nat) (x : V) (w : Val) : Prop where
  d : Dp B.K H x (toD w)
  p : (toD w).canLay0 = true
  h : (toD w).depth ≤ n
theorem dat_all {φ : List Addr} {F : Hp} {s : Sto} {H : Hp} {n : Nat} {f : Val → Option Val} (hf : ∀ v w x, f v = some w → RV B φ F v x → Dat B H n x w) : ∀ {vs ws : List Val} {xs : List V}, vs.mapM f = some ws → RVs B φ F vs xs →
    DpAll B.K H xs (toDs ws) ∧ PyData.canLayAll0 (toDs ws) = true ∧ PyData.depthAll (toDs ws) ≤ n
  | [], ws, xs, h, r => by
    rcases mapM_some h with ⟨_, rfl⟩ | ⟨a, t, b, u, e, _⟩
    · rw [show xs = [] from r]
      exact ⟨.nil, rfl, Nat.zero_le _⟩
    · cases e
  | v :: vs, ws, xs, h, ⟨x, r, e, h1, h2⟩ => by
    rcases mapM_some h with ⟨e, _⟩ | ⟨a, t, b, u, e1, rfl, e2, e3⟩
    · cases e
    · cases e1
      subst e
      obtain ⟨d1, d2, d3⟩ := hf _ _ _ e2 h1
      obtain ⟨g1, g2, g3⟩ := dat_all (s := s) hf e3 h2
      exact ⟨.cons d1 g1, by simp [toDs, PyData.canLayAll0, d2, g2], by simp only [toDs, PyData.depthAll]; omega⟩
theorem res_dat {φ : List Addr} {F : Hp} {s : Sto} {H : Hp} (rp : Rp B φ F s H) : ∀ (n : Nat) (v w : Val) (x : V), Ab.res s n v = some w → RV B φ F v x → Dat B H n x w
  | 0, _, _, _, h, _ => by simp [Ab.res] at h
  | n + 1, v, w, x, h, r => by
    have ih := res_dat rp n
    have mk : ∀ (vs ws : List Val) (xs : List V), vs.mapM (Ab.res s n) = some ws → RVs B φ F vs xs → DpAll B.K H xs (toDs ws) ∧ PyData.canLayAll0 (toDs ws) = true ∧ PyData.depthAll (toDs ws) ≤ n :=
      fun vs ws xs a b => dat_all (s := s) ih a b
    cases v with
    | non => simp [Ab.res] at h; subst h; rw [show x = _ from r]; exact ⟨.non, rfl, Nat.zero_le _⟩
    | bl b => simp [Ab.res] at h; subst h; rw [show x = _ from r]; exact ⟨.bl _, rfl, Nat.zero_le _⟩
    | int b => simp [Ab.res] at h; subst h; rw [show x = _ from r]; exact ⟨.int _, rfl, Nat.zero_le _⟩
    | str b =>
      simp [Ab.res] at h
      subst h
      rw [show x = _ from r.1]
      exact ⟨.str _, by simpa [toD, PyData.canLay0, PyData.strOk, good] using r.2, Nat.zero_le _⟩
    | scr _ => simp [Ab.res] at h
    | exc _ _ => simp [Ab.res] at h
    | tup vs =>
      simp only [Ab.res, Option.map_eq_some_iff] at h
      obtain ⟨ws, h1, rfl⟩ := h
      obtain ⟨a, xs, rfl, hf, hv⟩ := r
      obtain ⟨g1, g2, g3⟩ := mk vs ws xs h1 hv
      exact ⟨.tup (SqT.of (rp.fz _ _ hf)) g1, by simpa [toD, PyData.canLay0] using g2, by simp only [toD, PyData.depth]; omega⟩
    | lst vs =>
      simp only [Ab.res, Option.map_eq_some_iff] at h
      obtain ⟨ws, h1, rfl⟩ := h
      obtain ⟨a, xs, rfl, hf, hv⟩ := r
      obtain ⟨g1, g2, g3⟩ := mk vs ws xs h1 hv
      exact ⟨.lst (SqL.of (rp.fz _ _ hf)) g1, by simpa [toD, PyData.canLay0] using g2, by simp only [toD, PyData.depth]; omega⟩
    | loc l =>
      obtain ⟨a, rfl, ha⟩ := r
      simp only [Ab.res] at h
      split at h
      · rename_i vs e
        simp only [Option.map_eq_some_iff] at h
        obtain ⟨ws, h1, rfl⟩ := h
        obtain ⟨ho, e1, xs, rfl, hv⟩ := rp.at ha e
        obtain ⟨g1, g2, g3⟩ := mk vs ws xs h1 hv
        exact ⟨.lst (SqL.of e1) g1, by simpa [toD, PyData.canLay0] using g2, by simp only [toD, PyData.depth]; omega⟩
      · cases h
/-- a list's items stand in the heap -/
theorem lst_at {φ : List Addr} {F : Hp} {s : Sto} {H : Hp} (rp : Rp B φ F s H) {v : Val} {x : V} {vs : List Val} (h : Ab.lstOf s v = some vs) (r : RV B φ F v x) : ∃ a xs, x = .ref a ∧ H a = some (.lst xs) ∧ RVs B φ F vs xs := by
  cases v with
  | lst ws =>
    simp [Ab.lstOf] at h
    subst h
    obtain ⟨a, xs, rfl, hf, hv⟩ := r
    exact ⟨a, xs, rfl, rp.fz _ _ hf, hv⟩
  | loc l =>
    obtain ⟨a, rfl, ha⟩ := r
    simp only [Ab.lstOf] at h
    split at h
    · rename_i ws e
      cases h
      obtain ⟨ho, e1, xs, rfl, hv⟩ := rp.at ha e
      exact ⟨a, xs, rfl, e1, hv⟩
    · cases h
  | _ => simp [Ab.lstOf] at h
theorem seq_lst {s : Sto} {v : Val} (h : ∀ ws, v ≠ .tup ws) : Ab.seqOf s v = Ab.lstOf s v := by
  cases v <;> first | rfl | exact absurd rfl (h _)
theorem seq_at {φ : List Addr} {F : Hp} {s : Sto} {H : Hp} (rp : Rp B φ F s H) {v : Val} {x : V} {vs : List Val} (h : Ab.seqOf s v = some vs) (r : RV B φ F v x) : ∃ a xs, x = .ref a ∧ (H a = some (.lst xs) ∨ (H a = some (.tup xs) ∧ v = .tup vs)) ∧ RVs B φ F vs xs := by
  by_cases c : ∃ ws, v = .tup ws
  · obtain ⟨ws, rfl⟩ := c
    simp [Ab.seqOf] at h
    subst h
    obtain ⟨a, xs, rfl, hf, hv⟩ := r
    exact ⟨a, xs, rfl, .inr ⟨rp.fz _ _ hf, rfl⟩, hv⟩
  · rw [seq_lst fun ws e => c ⟨ws, e⟩] at h
    obtain ⟨a, xs, e, h1, h2⟩ := lst_at rp h r
    exact ⟨a, xs, e, .inl h1, h2⟩
/-- a new list -/
theorem new_lst {φ : List Addr} {F : Hp} {s : Sto} {H : Hp} {W : WX} {σ : L2.St} {Q : VK} {m : Bool} {vs : List Val} {xs : List V} (rp : Rp B φ F s H) (h : Out B W (RV B) φ F H (Ab.lift (some (Ab.alloc m vs s))) σ Q) (r : RVs B φ F vs xs) {p : Addr} (hp : H p = none) :
    Q (.ref p) (upd H p (.lst xs)) := by
  cases m with
  | true =>
    obtain ⟨e, rp', at'⟩ := rp.placed hp (o := .list vs) (ho := .lst xs) fun φ' e => ⟨xs, rfl, r.mono e⟩
    exact h _ _ _ _ e rp' ⟨p, rfl, at'⟩
  | false =>
    obtain ⟨e, rp'⟩ := rp.frozen hp (.lst xs)
    exact h _ _ _ _ e rp' ⟨p, xs, rfl, upd_same, r.mono e.le⟩
theorem new_tup {φ : List Addr} {F : Hp} {s : Sto} {H : Hp} {W : WX} {σ : L2.St} {Q : VK} {vs : List Val} {xs : List V} (rp : Rp B φ F s H) (h : Out B W (RV B) φ F H (Ab.ok (.tup vs) s) σ Q) (r : RVs B φ F vs xs) {p : Addr} (hp : H p = none) :
    Q (.ref p) (upd H p (.tup xs)) := by
  obtain ⟨e, rp'⟩ := rp.frozen hp (.tup xs)
  exact h _ _ _ _ e rp' ⟨p, xs, rfl, upd_same, r.mono e.le⟩
theorem line_of {n : Nat} (h : n ≤ Ab.LIM) : n ≤ sizeLine := Nat.le_trans h (by decide)
theorem line_lt {n : Nat} (h : n < Ab.LIM) : n < sizeLine := Nat.lt_of_lt_of_le h (by decide)
theorem str_len (s : Txt) : (str s).length = s.length := by simp [str, Str.length]
theorem str_app (a b : Txt) : str a ++ str b = str (a ++ b) := by
  show Str.mk _ = Str.mk _
  simp
/-! ### by values -/
section
variable {X : Cx}
def rStrA : R2 := fun x y H Q => ∃ i j, x = .str i ∧ y = .str j ∧ i.length + j.length ≤ sizeLine ∧ Q (.str (i ++ j)) H
def rBin (K : PySem.W.Frag) : Ab.BOp → R2
  | .add => fun x y H Q => rI0 (fun i j => .int (i + j)) x y H Q ∨ (rStrA x y H Q ∨ (rCat x y H Q ∨ rCatA K x y H Q))
  | .sub => rI0 fun i j => .int (i - j)
  | .mul => rI CMul fun i j => .int (i * j)
  | .fdiv => rI CDiv fun i j => .int (i / j)
  | .mod => rI (fun _ j => 0 < j) fun i j => .int (i % j)
  | .pow => fun _ _ _ _ => False
def opB : Ab.BOp → Operator
  | .add => .Add
  | .sub => .Sub
  | .mul => .Mult
  | .fdiv => .FloorDiv
  | .mod => .Mod
  | .pow => .Pow
theorem op_bin (op : Ab.BOp) : OpR X (binaryOp (opB op)) (rBin X.K op) := by
  cases op with
  | add => exact OpR.or op_add (OpR.or op_add_str (OpR.or op_cat op_catA))
  | sub => exact op_sub
  | mul => exact op_mul
  | fdiv => exact op_fdiv
  | mod => exact op_mod
  | pow => exact fun _ _ _ _ _ _ _ _ _ _ _ _ h => h.elim
theorem bin_ok {φ : List Addr} {F : Hp} {s : Sto} {H : Hp} {W : WX} {σ : L2.St} {Q : VK} {op : Ab.BOp} {m : Bool} {a b : Val} {x y : V} (rp : Rp B φ F s H) (ra : RV B φ F a x) (rb : RV B φ F b y)
    (h : Out B W (RV B) φ F H (Ab.lift (Ab.binV op m a b s)) σ Q) : rBin B.K op x y H Q := by
  have lst : ∀ (a b : Val), RV B φ F a x → RV B φ F b y → Out B W (RV B) φ F H (Ab.lift (match Ab.lstOf s a, Ab.lstOf s b with
      | some x, some y => if x.length + y.length ≤ Ab.LIM then some (Ab.alloc m (x ++ y) s) else none
      | _, _ => none)) σ Q → rBin B.K .add x y H Q := by
    intro a b ra rb h
    cases e1 : Ab.lstOf s a with
    | none => rw [e1] at h; exact h.elim
    | some vs =>
      cases e2 : Ab.lstOf s b with
      | none => rw [e1, e2] at h; exact h.elim
      | some ws =>
        rw [e1, e2] at h
        dsimp only at h
        by_cases c : vs.length + ws.length ≤ Ab.LIM
        · rw [if_pos c] at h
          obtain ⟨p, xs, ex, hp, r1⟩ := lst_at rp e1 ra
          obtain ⟨q, ys, ey, hq, r2⟩ := lst_at rp e2 rb
          rw [r1.length, r2.length] at c
          exact .inr (.inr (.inl ⟨p, q, xs, ys, ex, ey, hp, hq, line_of c, fun l hl => new_lst rp h (r1.append r2) hl⟩))
        · rw [if_neg c] at h
          exact h.elim
  cases op with
  | add =>
    cases a with
    | int i =>
      cases b with
      | int j => exact .inl ⟨i, j, ra, rb, h.now rp rfl⟩
      | _ => exact lst (.int i) _ ra rb h
    | str i =>
      cases b with
      | str j =>
        simp only [Ab.binV] at h
        by_cases c : i.length + j.length ≤ Ab.LIM
        · rw [if_pos c] at h
          refine .inr (.inl ⟨_, _, ra.1, rb.1, by rw [str_len, str_len]; exact line_of c, ?_⟩)
          rw [str_app]
          exact h.now rp ⟨rfl, fun c hc => (List.mem_append.mp hc).elim (ra.2 c) (rb.2 c)⟩
        · rw [if_neg c] at h
          exact h.elim
      | _ => exact lst (.str i) _ ra rb h
    | tup i =>
      cases b with
      | tup j =>
        simp only [Ab.binV] at h
        by_cases c : i.length + j.length ≤ Ab.LIM
        · rw [if_pos c] at h
          obtain ⟨p, xs, rfl, hp, r1⟩ := ra
          obtain ⟨q, ys, rfl, hq, r2⟩ := rb
          rw [r1.length, r2.length] at c
          refine .inr (.inr (.inr ⟨p, q, xs, ys, rfl, rfl, SqT.of (rp.fz _ _ hp), SqT.of (rp.fz _ _ hq), line_of c, fun z => ?_, fun _ z => ?_, fun _ _ l hl => new_tup rp h (r1.append r2) hl⟩))
          · subst z
            have : i = [] := List.eq_nil_of_length_eq_zero r1.length
            subst this
            exact h.now rp ⟨q, ys, rfl, hq, r2⟩
          · subst z
            have : j = [] := List.eq_nil_of_length_eq_zero r2.length
            subst this
            rw [List.append_nil] at h
            exact h.now rp ⟨p, xs, rfl, hp, r1⟩
        · rw [if_neg c] at h
          exact h.elim
      | _ => exact lst (.tup i) _ ra rb h
    | _ => exact lst _ b ra rb h
  | sub => cases a <;> cases b <;> first | exact ⟨_, _, ra, rb, h.now rp rfl⟩ | exact h.elim
  | mul =>
    cases a <;> cases b <;> try exact h.elim
    rename_i i j
    simp only [Ab.binV] at h
    by_cases c : Ab.mulOk i j = true
    · rw [if_pos c] at h
      exact ⟨i, j, ra, rb, by simpa [Ab.mulOk, CMul] using c, h.now rp rfl⟩
    · rw [if_neg c] at h
      exact h.elim
  | fdiv =>
    cases a <;> cases b <;> try exact h.elim
    rename_i i j
    simp only [Ab.binV] at h
    by_cases c : 0 < j ∧ j < 1073741824
    · rw [if_pos c] at h
      exact ⟨i, j, ra, rb, c, h.now rp rfl⟩
    · rw [if_neg c] at h
      exact h.elim
  | mod =>
    cases a <;> cases b <;> try exact h.elim
    rename_i i j
    simp only [Ab.binV] at h
    by_cases c : 0 < j
    · rw [if_pos c] at h
      exact ⟨i, j, ra, rb, c, h.now rp rfl⟩
    · rw [if_neg c] at h
      exact h.elim
  | pow => exact h.elim
end
end Sn
end
section
set_option Elab.async false
set_option linter.all false
set_option autoImplicit false
set_option maxRecDepth 100000
set_option maxHeartbeats 4000000
/-! Comparisons, places, slices. -/
namespace Sn
open PySem L2
open Ab (Val SO Sto Exc R Txt toD toDs)
variable {B : Bs} {X : Cx}
/-! ### comparisons -/
def ngt (n : Bool) (b : Bool) : Bool := if n = true then !b else b
def inOp (n : Bool) : CmpOp := if n = true then .NotIn else .In
/-- in a list of data -/
def rInL (K : PySem.W.Frag) (n : Bool) : R2 := if n = true then rNotInD K else rInD K
theorem op_inL (hu : X.A.units + 65 < cLine) (n : Bool) : OpR X (compareOp (inOp n)) (rInL X.K n) := by
  cases n
  · exact op_inD hu
  · exact op_notInD hu
/-- in a tuple of flat things -/
theorem op_inF (n : Bool) : OpR X (compareOp (inOp n)) (rIn X.K n) := by
  cases n
  · exact op_in_seq
  · exact op_notIn_seq
def rInC (n : Bool) : R2 := fun x y H Q => ∃ (c : Nat) (z : Str), x = .str ⟨#[c]⟩ ∧ y = .str z ∧ Q (.bl (ngt n (decide (c ∈ z.cps.toList)))) H
theorem op_inC (n : Bool) : OpR X (compareOp (inOp n)) (rInC n) := by
  cases n
  · exact op_in_sign
  · exact op_notIn_sign
/-- a key of a dict -/
def rInK (n : Bool) : R2 := fun x y H Q => ∃ a o, y = .ref a ∧ DGet H a x o ∧ Q (.bl (ngt n o.isSome)) H
theorem op_inK (hu : X.A.units + 1 < cLine) (n : Bool) : OpR X (compareOp (inOp n)) (rInK n) := by
  rintro pins s σ H x y v u Q I rx ry ⟨a, o, e, g, q⟩
  have hu' : u = Value.ref a := by rw [e] at ry; exact ry
  rw [hu']
  have fin : ∀ s', Inv X pins σ H s' → EP X pins σ Q (.bool (ngt n o.isSome)) s' := fun s' J => ⟨.bl (ngt n o.isSome), H, J, rfl, q⟩
  cases n
  · exact d_in hu I g rx fin
  · exact d_notIn hu I g rx fin
def rCmp (K : PySem.W.Frag) : Ab.COp → R2
  | .eq => rEqD K
  | .ne => rNeD K
  | .lt => rI0 fun i j => .bl (decide (i < j))
  | .le => rI0 fun i j => .bl (decide (i ≤ j))
  | .gt => rI0 fun i j => .bl (decide (j < i))
  | .ge => rI0 fun i j => .bl (decide (j ≤ i))
  | .inn => fun x y H Q => rInL K false x y H Q ∨ (rIn K false x y H Q ∨ (rInC false x y H Q ∨ rInK false x y H Q))
  | .notin => fun x y H Q => rInL K true x y H Q ∨ (rIn K true x y H Q ∨ (rInC true x y H Q ∨ rInK true x y H Q))
def opC : Ab.COp → CmpOp
  | .eq => .Eq
  | .ne => .NotEq
  | .lt => .Lt
  | .le => .LtE
  | .gt => .Gt
  | .ge => .GtE
  | .inn => .In
  | .notin => .NotIn
theorem op_cmp (hu : X.A.units + 66 < cLine) (op : Ab.COp) : OpR X (compareOp (opC op)) (rCmp X.K op) := by
  cases op with
  | eq => exact op_eqD (by omega)
  | ne => exact op_neD (by omega)
  | lt => exact op_lt
  | le => exact op_le
  | gt => exact op_gt
  | ge => exact op_ge
  | inn => exact OpR.or (op_inL (by omega) false) (OpR.or (op_inF false) (OpR.or (op_inC false) (op_inK (by omega) false)))
  | notin => exact OpR.or (op_inL (by omega) true) (OpR.or (op_inF true) (OpR.or (op_inC true) (op_inK (by omega) true)))
/-! ### dicts -/
theorem str_inj {a b : Txt} : str a = str b ↔ a = b := by simp [str]
theorem keyS_inj {a b : Txt} : keyS a = keyS b ↔ a = b := by simp [keyS, str]
theorem keyT_inj : ∀ {a b : Ab.AKey}, keyT a = keyT b ↔ a = b
  | [], [] => by simp [keyT]
  | [], _ :: _ => by simp [keyT]
  | _ :: _, [] => by simp [keyT]
  | x :: a, y :: b => by
    have ih := @keyT_inj a b
    have h1 : ((keyT (x :: a)) = keyT (y :: b)) ↔ ((match x with | .inl i => (Sum.inl i : Key) | .inr s => Sum.inr (str s)) = (match y with | .inl i => (Sum.inl i : Key) | .inr s => Sum.inr (str s)) ∧ keyT a = keyT b) := by
      show List.cons _ _ = List.cons _ _ ↔ _
      rw [List.cons.injEq]
      rfl
    rw [h1, ih, List.cons.injEq]
    cases x <;> cases y <;> simp [str_inj]
/-- what is found, or nothing -/
def Got (B : Bs) (φ : List Addr) (F : Hp) (o : Option Val) (o' : Option V) : Prop := match o with
  | some v => ∃ z, o' = some z ∧ RV B φ F v z
  | none => o' = none
section
variable {α κ : Type} [DecidableEq α] [DecidableEq κ] {g : α → κ}
theorem RKs.get {φ : List Addr} {F : Hp} (hg : ∀ a b, g a = g b ↔ a = b) (k : α) : ∀ {kvs : List (α × Val)} {xs : List (κ × V)}, RKs B g φ F kvs xs → Got B φ F (Ab.dget kvs k) (valV xs (g k))
  | [], xs, h => by
    rw [show xs = [] from h]
    exact valV_nil
  | p :: r, xs, ⟨x, t, e, h1, h2⟩ => by
    subst e
    unfold Ab.dget
    by_cases q : p.1 = k
    · rw [if_pos q]
      exact ⟨x, valV_pos (congrArg g q), h1⟩
    · rw [if_neg q, valV_neg fun z => q ((hg _ _).mp z)]
      exact RKs.get hg k h2
theorem RKs.len {φ : List Addr} {F : Hp} : ∀ {kvs : List (α × Val)} {xs : List (κ × V)}, RKs B g φ F kvs xs → kvs.length = xs.length
  | [], xs, h => by rw [show xs = [] from h]; rfl
  | p :: r, xs, ⟨x, t, e, h1, h2⟩ => by rw [e, List.length_cons, List.length_cons, RKs.len h2]
theorem RKs.repl {φ : List Addr} {F : Hp} (hg : ∀ a b, g a = g b ↔ a = b) (k : α) {u : Val} {y : V} (hu : RV B φ F u y) : ∀ {kvs : List (α × Val)} {xs : List (κ × V)}, RKs B g φ F kvs xs →
    RKs B g φ F (kvs.map fun p => (p.1, if p.1 = k then u else p.2)) (xs.map fun q => if q.1 = g k then (q.1, y) else q)
  | [], xs, h => by rw [show xs = [] from h]; rfl
  | p :: r, xs, ⟨x, t, e, h1, h2⟩ => by
    subst e
    have ih := RKs.repl hg k hu h2
    by_cases q : p.1 = k
    · refine ⟨y, _, ?_, by simpa [q] using hu, ih⟩
      simp [q]
    · have q2 : ¬ g p.1 = g k := fun z => q ((hg _ _).mp z)
      refine ⟨x, _, ?_, by simpa [q] using h1, ih⟩
      simp [q2]
theorem RKs.snoc {φ : List Addr} {F : Hp} {k : α} {u : Val} {y : V} (hu : RV B φ F u y) : ∀ {kvs : List (α × Val)} {xs : List (κ × V)}, RKs B g φ F kvs xs → RKs B g φ F (kvs ++ [(k, u)]) (xs ++ [(g k, y)])
  | [], xs, h => by rw [show xs = [] from h]; exact ⟨y, [], rfl, hu, rfl⟩
  | p :: r, xs, ⟨x, t, e, h1, h2⟩ => by
    subst e
    exact ⟨x, _, rfl, h1, RKs.snoc hu h2⟩
theorem RKs.put {φ : List Addr} {F : Hp} (hg : ∀ a b, g a = g b ↔ a = b) {k : α} {u : Val} {y : V} (hu : RV B φ F u y) {kvs : List (α × Val)} {xs : List (κ × V)} (h : RKs B g φ F kvs xs) : RKs B g φ F (Ab.dput kvs k u) (putK xs (g k) y) := by
  have e := RKs.get hg k h
  unfold Ab.dput
  cases c : Ab.dget kvs k with
  | none =>
    rw [c] at e
    rw [putK_new y (show valV xs (g k) = none from e)]
    exact RKs.snoc hu h
  | some v =>
    rw [c] at e
    obtain ⟨z, e, _⟩ := e
    have there : (xs.any fun kv => decide (kv.1 = g k)) = true := by rw [valV_any, e]; rfl
    unfold putK
    rw [if_pos there]
    exact RKs.repl hg k hu h
end
/-- a key that is a tuple -/
theorem key_of_vals {φ : List Addr} {F : Hp} : ∀ {ks : List Val} {k : Ab.AKey} {xs : List V}, Ab.keyOf ks = some k → RVs B φ F ks xs → xs = (keyT k).map kV
  | [], k, xs, h, r => by
    simp [Ab.keyOf] at h
    subst h
    exact r
  | .int i :: r, k, xs, h, ⟨x, t, e, h1, h2⟩ => by
    simp only [Ab.keyOf, Option.map_eq_some_iff] at h
    obtain ⟨k', e1, rfl⟩ := h
    rw [e, key_of_vals e1 h2, show x = _ from h1]
    rfl
  | .str i :: r, k, xs, h, ⟨x, t, e, h1, h2⟩ => by
    simp only [Ab.keyOf, Option.map_eq_some_iff] at h
    obtain ⟨k', e1, rfl⟩ := h
    rw [e, key_of_vals e1 h2, show x = _ from h1.1]
    rfl
  | .non :: _, _, _, h, _ => by simp [Ab.keyOf] at h
  | .bl _ :: _, _, _, h, _ => by simp [Ab.keyOf] at h
  | .tup _ :: _, _, _, h, _ => by simp [Ab.keyOf] at h
  | .lst _ :: _, _, _, h, _ => by simp [Ab.keyOf] at h
  | .loc _ :: _, _, _, h, _ => by simp [Ab.keyOf] at h
  | .scr _ :: _, _, _, h, _ => by simp [Ab.keyOf] at h
  | .exc _ _ :: _, _, _, h, _ => by simp [Ab.keyOf] at h
/-- what a dict holds, by the heap -/
theorem dlook_ok {φ : List Addr} {F : Hp} {s : Sto} {H : Hp} (rp : Rp B φ F s H) {d k : Val} {x y : V} {o : Option Val} (rd : RV B φ F d x) (rk : RV B φ F k y) (h : Ab.dlook s d k = some o) :
    ∃ a o', x = .ref a ∧ DGet H a y o' ∧ IsD H a ∧ Got B φ F o o' := by
  cases d with
  | loc l =>
    obtain ⟨a, rfl, ha⟩ := rd
    cases e : s[l]? with
    | none => simp [Ab.dlook, e] at h
    | some ob =>
      cases ob with
      | dS kvs =>
        cases k with
        | str t =>
          simp only [Ab.dlook, e, Option.some.injEq] at h
          subst h
          obtain ⟨ho, e1, xs, rfl, hv⟩ := rp.at ha e
          rw [show y = _ from rk.1]
          exact ⟨a, _, rfl, DGet.k (k := keyS t) e1, .inl ⟨xs, Rd.of e1⟩, RKs.get (g := keyS) (fun _ _ => keyS_inj) t hv⟩
        | _ => simp [Ab.dlook, e] at h
      | dT kvs =>
        cases k with
        | tup ks =>
          simp only [Ab.dlook, e, Option.map_eq_some_iff] at h
          obtain ⟨k', e2, rfl⟩ := h
          obtain ⟨ho, e1, xs, rfl, hv, _⟩ := rp.at ha e
          obtain ⟨b, ys, rfl, hb, hk⟩ := rk
          have hb' : H b = some (.tup ((keyT k').map kV)) := by
            rw [← key_of_vals e2 hk]
            exact rp.fz _ _ hb
          exact ⟨a, _, rfl, DGet.t (k := keyT k') e1 hb', .inr ⟨xs, Rd.of e1⟩, RKs.get (g := keyT) (fun _ _ => keyT_inj) k' hv⟩
        | _ => simp [Ab.dlook, e] at h
      | dTf kvs =>
        cases k with
        | tup ks =>
          simp only [Ab.dlook, e, Option.map_eq_some_iff] at h
          obtain ⟨k', e2, rfl⟩ := h
          obtain ⟨ho, e1, od, xs, rfl, hv, _⟩ := rp.at ha e
          obtain ⟨b, ys, rfl, hb, hk⟩ := rk
          have hb' : H b = some (.tup ((keyT k').map kV)) := by
            rw [← key_of_vals e2 hk]
            exact rp.fz _ _ hb
          exact ⟨a, _, rfl, .inr ⟨xs, keyT k', b, .inr ⟨od, e1⟩, rfl, hb', rfl⟩, .inr ⟨xs, .inr ⟨od, e1⟩⟩, RKs.get (g := keyT) (fun _ _ => keyT_inj) k' hv⟩
        | _ => simp [Ab.dlook, e] at h
      | _ => simp [Ab.dlook, e] at h
  | _ => simp [Ab.dlook] at h
/-- texts of a key are texts -/
theorem good_of {φ : List Addr} {F : Hp} : ∀ {vs : List Val} {xs : List V} {k : Ab.AKey}, Ab.keyOf vs = some k → RVs B φ F vs xs → goodK k
  | [], _, k, h, _ => by
    cases h
    intro t ht
    cases ht
  | .int i :: r, _, k, h, ⟨_, _, _, _, h2⟩ => by
    simp only [Ab.keyOf, Option.map_eq_some_iff] at h
    obtain ⟨k', e1, rfl⟩ := h
    intro t ht
    rcases List.mem_cons.mp ht with z | z
    · cases z
    · exact good_of e1 h2 t z
  | .str x :: r, _, k, h, ⟨_, _, _, h1, h2⟩ => by
    simp only [Ab.keyOf, Option.map_eq_some_iff] at h
    obtain ⟨k', e1, rfl⟩ := h
    intro t ht
    rcases List.mem_cons.mp ht with z | z
    · cases z
      exact h1.2
    · exact good_of e1 h2 t z
  | .non :: _, _, _, h, _ => by simp [Ab.keyOf] at h
  | .bl _ :: _, _, _, h, _ => by simp [Ab.keyOf] at h
  | .tup _ :: _, _, _, h, _ => by simp [Ab.keyOf] at h
  | .lst _ :: _, _, _, h, _ => by simp [Ab.keyOf] at h
  | .loc _ :: _, _, _, h, _ => by simp [Ab.keyOf] at h
  | .scr _ :: _, _, _, h, _ => by simp [Ab.keyOf] at h
  | .exc _ _ :: _, _, _, h, _ => by simp [Ab.keyOf] at h
theorem put_good {kvs : List (Ab.AKey × Val)} {k : Ab.AKey} {v : Val} (h : ∀ p ∈ kvs, goodK p.1) (hk : goodK k) : ∀ p ∈ Ab.dput kvs k v, goodK p.1 := by
  intro p hp
  unfold Ab.dput at hp
  split at hp
  · obtain ⟨q, hq, rfl⟩ := List.mem_map.mp hp
    exact h q hq
  · rcases List.mem_append.mp hp with z | z
    · exact h p z
    · rw [List.mem_singleton.mp z]
      exact hk
theorem setV_ok {φ : List Addr} {F : Hp} {s s' : Sto} {H : Hp} (rp : Rp B φ F s H) {o i v : Val} {x y z : V} (ro : RV B φ F o x) (ri : RV B φ F i y) (rv : RV B φ F v z) (h : Ab.setV o i v s = some s') :
    ∃ a H', x = .ref a ∧ Ext φ F H φ F H' ∧ Rp B φ F s' H' ∧ ((∃ xs k j, y = .int k ∧ H a = some (.lst xs) ∧ L2.ixN xs.length k = some j ∧ H' = upd H a (.lst (xs.set j z))) ∨ DPut H a y z H') := by
  cases o with
  | loc l =>
    obtain ⟨a, rfl, ha⟩ := ro
    cases e : s[l]? with
    | none => simp [Ab.setV, e] at h
    | some ob =>
      cases ob with
      | list xs =>
        cases i with
        | int k =>
          simp only [Ab.setV, e, Option.map_eq_some_iff] at h
          obtain ⟨j, e2, rfl⟩ := h
          obtain ⟨ho, e1, ys, rfl, hv⟩ := rp.at ha e
          refine ⟨a, _, rfl, Ext.write rp ha, rp.write ha (fun _ z => by rw [e] at z; cases z) (o := .list (xs.set j v)) ⟨_, rfl, hv.set rv j⟩, .inl ⟨ys, k, j, ri, e1, ?_, rfl⟩⟩
          rw [← hv.length]
          exact e2
        | _ => simp [Ab.setV, e] at h
      | dS kvs =>
        cases i with
        | str t =>
          simp only [Ab.setV, e] at h
          by_cases c : kvs.length < Ab.LIM
          · rw [if_pos c] at h
            cases h
            obtain ⟨ho, e1, xs, rfl, hv⟩ := rp.at ha e
            rw [show y = _ from ri.1]
            exact ⟨a, _, rfl, Ext.write rp ha, rp.write ha (fun _ z => by rw [e] at z; cases z) (o := .dS (Ab.dput kvs t v)) ⟨_, rfl, RKs.put (fun _ _ => keyS_inj) rv hv⟩, .inr (DPut.k (k := keyS t) e1 (by rw [← RKs.len hv]; exact line_lt c))⟩
          · rw [if_neg c] at h
            cases h
        | _ => simp [Ab.setV, e] at h
      | dT kvs =>
        cases i with
        | tup ks =>
          simp only [Ab.setV, e] at h
          by_cases c : kvs.length < Ab.LIM
          · rw [if_pos c, Option.map_eq_some_iff] at h
            obtain ⟨k', e2, rfl⟩ := h
            obtain ⟨ho, e1, xs, rfl, hv, gk⟩ := rp.at ha e
            obtain ⟨b, ys, rfl, hb, hk⟩ := ri
            have hb' : H b = some (.tup ((keyT k').map kV)) := by
              rw [← key_of_vals e2 hk]
              exact rp.fz _ _ hb
            exact ⟨a, _, rfl, Ext.write rp ha, rp.write ha (fun _ z => by rw [e] at z; cases z) (o := .dT (Ab.dput kvs k' v)) ⟨_, rfl, RKs.put (fun _ _ => keyT_inj) rv hv, put_good gk (good_of e2 hk)⟩, .inr (DPut.t (k := keyT k') e1 hb' (by rw [← RKs.len hv]; exact line_lt c))⟩
          · rw [if_neg c] at h
            cases h
        | _ => simp [Ab.setV, e] at h
      | dTf kvs => simp [Ab.setV, e] at h
      | inst c fs => simp [Ab.setV, e] at h
  | _ => simp [Ab.setV] at h
/-! ### cmpV -/
theorem Dat.shaped {H : Hp} {x : V} {w : Val} (D : Dat B H Ab.DEEP x w) : SeqAt.shaped (toD w) = true := by
  simp only [SeqAt.shaped, D.p, Bool.true_and, decide_eq_true_eq]
  exact Nat.le_trans D.h (by decide)
/-- a flat value's own -/
def ownV : Val → V
  | .bl b => .bl b
  | .int i => .int i
  | .str s => .str (str s)
  | _ => .non
theorem flat_is {φ : List Addr} {F : Hp} {v : Val} {x : V} (r : RV B φ F v x) (h : Ab.flat v = true) : x = ownV v := by
  cases v with
  | str s => exact r.1
  | non => exact r
  | bl b => exact r
  | int i => exact r
  | _ => cases h
theorem flat_ok {φ : List Addr} {F : Hp} {v : Val} {x : V} (r : RV B φ F v x) (h : Ab.flat v = true) : flatV x = true := by
  rw [flat_is r h]
  cases v <;> rfl
theorem flats_ok {φ : List Addr} {F : Hp} : ∀ {vs : List Val} {xs : List V}, RVs B φ F vs xs → vs.all Ab.flat = true → xs.all flatV = true
  | [], xs, r, _ => by rw [show xs = [] from r]; rfl
  | v :: vs, xs, ⟨x, t, e, h1, h2⟩, h => by
    obtain ⟨g1, g2⟩ : Ab.flat v = true ∧ vs.all Ab.flat = true := by simpa using h
    simp [e, flat_ok h1 g1, flats_ok h2 g2]
theorem own_eq : ∀ (a b : Val), Ab.flat a = true → Ab.flat b = true → L2.eqV (ownV a) (ownV b) = Ab.pyEq a b := by
  intro a b ha hb
  cases a <;> first | (cases ha; done) | (cases b <;> first | (cases hb; done) | skip)
  all_goals first | rfl | (simp [ownV, L2.eqV, Ab.pyEq, Ab.numOf, str_beq]; done) | (rename_i p q; cases p <;> cases q <;> rfl)
theorem flat_eq {φ : List Addr} {F : Hp} {a b : Val} {x y : V} (ra : RV B φ F a x) (rb : RV B φ F b y) (ha : Ab.flat a = true) (hb : Ab.flat b = true) : L2.eqV x y = Ab.pyEq a b := by
  rw [flat_is ra ha, flat_is rb hb, own_eq a b ha hb]
theorem flat_in {φ : List Addr} {F : Hp} {a : Val} {x : V} (ra : RV B φ F a x) (ha : Ab.flat a = true) : ∀ {vs : List Val} {xs : List V}, RVs B φ F vs xs → vs.all Ab.flat = true → L2.inV x xs = vs.any fun z => Ab.pyEq z a
  | [], xs, r, _ => by rw [show xs = [] from r]; rfl
  | v :: vs, xs, ⟨y, t, e, h1, h2⟩, h => by
    obtain ⟨g1, g2⟩ : Ab.flat v = true ∧ vs.all Ab.flat = true := by simpa using h
    have ih := flat_in ra ha h2 g2
    rw [e, List.any_cons, ← ih, ← flat_eq h1 ra g1 ha]
    rfl
theorem eqV_ok {φ : List Addr} {F : Hp} {s : Sto} {H : Hp} {a b : Val} {x y : V} {c : Bool} (rp : Rp B φ F s H) (ra : RV B φ F a x) (rb : RV B φ F b y) (h : Ab.eqV s a b = some c) :
    ∃ d e, Dp B.K H x d ∧ Dp B.K H y e ∧ SeqAt.shaped d = true ∧ SeqAt.shaped e = true ∧ PyData.eqv d e = c := by
  simp only [Ab.eqV] at h
  split at h
  · rename_i u w e1 e2
    cases h
    have D1 := res_dat rp _ _ _ _ e1 ra
    have D2 := res_dat rp _ _ _ _ e2 rb
    exact ⟨_, _, D1.d, D2.d, D1.shaped, D2.shaped, pyEq_eqv _ _⟩
  · cases h
def isIn (s : Sto) (a b : Val) : Option Bool := match b with
  | .tup vs => Ab.inT a vs
  | _ => Ab.inV s a b
theorem inT_ok {φ : List Addr} {F : Hp} {H : Hp} {a : Val} {vs : List Val} {x : V} {xs : List V} {p : Addr} {c n : Bool} {Q : VK} (ra : RV B φ F a x) (hv : RVs B φ F vs xs) (hp : SqT B.K H p xs) (h : Ab.inT a vs = some c) (q : Q (.bl (ngt n c)) H) : rIn B.K n x (.ref p) H Q := by
  simp only [Ab.inT] at h
  split at h
  · rename_i f
    cases h
    refine ⟨p, xs, rfl, .inr hp, flat_ok ra f.1, flats_ok hv f.2, ?_⟩
    rw [flat_in ra f.1 hv f.2]
    exact q
  · cases h
theorem inS_ok {φ : List Addr} {F : Hp} {s : Sto} {H : Hp} {a b : Val} {x y : V} {c n : Bool} {Q : VK} (rp : Rp B φ F s H) (ra : RV B φ F a x) (rb : RV B φ F b y)
    (h : isIn s a b = some c) (q : Q (.bl (ngt n c)) H) : rInL B.K n x y H Q ∨ (rIn B.K n x y H Q ∨ (rInC n x y H Q ∨ rInK n x y H Q)) := by
  have list : ∀ b, RV B φ F b y → (match Ab.res s Ab.DEEP a, Ab.res s Ab.DEEP b with
      | some d, some (.lst ds) => some (ds.any fun z => Ab.pyEq z d)
      | _, _ => none) = some c → rInL B.K n x y H Q := by
    intro b rb h
    split at h
    · rename_i d ds e1 e2
      cases h
      have D1 := res_dat rp _ _ _ _ e1 ra
      have D2 := res_dat rp _ _ _ _ e2 rb
      cases n
      · exact ⟨_, _, D1.d, D2.d, D1.shaped, D2.shaped, by rw [any_eqv]; exact q⟩
      · exact ⟨_, _, D1.d, D2.d, D1.shaped, D2.shaped, by rw [any_eqv]; exact q⟩
    · cases h
  have dict : ∀ b, RV B φ F b y → (Ab.dlook s b a).map (·.isSome) = some c → rInK n x y H Q := by
    intro b rb h
    simp only [Option.map_eq_some_iff] at h
    obtain ⟨o, e1, rfl⟩ := h
    obtain ⟨p, o', e2, g, _, k⟩ := dlook_ok rp rb ra e1
    refine ⟨p, o', e2, g, ?_⟩
    have : o'.isSome = o.isSome := by
      cases o with
      | none => rw [show o' = none from k]; rfl
      | some v => obtain ⟨z, rfl, _⟩ := k; rfl
    rw [this]
    exact q
  cases b with
  | tup vs =>
    obtain ⟨p, xs, rfl, hp, hv⟩ := rb
    exact .inr (.inl (inT_ok ra hv (SqT.of (rp.fz _ _ hp)) h q))
  | str t =>
    simp only [isIn, Ab.inV] at h
    split at h
    · rename_i k
      cases h
      exact .inr (.inr (.inl ⟨k, str t, ra.1, rb.1, by simpa [str] using q⟩))
    · cases h
  | lst vs =>
    simp only [isIn, Ab.inV] at h
    exact .inl (list _ rb h)
  | loc l =>
    simp only [isIn, Ab.inV] at h
    split at h
    · exact .inl (list _ rb h)
    · exact .inr (.inr (.inr (dict _ rb h)))
    · cases h
  | _ => simp [isIn, Ab.inV] at h
theorem cmp_ok {φ : List Addr} {F : Hp} {s : Sto} {H : Hp} {W : WX} {σ : L2.St} {Q : VK} {op : Ab.COp} {a b : Val} {x y : V} (rp : Rp B φ F s H) (ra : RV B φ F a x) (rb : RV B φ F b y)
    (h : Out B W (RV B) φ F H (Ab.pur s ((Ab.cmpV op a b s).map .bl)) σ Q) : rCmp B.K op x y H Q := by
  cases e : Ab.cmpV op a b s with
  | none => rw [e] at h; exact h.elim
  | some c =>
    rw [e] at h
    have q : Q (.bl c) H := Out.now (a := Val.bl c) h rp rfl
    cases op with
    | eq =>
      obtain ⟨d, f, h1, h2, h3, h4, rfl⟩ := eqV_ok rp ra rb e
      exact ⟨d, f, h1, h2, h3, h4, q⟩
    | ne =>
      simp only [Ab.cmpV, Option.map_eq_some_iff] at e
      obtain ⟨c', e, rfl⟩ := e
      obtain ⟨d, f, h1, h2, h3, h4, rfl⟩ := eqV_ok rp ra rb e
      exact ⟨d, f, h1, h2, h3, h4, q⟩
    | inn => exact inS_ok (n := false) rp ra rb (by cases b <;> exact e) q
    | notin =>
      have e' : (isIn s a b).map not = some c := by cases b <;> exact e
      simp only [Option.map_eq_some_iff] at e'
      obtain ⟨c', e2, rfl⟩ := e'
      exact inS_ok (n := true) rp ra rb e2 q
    | lt =>
      cases a <;> cases b <;> simp [Ab.cmpV] at e
      subst e
      exact ⟨_, _, ra, rb, q⟩
    | le =>
      cases a <;> cases b <;> simp [Ab.cmpV] at e
      subst e
      exact ⟨_, _, ra, rb, q⟩
    | gt =>
      cases a <;> cases b <;> simp [Ab.cmpV] at e
      subst e
      exact ⟨_, _, ra, rb, q⟩
    | ge =>
      cases a <;> cases b <;> simp [Ab.cmpV] at e
      subst e
      exact ⟨_, _, ra, rb, q⟩
/-! ### places -/
theorem atI_ok {φ : List Addr} {F : Hp} {vs : List Val} {xs : List V} {k : Int} {v : Val} (r : RVs B φ F vs xs) (h : L2.atI vs k = some v) : ∃ x, L2.atI xs k = some x ∧ RV B φ F v x := by
  unfold L2.atI at h ⊢
  rw [← r.length]
  cases e : L2.ixN vs.length k with
  | none => rw [e] at h; cases h
  | some j =>
    rw [e] at h
    exact r.got (show vs[j]? = some v from h)
theorem atI_mem {α : Type} {xs : List α} {k : Int} {c : α} (h : L2.atI xs k = some c) : c ∈ xs := by
  unfold L2.atI at h
  cases e : L2.ixN xs.length k with
  | none => rw [e] at h; cases h
  | some j =>
    rw [e] at h
    exact List.mem_of_getElem? (show xs[j]? = some c from h)
/-- a place among items or signs -/
theorem item_seq {φ : List Addr} {F : Hp} {s : Sto} {H : Hp} {W : WX} {σ : L2.St} {Q : VK} {a : Val} {k : Int} {x y : V} (rp : Rp B φ F s H) (ra : RV B φ F a x) (ri : RV B φ F (.int k) y)
    (h : Out B W (RV B) φ F H (Ab.pur s (Ab.itemV a (.int k) s)) σ Q) : rIx B.K x y H Q := by
  cases e : Ab.itemV a (.int k) s with
  | none => rw [e] at h; exact h.elim
  | some v =>
    rw [e] at h
    have q : ∀ z, RV B φ F v z → Q z H := fun z hz => Out.now (a := v) h rp hz
    by_cases d : ∃ t, a = .str t
    · obtain ⟨t, rfl⟩ := d
      simp only [Ab.itemV] at e
      split at e
      · rename_i hl
        simp only [Option.map_eq_some_iff] at e
        obtain ⟨c, e, rfl⟩ := e
        refine .inr (.inr ⟨str t, k, c, ra.1, ri, by rw [str_len]; exact line_of hl, ?_, q _ ⟨rfl, fun d hd => ra.2 d (by rw [List.mem_singleton.mp hd]; exact atI_mem e)⟩⟩)
        exact e
      · cases e
    · have e' : (Ab.seqOf s a).bind (fun vs => L2.atI vs k) = some v := by
        cases a <;> first | exact e | exact absurd ⟨_, rfl⟩ d
      cases e1 : Ab.seqOf s a with
      | none => rw [e1] at e'; cases e'
      | some vs =>
        rw [e1] at e'
        obtain ⟨p, xs, e2, hp, hv⟩ := seq_at rp e1 ra
        obtain ⟨z, e3, hz⟩ := atI_ok hv e'
        rcases hp with hp | ⟨hp, _⟩
        · exact .inl ⟨p, xs, k, z, e2, ri, SqL.of hp, e3, q _ hz⟩
        · exact .inr (.inl ⟨p, xs, k, z, e2, ri, SqT.of hp, e3, q _ hz⟩)
/-- what a dict holds -/
theorem item_dict {φ : List Addr} {F : Hp} {s : Sto} {H : Hp} {W : WX} {σ : L2.St} {Q : VK} {a i : Val} {x y : V} (rp : Rp B φ F s H) (ra : RV B φ F a x) (ri : RV B φ F i y) (c : ∀ k, i ≠ .int k)
    (h : Out B W (RV B) φ F H (Ab.pur s (Ab.itemV a i s)) σ Q) : ∃ a v, x = .ref a ∧ DGet H a y (some v) ∧ Q v H := by
  have e' : Ab.itemV a i s = (Ab.dlook s a i).bind id := by
    cases a <;> cases i <;> first | rfl | exact absurd rfl (c _)
  rw [e'] at h
  cases e1 : Ab.dlook s a i with
  | none => rw [e1] at h; exact h.elim
  | some o =>
    rw [e1] at h
    cases o with
    | none => exact h.elim
    | some v =>
      obtain ⟨p, o', e2, g, _, z, rfl, hz⟩ := dlook_ok rp ra ri e1
      exact ⟨p, z, e2, g, Out.now (a := v) h rp hz⟩
theorem cut_eq {α : Type} (xs : List α) (lo hi : Option Int) : Ab.cut xs lo hi = (xs.drop (HT.sIx xs.length 0 lo)).take (HT.sIx xs.length xs.length hi - HT.sIx xs.length 0 lo) := List.drop_take
theorem cut_ok {φ : List Addr} {F : Hp} {vs : List Val} {xs : List V} {lo hi : Option Int} (r : RVs B φ F vs xs) : RVs B φ F (Ab.cut vs lo hi) (cutV xs lo hi) := by
  have e : cutV xs lo hi = Ab.cut xs lo hi := (cut_eq xs lo hi).symm
  rw [e]
  unfold Ab.cut
  rw [← r.length]
  exact (r.take _).drop _
def rSlc (K : PySem.W.Frag) : V → Option Int → Option Int → Hp → VK → Prop := fun x lo hi H Q => rSlL K x lo hi H Q ∨ (rSlA K x lo hi H Q ∨ rSlS x lo hi H Q)
theorem sl_any : SlR X (rSlc X.K) := SlR.or sl_list (SlR.or sl_tupA sl_str)
theorem slice_ok {φ : List Addr} {F : Hp} {s : Sto} {H : Hp} {W : WX} {σ : L2.St} {Q : VK} {m : Bool} {a : Val} {lo hi : Option Int} {x : V} (rp : Rp B φ F s H) (ra : RV B φ F a x)
    (h : Out B W (RV B) φ F H (Ab.lift (Ab.sliceV m a lo hi s)) σ Q) : rSlc B.K x lo hi H Q := by
  have list : ∀ a, RV B φ F a x → Out B W (RV B) φ F H (Ab.lift ((Ab.lstOf s a).map fun vs => Ab.alloc m (Ab.cut vs lo hi) s)) σ Q → rSlL B.K x lo hi H Q := by
    intro a ra h
    cases e : Ab.lstOf s a with
    | none => rw [e] at h; exact h.elim
    | some vs =>
      rw [e] at h
      obtain ⟨p, xs, e2, hp, hv⟩ := lst_at rp e ra
      exact ⟨p, xs, e2, SqL.of hp, fun l hl => new_lst rp h (cut_ok hv) hl⟩
  cases a with
  | str t =>
    simp only [Ab.sliceV] at h
    by_cases c : t.length ≤ Ab.LIM
    · rw [if_pos c] at h
      refine .inr (.inr ⟨str t, ra.1, by rw [str_len]; exact line_of c, ?_⟩)
      have e : cutS (str t) lo hi = str (Ab.cut t lo hi) := by
        unfold cutS
        rw [cut_eq, str_len]
      rw [e]
      exact h.now rp ⟨rfl, fun d hd => ra.2 d (List.mem_of_mem_take (List.mem_of_mem_drop hd))⟩
    · rw [if_neg c] at h
      exact h.elim
  | tup vs =>
    obtain ⟨p, xs, rfl, hp, hv⟩ := ra
    refine .inr (.inl ⟨p, xs, rfl, SqT.of (rp.fz _ _ hp), fun w => ?_, fun _ l hl => new_tup rp h (cut_ok hv) hl⟩)
    have e : Ab.cut vs lo hi = vs := by
      unfold Ab.cut
      rw [hv.length, w.1, w.2, List.drop_zero, ← hv.length, List.take_length]
    have h' : Out B W (RV B) φ F H (Ab.ok (.tup vs) s) σ Q := by rw [← e]; exact h
    exact h'.now rp ⟨p, xs, rfl, hp, hv⟩
  | _ => exact .inl (list _ ra h)
end Sn
end
section
set_option Elab.async false
set_option linter.all false
set_option autoImplicit false
set_option maxRecDepth 100000
set_option maxHeartbeats 4000000
/-! Built-in functions. -/
namespace Sn
open PySem L2
open Ab (Val SO Sto Exc R Txt toD toDs BI)
variable {B : Bs} {X : Cx}
/-! ### what they ask, by values -/
abbrev RCall := List V → Hp → VK → Prop
def rLen (K : PySem.W.Frag) : RCall := fun xs H Q => (∃ x n, xs = [x] ∧ LenV K x H n ∧ Q (.int n) H) ∨ ∃ p kvs, xs = [V.ref p] ∧ H p = some (.dK kvs) ∧ Q (.int kvs.length) H
theorem call_lens : CallR X (.builtin "len") (rLen X.K) := by
  rintro pins s σ H xs us Q I r (h | ⟨p, kvs, e, hp, q⟩)
  · exact call_len pins s σ H xs us Q I r h
  · subst e
    rw [Vals.ref1 r]
    exact d_len I (Rd.of hp) fun t s' J => ⟨.int kvs.length, H, J, ⟨t, rfl⟩, q⟩
def rLst (K : PySem.W.Frag) : RCall := fun xs H Q => ∃ p ys, xs = [.ref p] ∧ (SqL K H p ys ∨ SqT K H p ys) ∧ ∀ l, H l = none → Q (.ref l) (upd H l (.lst ys))
def rTpl (K : PySem.W.Frag) : RCall := fun xs H Q => ∃ p ys, xs = [.ref p] ∧ ((SqL K H p ys ∧ ∀ l, H l = none → Q (.ref l) (upd H l (.tup ys))) ∨ (SqT K H p ys ∧ Q (.ref p) H))
/-- sorted(xs): the values in the order of their data -/
def rSrt (K : PySem.W.Frag) : RCall := fun xs H Q => ∃ p ys ds, xs = [.ref p] ∧ SqL K H p ys ∧ DpAll K H ys ds ∧ PySem.W.AllAlike ds ∧ PySem.W.Sortable ds ∧ ds.length ≤ sizeLine ∧ (∀ d ∈ ds, d.depth ≤ 16) ∧
  ∀ l, H l = none → Q (.ref l) (upd H l (.lst (((ys.zip ds).mergeSort (PySem.W.dataLe false Prod.snd)).map Prod.fst)))
theorem DpAll.each {H : Hp} {pins : List (Addr × Obj)} {σ : L2.St} {s : Shared} (I : Inv X pins σ H s) : ∀ {ys : List V} {ds : List PyData} {its : List Value}, DpAll X.K H ys ds → Vals ys its →
    PySem.W.EachIs (fun v (b : V × PyData) => RelV b.1 v ∧ ∃ as, PySem.Reads s.heap v b.2 as) its (ys.zip ds)
  | [], [], _, .nil, .nil => .nil
  | y :: ys, d :: ds, _, .cons h t, .cons r rs => .cons ⟨r, Dp.reads I d y _ h r⟩ (DpAll.each I t rs)
theorem dp_len {K : PySem.W.Frag} {H : Hp} : ∀ {ys : List V} {ds : List PyData}, DpAll K H ys ds → ys.length = ds.length
  | _, _, .nil => rfl
  | _, _, .cons _ t => by simp [dp_len t]
theorem vals_each {ws : List Value} : ∀ {bs : List (V × PyData)} {P : Value → V × PyData → Prop}, PySem.W.EachIs (fun v b => RelV b.1 v ∧ P v b) ws bs → Vals (bs.map Prod.fst) ws := by
  intro bs P h
  induction h with
  | nil => exact .nil
  | cons a _ ih => exact .cons a.1 ih
theorem call_srt (hu : X.A.units + 40 < cLine) : CallR X (.builtin "sorted") (rSrt X.K) := by
  rintro pins s σ H xs us Q I r ⟨p, ys, ds, rfl, hp, hd, al, so, hl, dp, q⟩
  rw [Vals.ref1 r]
  obtain ⟨its, rv, pl, _⟩ := I.list hp
  have E := DpAll.each I hd rv
  have len := dp_len hd
  have zs : (ys.zip ds).map Prod.snd = ds := List.map_snd_zip (by omega)
  have zl : (ys.zip ds).length = ds.length := by simp [len]
  refine PySem.W.sorted_data (enc := Prod.snd) pl.isList E (E.mono fun _ _ h => h.2) (by rw [zs]; exact al) (by rw [zs]; exact so) (by rw [zl]; exact hl) (fun b hb => ?_) fun out ol oe => ?_
  · have := dp b.2 (by rw [← zs]; exact List.mem_map_of_mem hb)
    omega
  · obtain ⟨e, he⟩ := PyProof.Rows.sortedAll_at s.heap its out.toArray
    have hv := vals_each oe
    have J : Inv X pins σ _ { s with heap := PyProof.Rows.sortedAll s.heap its out.toArray, toks := s.toks } :=
      I.laid (o := .lst (((ys.zip ds).mergeSort (PySem.W.dataLe false Prod.snd)).map Prod.fst)) (fun _ _ z => PyProof.Rows.sortedAll_old z) (Nat.le_succ _) ⟨by simpa [len] using hl, out, e, hv, he⟩
    exact ⟨.ref (s.heap.objs.size + 1), _, J, rfl, q _ (I.hok.fresh (Nat.le_succ _))⟩
def rInt : RCall := fun xs H Q => (∃ i, xs = [.int i] ∧ Q (.int i) H) ∨ ∃ k, xs = [.bl k] ∧ Q (.int (if k then 1 else 0)) H
def rMx : RCall := fun xs H Q => ∃ i j, xs = [.int i, .int j] ∧ Q (.int (if j > i then j else i)) H
def rMn : RCall := fun xs H Q => ∃ i j, xs = [.int i, .int j] ∧ Q (.int (if j < i then j else i)) H
/-! ### kinds -/
def kindOf : BI → String
  | .isB => "bool"
  | .isI => "int"
  | .isS => "str"
  | .isT => "tuple"
  | _ => "list"
def isIs : BI → Bool
  | .isB => true
  | .isI => true
  | .isS => true
  | .isT => true
  | .isL => true
  | _ => false
/-- the kind of a value -/
def kind (s : Sto) : Val → Option String
  | .non => some "NoneType"
  | .bl _ => some "bool"
  | .int _ => some "int"
  | .str _ => some "str"
  | .tup _ => some "tuple"
  | .lst _ => some "list"
  | .loc l => match s[l]? with
    | some (.list _) => some "list"
    | _ => none
  | _ => none
theorem kinds : (["NoneType", "bool", "int", "str", "tuple", "list"].all fun a => [BI.isB, .isI, .isS, .isT, .isL].all fun b => kitB a (kindOf b) == some (a == kindOf b || (a == "bool" && kindOf b == "int"))) = true := by decide +kernel
theorem kind_ok {φ : List Addr} {F : Hp} {s : Sto} {H : Hp} (rp : Rp B φ F s H) {v : Val} {x : V} {b : BI} {c : Bool} (r : RV B φ F v x) (hb : isIs b = true) (h : Ab.isKind b s v = some c) : ∃ t, TyX B.K H x (.type t) ∧ kitB t (kindOf b) = some c := by
  have K := kinds
  simp only [List.all_cons, List.all_nil, Bool.and_true, Bool.and_eq_true, beq_iff_eq] at K
  obtain ⟨⟨n1, n2, n3, n4, n5⟩, ⟨b1, b2, b3, b4, b5⟩, ⟨i1, i2, i3, i4, i5⟩, ⟨s1, s2, s3, s4, s5⟩, ⟨t1, t2, t3, t4, t5⟩, ⟨l1, l2, l3, l4, l5⟩⟩ := K
  have fin : ∀ t, TyX B.K H x (.type t) → kitB t (kindOf b) = some c → ∃ t, TyX B.K H x (.type t) ∧ kitB t (kindOf b) = some c := fun t a b => ⟨t, a, b⟩
  cases v with
  | non => obtain rfl := r; refine fin _ (.base .non) ?_; cases b <;> simp [isIs] at hb <;> simp [Ab.isKind] at h <;> subst h <;> (first | exact n1 | exact n2 | exact n3 | exact n4 | exact n5)
  | bl k => obtain rfl := r; refine fin _ (.base (.bl k)) ?_; cases b <;> simp [isIs] at hb <;> simp [Ab.isKind] at h <;> subst h <;> (first | exact b1 | exact b2 | exact b3 | exact b4 | exact b5)
  | int k => obtain rfl := r; refine fin _ (.base (.int k)) ?_; cases b <;> simp [isIs] at hb <;> simp [Ab.isKind] at h <;> subst h <;> (first | exact i1 | exact i2 | exact i3 | exact i4 | exact i5)
  | str k => obtain ⟨rfl, _⟩ := r; refine fin _ (.base (.str _)) ?_; cases b <;> simp [isIs] at hb <;> simp [Ab.isKind] at h <;> subst h <;> (first | exact s1 | exact s2 | exact s3 | exact s4 | exact s5)
  | tup vs => obtain ⟨a, xs, rfl, hf, _⟩ := r; refine fin _ (.base (.tup (rp.fz _ _ hf))) ?_; cases b <;> simp [isIs] at hb <;> simp [Ab.isKind] at h <;> subst h <;> (first | exact t1 | exact t2 | exact t3 | exact t4 | exact t5)
  | lst vs => obtain ⟨a, xs, rfl, hf, _⟩ := r; refine fin _ (.base (.lst (rp.fz _ _ hf))) ?_; cases b <;> simp [isIs] at hb <;> simp [Ab.isKind] at h <;> subst h <;> (first | exact l1 | exact l2 | exact l3 | exact l4 | exact l5)
  | loc l =>
    obtain ⟨a, rfl, ha⟩ := r
    cases e : s[l]? with
    | none => simp [Ab.isKind, e] at h
    | some o =>
      cases o with
      | list vs =>
        obtain ⟨ho, e1, xs, rfl, _⟩ := rp.at ha e
        refine fin _ (.base (.lst e1)) ?_
        cases b <;> simp [isIs] at hb <;> simp [Ab.isKind, e] at h <;> subst h <;> (first | exact l1 | exact l2 | exact l3 | exact l4 | exact l5)
      | _ => simp [Ab.isKind, e] at h
  | _ => simp [Ab.isKind] at h
/-! ### bools, ints, texts of a list -/
theorem bools_ok {φ : List Addr} {F : Hp} : ∀ {vs : List Val} {bs : List Bool} {xs : List V}, Ab.boolsOf vs = some bs → RVs B φ F vs xs → xs = bs.map V.bl
  | [], bs, xs, h, r => by
    simp [Ab.boolsOf] at h
    rw [h, show xs = [] from r]
    rfl
  | v :: vs, bs, xs, h, ⟨x, t, e, h1, h2⟩ => by
    cases v with
    | bl b =>
      simp only [Ab.boolsOf, Option.map_eq_some_iff] at h
      obtain ⟨cs, h, rfl⟩ := h
      rw [e, bools_ok h h2, show x = _ from h1]
      rfl
    | _ => simp [Ab.boolsOf] at h
theorem strs_ok {φ : List Addr} {F : Hp} : ∀ {vs : List Val} {ts : List Txt} {xs : List V}, Ab.strsOf vs = some ts → RVs B φ F vs xs → xs = (ts.map str).map V.str ∧ ∀ t ∈ ts, good t
  | [], bs, xs, h, r => by
    simp [Ab.strsOf] at h
    rw [h, show xs = [] from r]
    exact ⟨rfl, fun _ h => nomatch h⟩
  | v :: vs, bs, xs, h, ⟨x, t, e, h1, h2⟩ => by
    cases v with
    | str b =>
      simp only [Ab.strsOf, Option.map_eq_some_iff] at h
      obtain ⟨cs, h, rfl⟩ := h
      obtain ⟨g1, g2⟩ := strs_ok h h2
      rw [e, g1, h1.1]
      exact ⟨rfl, fun u hu => (List.mem_cons.mp hu).elim (fun z => z ▸ h1.2) (g2 u)⟩
    | _ => simp [Ab.strsOf] at h
theorem ints_ok {φ : List Addr} {F : Hp} : ∀ {vs : List Val} {ns : List Int} {xs : List V}, Ab.intsOf vs = some ns → RVs B φ F vs xs → xs = ns.map V.int
  | [], bs, xs, h, r => by
    simp [Ab.intsOf] at h
    rw [h, show xs = [] from r]
    rfl
  | v :: vs, bs, xs, h, ⟨x, t, e, h1, h2⟩ => by
    cases v with
    | int b =>
      simp only [Ab.intsOf, Option.map_eq_some_iff] at h
      obtain ⟨cs, h, rfl⟩ := h
      rw [e, ints_ok h h2, show x = _ from h1]
      rfl
    | _ => simp [Ab.intsOf] at h
/-! ### sorted -/
theorem shape_is {v : Val} {n : Nat} (h : Ab.shape v = n) (hn : n ≠ 0) : (n = 1 ∧ ∃ i, v = .int i) ∨ (n = 2 ∧ ∃ x, v = .str x) ∨ (n = 3 ∧ ∃ x y, v = .tup [.str x, .str y]) ∨ (n = 4 ∧ ∃ x y z, v = .tup [.str x, .str y, .str z]) := by
  unfold Ab.shape at h
  split at h
  · exact .inl ⟨h.symm, _, rfl⟩
  · exact .inr (.inl ⟨h.symm, _, rfl⟩)
  · exact .inr (.inr (.inl ⟨h.symm, _, _, rfl⟩))
  · exact .inr (.inr (.inr ⟨h.symm, _, _, _, rfl⟩))
  · exact absurd h.symm hn
theorem plain_of {vs : List Val} (h : Ab.sortable vs = true) : ∃ n, ∀ v ∈ vs, Ab.shape v = n ∧ n ≠ 0 := by
  cases vs with
  | nil => exact ⟨0, fun _ h => nomatch h⟩
  | cons v r =>
    simp only [Ab.sortable, Bool.and_eq_true, bne_iff_ne, List.all_eq_true, beq_iff_eq] at h
    refine ⟨Ab.shape v, fun w hw => ⟨?_, h.1⟩⟩
    rcases List.mem_cons.mp hw with z | z
    · rw [z]
    · exact h.2 w z
theorem plain_dp {φ : List Addr} {F : Hp} {s : Sto} {H : Hp} (rp : Rp B φ F s H) {v : Val} {x : V} (r : RV B φ F v x) (h : Ab.shape v ≠ 0) : Dp B.K H x (toD v) ∧ (toD v).depth ≤ 16 := by
  have e : Ab.res s Ab.DEEP v = some v := by
    rcases shape_is rfl h with ⟨_, i, rfl⟩ | ⟨_, t, rfl⟩ | ⟨_, t, u, rfl⟩ | ⟨_, t, u, w, rfl⟩ <;> rfl
  have D := res_dat rp _ _ _ _ e r
  exact ⟨D.d, Nat.le_trans D.h (by decide)⟩
theorem plain_dps {φ : List Addr} {F : Hp} {s : Sto} {H : Hp} (rp : Rp B φ F s H) : ∀ {vs : List Val} {xs : List V}, RVs B φ F vs xs → (∀ v ∈ vs, Ab.shape v ≠ 0) → DpAll B.K H xs (toDs vs) ∧ ∀ d ∈ toDs vs, d.depth ≤ 16
  | [], xs, r, _ => by rw [show xs = [] from r]; exact ⟨.nil, fun _ h => nomatch h⟩
  | v :: vs, xs, ⟨x, t, e, h1, h2⟩, h => by
    obtain ⟨g1, g2⟩ := plain_dp rp h1 (h v (List.mem_cons_self))
    obtain ⟨k1, k2⟩ := plain_dps rp h2 fun w hw => h w (List.mem_cons_of_mem _ hw)
    rw [e]
    exact ⟨.cons g1 k1, fun d hd => (List.mem_cons.mp (show d ∈ toD v :: toDs vs from hd)).elim (fun z => z ▸ g2) (k2 d)⟩
theorem toDs_map : ∀ vs : List Val, toDs vs = vs.map toD
  | [] => rfl
  | v :: vs => by simp [toDs, toDs_map vs]
theorem sortable_ok {vs : List Val} (h : Ab.sortable vs = true) : PySem.W.AllAlike (toDs vs) ∧ PySem.W.Sortable (toDs vs) := by
  obtain ⟨n, hn⟩ := plain_of h
  rw [toDs_map]
  constructor
  · intro d hd d' hd'
    obtain ⟨v, hv, rfl⟩ := List.mem_map.mp hd
    obtain ⟨w, hw, rfl⟩ := List.mem_map.mp hd'
    obtain ⟨a, z⟩ := hn v hv
    obtain ⟨b, _⟩ := hn w hw
    rcases shape_is a z with ⟨e, i, rfl⟩ | ⟨e, t, rfl⟩ | ⟨e, t, u, rfl⟩ | ⟨e, t, u, k, rfl⟩ <;> rcases shape_is b z with ⟨e', i', rfl⟩ | ⟨e', t', rfl⟩ | ⟨e', t', u', rfl⟩ | ⟨e', t', u', k', rfl⟩ <;> first | omega | rfl
  · cases vs with
    | nil => exact .inr fun d hd => nomatch hd
    | cons v0 r0 =>
      obtain ⟨a, z⟩ := hn v0 List.mem_cons_self
      by_cases c : n ≤ 2
      · refine .inr fun d hd => ?_
        obtain ⟨v, hv, rfl⟩ := List.mem_map.mp hd
        rcases shape_is (hn v hv).1 z with ⟨e, i, rfl⟩ | ⟨e, t, rfl⟩ | ⟨e, t, u, rfl⟩ | ⟨e, t, u, k, rfl⟩ <;> first | omega | simp [toD]
      · refine .inl fun d hd => ?_
        obtain ⟨v, hv, rfl⟩ := List.mem_map.mp hd
        rcases shape_is (hn v hv).1 z with ⟨e, i, rfl⟩ | ⟨e, t, rfl⟩ | ⟨e, t, u, rfl⟩ | ⟨e, t, u, k, rfl⟩ <;> first | omega | exact ⟨_, _, rfl⟩
theorem RVs.mem {φ : List Addr} {F : Hp} : ∀ {vs : List Val} {xs : List V}, RVs B φ F vs xs → ∀ p ∈ vs.zip xs, RV B φ F p.1 p.2
  | [], xs, r, p, hp => by simp at hp
  | v :: vs, xs, ⟨x, t, e, h1, h2⟩, p, hp => by
    subst e
    rcases List.mem_cons.mp (show p ∈ (v, x) :: vs.zip t from hp) with z | z
    · subst z
      exact h1
    · exact RVs.mem h2 p z
theorem RVs.pairs {φ : List Addr} {F : Hp} : ∀ {zs : List (Val × V)}, (∀ p ∈ zs, RV B φ F p.1 p.2) → RVs B φ F (zs.map Prod.fst) (zs.map Prod.snd)
  | [], _ => rfl
  | p :: r, h => ⟨p.2, r.map Prod.snd, rfl, h p List.mem_cons_self, RVs.pairs fun q hq => h q (List.mem_cons_of_mem _ hq)⟩
/-- the values sorted, beside the items sorted -/
theorem sort_ok {φ : List Addr} {F : Hp} {vs : List Val} {xs : List V} (r : RVs B φ F vs xs) : RVs B φ F (Ab.sortV vs) (((xs.zip (toDs vs)).mergeSort (PySem.W.dataLe false Prod.snd)).map Prod.fst) := by
  have hl := r.length
  let le : Val × V → Val × V → Bool := PySem.W.dataLe false fun p => toD p.1
  have e1 : ((vs.zip xs).mergeSort le).map Prod.fst = Ab.sortV vs := by
    have := PySem.W.sort_maps (r := le) (s := PySem.W.dataLe false toD) Prod.fst (l := vs.zip xs) fun _ _ _ _ => rfl
    rw [this, List.map_fst_zip (by omega)]
    rfl
  have e2 : ((vs.zip xs).mergeSort le).map (fun p => (p.2, toD p.1)) = (xs.zip (toDs vs)).mergeSort (PySem.W.dataLe false Prod.snd) := by
    have := PySem.W.sort_maps (r := le) (s := PySem.W.dataLe false (Prod.snd : V × PyData → PyData)) (fun p => (p.2, toD p.1)) (l := vs.zip xs) fun _ _ _ _ => rfl
    rw [this]
    congr 1
    rw [toDs_map]
    clear this e1
    have : ∀ (vs : List Val) (xs : List V), (vs.zip xs).map (fun p => (p.2, toD p.1)) = xs.zip (vs.map toD) := by
      intro vs
      induction vs with
      | nil => intro xs; simp
      | cons v vs ih =>
        intro xs
        cases xs with
        | nil => simp
        | cons x xs => simp [ih xs]
    exact this vs xs
  have e3 : (((xs.zip (toDs vs)).mergeSort (PySem.W.dataLe false Prod.snd)).map Prod.fst) = ((vs.zip xs).mergeSort le).map Prod.snd := by
    rw [← e2, List.map_map]
    rfl
  rw [e3, ← e1]
  exact RVs.pairs fun p hp => r.mem p ((List.mem_mergeSort).mp hp)
/-! ### biV -/
/-- what each asks -/
def rBi (K : PySem.W.Frag) : BI → RCall
  | .len => rLen K
  | .list => rLst K
  | .tuple => rTpl K
  | .sorted => rSrt K
  | .all => rAll K
  | .any => rAny K
  | .int => rInt
  | .max2 => rMx
  | .min2 => rMn
  | _ => fun _ _ _ => False
/-- what each is -/
def biIs : BI → Value
  | .len => .builtin "len"
  | .list => .type "list"
  | .tuple => .type "tuple"
  | .sorted => .builtin "sorted"
  | .all => .builtin "all"
  | .any => .builtin "any"
  | .int => .type "int"
  | .max2 => .builtin "max"
  | .min2 => .builtin "min"
  | _ => .builtin "len"
theorem call_bi (hc : X.calm = true) (hu : X.A.units + 40 < cLine) (b : BI) : CallR X (biIs b) (rBi X.K b) := by
  cases b with
  | len => exact call_lens
  | list => exact call_list_of
  | tuple => exact call_tuple_of
  | sorted => exact call_srt hu
  | all => exact cr_all hc
  | any => exact cr_any hc
  | int => exact call_int1
  | max2 => exact call_max2 hc
  | min2 => exact call_min2 hc
  | _ => exact fun _ _ _ _ _ _ _ _ _ h => h.elim
theorem bi_ok {φ : List Addr} {F : Hp} {s : Sto} {H : Hp} {W : WX} {σ : L2.St} {Q : VK} {b : BI} {m : Bool} {vs : List Val} {xs : List V} (hb : isIs b = false) (rp : Rp B φ F s H) (r : RVs B φ F vs xs)
    (h : Out B W (RV B) φ F H (Ab.lift (Ab.biV b m vs s)) σ Q) (h1 : b ≠ .maxD) (h2 : b ≠ .lenset) : rBi B.K b xs H Q := by
  have one : ∀ v, vs = [v] → ∃ x, xs = [x] ∧ RV B φ F v x := by
    rintro v rfl
    obtain ⟨x, t, e, g1, g2⟩ := r
    exact ⟨x, by rw [e, show t = [] from g2], g1⟩
  have two : ∀ v w, vs = [v, w] → ∃ x y, xs = [x, y] ∧ RV B φ F v x ∧ RV B φ F w y := by
    rintro v w rfl
    obtain ⟨x, t, e, g1, y, u, e2, g2, g3⟩ := r
    exact ⟨x, y, by rw [e, e2, show u = [] from g3], g1, g2⟩
  cases b with
  | isB => cases hb
  | isI => cases hb
  | isS => cases hb
  | isT => cases hb
  | isL => cases hb
  | maxD => exact absurd rfl h1
  | lenset => exact absurd rfl h2
  | len =>
    match vs, one, h with
    | [], _, h => exact h.elim
    | v :: _ :: _, _, h => cases v <;> exact h.elim
    | [v], one, h =>
      obtain ⟨x, rfl, rv⟩ := one v rfl
      have seq : ∀ ws, Ab.seqOf s v = some ws → Q (.int ws.length) H → rLen B.K [x] H Q := fun ws e q => by
        obtain ⟨p, ys, rfl, hp, hv⟩ := seq_at rp e rv
        rw [hv.length] at q
        rcases hp with hp | ⟨hp, _⟩
        · exact .inl ⟨_, _, rfl, .inl ⟨ys, SqL.of hp, rfl⟩, q⟩
        · exact .inl ⟨_, _, rfl, .inr ⟨ys, SqT.of hp, rfl⟩, q⟩
      cases v with
      | str t =>
        simp only [Ab.biV] at h
        split at h
        · rename_i hl
          rw [show x = _ from rv.1]
          exact .inl ⟨_, t.length, rfl, ⟨by rw [str_len]; exact line_of hl, (str_len t).symm⟩, Out.now h rp rfl⟩
        · exact h.elim
      | scr ns =>
        obtain ⟨a, rfl, ha⟩ := rv
        exact .inl ⟨_, ns.length, rfl, .inl ⟨_, rp.same.seq ha, by simp⟩, Out.now h rp rfl⟩
      | tup ws => exact seq ws rfl (Out.now h rp rfl)
      | lst ws => exact seq ws rfl (Out.now h rp rfl)
      | loc l =>
        cases e : s[l]? with
        | none => simp only [Ab.biV, e] at h; exact h.elim
        | some o =>
          cases o with
          | list ws =>
            simp only [Ab.biV, e] at h
            exact seq ws (by simp [Ab.seqOf, Ab.lstOf, e]) (Out.now h rp rfl)
          | dS kvs =>
            simp only [Ab.biV, e] at h
            obtain ⟨a, rfl, ha⟩ := rv
            obtain ⟨ho, e1, ks, rfl, hk⟩ := rp.at ha e
            have q : Q (.int kvs.length) H := Out.now h rp rfl
            rw [RKs.len hk] at q
            exact .inr ⟨a, ks, rfl, e1, q⟩
          | _ => simp only [Ab.biV, e] at h; exact h.elim
      | _ => exact h.elim
  | list =>
    match vs, one, h with
    | [], _, h => exact h.elim
    | v :: _ :: _, _, h => cases v <;> exact h.elim
    | [v], one, h =>
      obtain ⟨x, rfl, rv⟩ := one v rfl
      by_cases c : ∃ ns, v = .scr ns
      · obtain ⟨ns, rfl⟩ := c
        obtain ⟨a, rfl, ha⟩ := rv
        have hv : ∀ ns : List Int, RVs B φ F (ns.map .int) (ns.map V.int) := by
          intro ns
          induction ns with
          | nil => rfl
          | cons n ns ih => exact ⟨_, _, rfl, rfl, ih⟩
        exact ⟨a, _, rfl, .inl (rp.same.seq ha), fun l hl => new_lst rp h (hv ns) hl⟩
      · have h' : Out B W (RV B) φ F H (Ab.lift ((Ab.seqOf s v).map fun vs => Ab.alloc m vs s)) σ Q := by
          cases v <;> first | exact h | exact absurd ⟨_, rfl⟩ c
        cases e : Ab.seqOf s v with
        | none => rw [e] at h'; exact h'.elim
        | some ws =>
          rw [e] at h'
          obtain ⟨p, ys, rfl, hp, hv⟩ := seq_at rp e rv
          exact ⟨p, ys, rfl, hp.imp SqL.of fun z => SqT.of z.1, fun l hl => new_lst rp h' hv hl⟩
  | tuple =>
    match vs, one, h with
    | [], _, h => exact h.elim
    | v :: _ :: _, _, h => cases v <;> exact h.elim
    | [v], one, h =>
      obtain ⟨x, rfl, rv⟩ := one v rfl
      cases e : Ab.seqOf s v with
      | none => simp only [Ab.biV, e] at h; exact h.elim
      | some ws =>
        simp only [Ab.biV, e] at h
        obtain ⟨p, ys, rfl, hp, hv⟩ := seq_at rp e rv
        rcases hp with hp | ⟨hp, rfl⟩
        · exact ⟨p, ys, rfl, .inl ⟨SqL.of hp, fun l hl => new_tup rp h hv hl⟩⟩
        · exact ⟨p, ys, rfl, .inr ⟨SqT.of hp, Out.now h rp rv⟩⟩
  | sorted =>
    match vs, one, h with
    | [], _, h => exact h.elim
    | v :: _ :: _, _, h => cases v <;> exact h.elim
    | [v], one, h =>
      obtain ⟨x, rfl, rv⟩ := one v rfl
      cases e : Ab.lstOf s v with
      | none => simp only [Ab.biV, e] at h; exact h.elim
      | some ws =>
        simp only [Ab.biV, e, Option.bind_some] at h
        split at h
        · rename_i c
          obtain ⟨p, ys, rfl, hp, hv⟩ := lst_at rp e rv
          obtain ⟨n, hn⟩ := plain_of c.1
          obtain ⟨d1, d2⟩ := plain_dps rp hv fun v hv => by obtain ⟨a, b⟩ := hn v hv; rw [a]; exact b
          obtain ⟨al, so⟩ := sortable_ok c.1
          exact ⟨p, ys, toDs ws, rfl, SqL.of hp, d1, al, so, by rw [toDs_map, List.length_map]; exact line_of (Nat.le_trans (Nat.le_of_lt c.2) (by decide)), d2, fun l hl => new_lst rp h (sort_ok hv) hl⟩
        · exact h.elim
  | all =>
    match vs, one, h with
    | [], _, h => exact h.elim
    | v :: _ :: _, _, h => cases v <;> exact h.elim
    | [v], one, h =>
      obtain ⟨x, rfl, rv⟩ := one v rfl
      cases e : Ab.lstOf s v with
      | none => simp only [Ab.biV, e] at h; exact h.elim
      | some ws =>
        cases e2 : Ab.boolsOf ws with
        | none => simp only [Ab.biV, e, Option.bind_some, e2] at h; exact h.elim
        | some bs =>
          simp only [Ab.biV, e, Option.bind_some, e2] at h
          obtain ⟨p, ys, rfl, hp, hv⟩ := lst_at rp e rv
          exact ⟨p, bs, rfl, SqL.of (by rw [hp, bools_ok e2 hv]), Out.now h rp rfl⟩
  | any =>
    match vs, one, h with
    | [], _, h => exact h.elim
    | v :: _ :: _, _, h => cases v <;> exact h.elim
    | [v], one, h =>
      obtain ⟨x, rfl, rv⟩ := one v rfl
      cases e : Ab.lstOf s v with
      | none => simp only [Ab.biV, e] at h; exact h.elim
      | some ws =>
        cases e2 : Ab.boolsOf ws with
        | none => simp only [Ab.biV, e, Option.bind_some, e2] at h; exact h.elim
        | some bs =>
          simp only [Ab.biV, e, Option.bind_some, e2] at h
          obtain ⟨p, ys, rfl, hp, hv⟩ := lst_at rp e rv
          exact ⟨p, bs, rfl, SqL.of (by rw [hp, bools_ok e2 hv]), Out.now h rp rfl⟩
  | int =>
    match vs, one, h with
    | [], _, h => exact h.elim
    | v :: _ :: _, _, h => cases v <;> exact h.elim
    | [v], one, h =>
      obtain ⟨x, rfl, rv⟩ := one v rfl
      cases v with
      | int i => exact .inl ⟨i, by rw [show x = _ from rv], Out.now h rp rfl⟩
      | bl k => exact .inr ⟨k, by rw [show x = _ from rv], Out.now h rp rfl⟩
      | _ => exact h.elim
  | max2 =>
    match vs, two, h with
    | [], _, h => exact h.elim
    | [v], _, h => cases v <;> exact h.elim
    | v :: w :: _ :: _, _, h => cases v <;> cases w <;> exact h.elim
    | [v, w], two, h =>
      obtain ⟨x, y, rfl, rv, rw'⟩ := two v w rfl
      cases v <;> cases w <;> first | exact h.elim | exact ⟨_, _, by rw [show x = _ from rv, show y = _ from rw'], Out.now h rp rfl⟩
  | min2 =>
    match vs, two, h with
    | [], _, h => exact h.elim
    | [v], _, h => cases v <;> exact h.elim
    | v :: w :: _ :: _, _, h => cases v <;> cases w <;> exact h.elim
    | [v, w], two, h =>
      obtain ⟨x, y, rfl, rv, rw'⟩ := two v w rfl
      cases v <;> cases w <;> first | exact h.elim | exact ⟨_, _, by rw [show x = _ from rv, show y = _ from rw'], Out.now h rp rfl⟩
end Sn
end
section
set_option Elab.async false
set_option linter.all false
set_option autoImplicit false
set_option maxRecDepth 100000
set_option maxHeartbeats 4000000
/-! Methods of built-in types. -/
namespace Sn
open PySem L2
open Ab (Val SO Sto Exc R toD toDs BM)
variable {B : Bs} {X : Cx}
def bmName : BM → Str
  | .append => "append"
  | .pop => "pop"
  | .popAt => "pop"
  | .remove => "remove"
  | .index => "index"
  | .clear => "clear"
  | .extend => "extend"
  | .count => "count"
  | .join => "join"
  | .sindex => "index"
  | .get1 => "get"
  | .get2 => "get"
  | .update => "update"
/-- list methods with arguments, without -/
def isL1 : BM → Bool
  | .append => true
  | .popAt => true
  | .index => true
  | .extend => true
  | _ => false
def isL0 : BM → Bool
  | .pop => true
  | .clear => true
  | _ => false
/-- what they ask, by values -/
def rM (K : PySem.W.Frag) : BM → V → List V → Hp → VK → Prop
  | .append => rAppend
  | .popAt => rPopAt
  | .index => rIndex K
  | .extend => rExtend
  | .pop => rPop
  | .clear => rClear
  | _ => fun _ _ _ _ => False
section
variable {o e : Expr} {es : List Expr} {to : TE} {t : TA} {apos pos : Pos}
theorem pe_l1 {b : BM} (h1 : isL1 b = true) (ho : PE X o to) (ha : PA X (e :: es) t) (hb : noSup o = true) (hs : (e :: es).all noStar = true) (hl : (e :: es).length < 28) (hp : (apos.endLine == pos.line) = true) :
    PE X (.Call (.Attribute o (bmName b) apos) (e :: es) [] pos) (tBM X.K "list" (rM X.K b) to t) := by
  obtain ⟨s1, s2⟩ : noStar e = true ∧ es.all noStar = true := by simpa using hs
  cases b with
  | append => exact pe_bm F.plainAttrs_list F.slot_list_append F.type_list_append mt_append ho ha (base_of hb) (few_of hs hl) hp (star_cons s1) (star_any s2)
  | popAt => exact pe_bm F.plainAttrs_list F.slot_list_pop F.type_list_pop mt_popAt ho ha (base_of hb) (few_of hs hl) hp (star_cons s1) (star_any s2)
  | index => exact pe_bm F.plainAttrs_list F.slot_list_index F.type_list_index mt_index ho ha (base_of hb) (few_of hs hl) hp (star_cons s1) (star_any s2)
  | extend => exact pe_bm F.plainAttrs_list F.slot_list_extend F.type_list_extend mt_extend ho ha (base_of hb) (few_of hs hl) hp (star_cons s1) (star_any s2)
  | _ => cases h1
theorem pe_l0 {b : BM} (h1 : isL0 b = true) (ho : PE X o to) (hb : noSup o = true) (hp : (apos.endLine == pos.line) = true) : PE X (.Call (.Attribute o (bmName b) apos) [] [] pos) (tBM0 X.K "list" (rM X.K b) to) := by
  cases b with
  | pop => exact pe_bm0 F.plainAttrs_list F.slot_list_pop F.type_list_pop mt_pop ho (base_of hb) hp
  | clear => exact pe_bm0 F.plainAttrs_list F.slot_list_clear F.type_list_clear mt_clear ho (base_of hb) hp
  | _ => cases h1
end
/-! ### texts joined -/
theorem tl_str (t : Ab.Txt) : TL.tl (str t) = t := by simp [str, TL.tl]
theorem str_tl (x : Str) : str (TL.tl x) = x := by
  cases x
  simp [str, TL.tl]
theorem join_str (sep : Ab.Txt) (xs : List Ab.Txt) : PySem.Txt.join (str sep) (xs.map str) = str (Ab.joinT sep xs) := by
  have e : xs.map (TL.tl ∘ str) = xs := by
    have := List.map_congr_left (f := TL.tl ∘ str) (g := id) (l := xs) fun a _ => tl_str a
    rw [this, List.map_id]
  rw [TL.join_eq, ← str_tl (Str.join _ _), TL.tl_join, tl_str, List.map_map, e]
  rfl
theorem join_good {sep : Ab.Txt} (hs : good sep) : ∀ {xs : List Ab.Txt}, (∀ t ∈ xs, good t) → good (Ab.joinT sep xs)
  | [], _ => fun c hc => nomatch hc
  | [x], h => h x List.mem_cons_self
  | x :: y :: r, h => by
    intro c hc
    have e : Ab.joinT sep (x :: y :: r) = x ++ (sep ++ Ab.joinT sep (y :: r)) := rfl
    rw [e, List.mem_append, List.mem_append] at hc
    rcases hc with hc | hc | hc
    · exact h x List.mem_cons_self c hc
    · exact hs c hc
    · exact join_good hs (xs := y :: r) (fun t ht => h t (List.mem_cons_of_mem _ ht)) c hc
/-! ### a first place -/
theorem first_is {α : Type} {p : α → Bool} : ∀ {l : List α} {j : Nat}, Ab.first p l = some j → ∃ x, l[j]? = some x ∧ p x = true ∧ ∀ (m : Nat) y, m < j → l[m]? = some y → p y = false
  | [], _, h => by simp [Ab.first] at h
  | x :: r, j, h => by
    by_cases c : p x = true
    · simp only [Ab.first, c, if_true, Option.some.injEq] at h
      subst h
      exact ⟨x, rfl, c, fun m y hm => absurd hm (Nat.not_lt_zero m)⟩
    · have h' : (Ab.first p r).map (· + 1) = some j := by simpa [Ab.first, c] using h
      obtain ⟨i, hi, rfl⟩ := Option.map_eq_some_iff.mp h'
      obtain ⟨y, a1, a2, a3⟩ := first_is hi
      refine ⟨y, a1, a2, fun m z hm hz => ?_⟩
      cases m with
      | zero =>
        cases hz
        simpa using c
      | succ m => exact a3 m z (by omega) hz
/-! ### bmV -/
section
variable {φ : List Addr} {F : Hp} {s : Sto} {H : Hp} {W : WX} {σ : L2.St} {Q : VK} {b : BM} {o : Val} {x : V} {vs : List Val} {xs : List V}
theorem ty_list (rp : Rp B φ F s H) (ro : RV B φ F o x) (h : (Ab.lstOf s o).isSome = true) : tyV B.K "list" x H := by
  cases e : Ab.lstOf s o with
  | none => rw [e] at h; cases h
  | some vs =>
    obtain ⟨a, xs, rfl, ha, _⟩ := lst_at rp e ro
    exact .inl ⟨rfl, xs, SqL.of ha⟩
/-- a list that may be written -/
theorem own_list (rp : Rp B φ F s H) {l : Nat} (ro : RV B φ F (.loc l) x) {ws : List Val} (e : s[l]? = some (.list ws)) : ∃ a ys, x = .ref a ∧ φ[l]? = some a ∧ H a = some (.lst ys) ∧ RVs B φ F ws ys := by
  obtain ⟨a, rfl, ha⟩ := ro
  obtain ⟨ho, e1, ys, rfl, hv⟩ := rp.at ha e
  exact ⟨a, ys, rfl, ha, e1, hv⟩
theorem rv_one {v : Val} (r : RVs B φ F [v] xs) : ∃ y, xs = [y] ∧ RV B φ F v y := by
  obtain ⟨y, t, e, h1, h2⟩ := r
  exact ⟨y, by rw [e, show t = [] from h2], h1⟩
theorem rv_two {v w : Val} (r : RVs B φ F [v, w] xs) : ∃ y z, xs = [y, z] ∧ RV B φ F v y ∧ RV B φ F w z := by
  obtain ⟨y, t, e, h1, h2⟩ := r
  obtain ⟨z, rfl, h3⟩ := rv_one h2
  exact ⟨y, z, e, h1, h3⟩
/-- a written list's end -/
theorem wrote (rp : Rp B φ F s H) {l : Nat} {a : Addr} (ha : φ[l]? = some a) {us : List Val} (hs : s[l]? = some (.list us)) {ws : List Val} {ys : List V} (hv : RVs B φ F ws ys) {v : Val} {y : V} (rv : RV B φ F v y)
    (h : Out B W (RV B) φ F H (Ab.lift (some (v, s.set l (.list ws)))) σ Q) : Q y (upd H a (.lst ys)) := Out.fix (a := v) h (Ext.write rp ha) (rp.write ha (fun _ z => by rw [hs] at z; cases z) (o := .list ws) ⟨ys, rfl, hv⟩) rv
theorem append_ok (rp : Rp B φ F s H) (ro : RV B φ F o x) (r : RVs B φ F vs xs) (h : Out B W (RV B) φ F H (Ab.lift (Ab.bmV .append o vs s)) σ Q) : rAppend x xs H Q := by
  cases o with
  | loc l =>
    match vs, r, h with
    | [], _, h => exact h.elim
    | _ :: _ :: _, _, h => exact h.elim
    | [v], r, h =>
      obtain ⟨y, rfl, rv⟩ := rv_one r
      cases e : s[l]? with
      | none => simp only [Ab.bmV, e] at h; exact h.elim
      | some ob =>
        cases ob with
        | list ws =>
          simp only [Ab.bmV, e] at h
          split at h
          · rename_i c
            obtain ⟨a, ys, rfl, ha, e1, hv⟩ := own_list rp ro e
            exact ⟨a, ys, y, rfl, rfl, e1, by rw [← hv.length]; exact line_lt c, wrote rp ha e (hv.append (show RVs B φ F [v] [y] from ⟨y, [], rfl, rv, rfl⟩)) (v := .non) (y := .non) rfl h⟩
          · exact h.elim
        | _ => simp only [Ab.bmV, e] at h; exact h.elim
  | _ => exact h.elim
theorem pop_ok (rp : Rp B φ F s H) (ro : RV B φ F o x) (r : RVs B φ F vs xs) (h : Out B W (RV B) φ F H (Ab.lift (Ab.bmV .pop o vs s)) σ Q) : rPop x xs H Q := by
  cases o with
  | loc l =>
    match vs, r, h with
    | _ :: _, _, h => exact h.elim
    | [], r, h =>
      cases e : s[l]? with
      | none => simp only [Ab.bmV, e] at h; exact h.elim
      | some ob =>
        cases ob with
        | list ws =>
          cases e2 : ws[ws.length - 1]? with
          | none => simp only [Ab.bmV, e, e2] at h; exact h.elim
          | some v =>
            simp only [Ab.bmV, e, e2] at h
            obtain ⟨a, ys, rfl, ha, e1, hv⟩ := own_list rp ro e
            obtain ⟨y, g1, g2⟩ := hv.got e2
            rw [hv.length] at g1
            exact ⟨a, ys, y, rfl, r, e1, g1, wrote rp ha e hv.dropLast g2 h⟩
        | _ => simp only [Ab.bmV, e] at h; exact h.elim
  | _ => exact h.elim
theorem popAt_ok (rp : Rp B φ F s H) (ro : RV B φ F o x) (r : RVs B φ F vs xs) (h : Out B W (RV B) φ F H (Ab.lift (Ab.bmV .popAt o vs s)) σ Q) : rPopAt x xs H Q := by
  cases o with
  | loc l =>
    match vs, r, h with
    | [], _, h => exact h.elim
    | u :: _ :: _, _, h => cases u <;> exact h.elim
    | [v], r, h =>
      obtain ⟨y, rfl, rv⟩ := rv_one r
      cases v with
      | int i =>
        cases e : s[l]? with
        | none => simp only [Ab.bmV, e] at h; exact h.elim
        | some ob =>
          cases ob with
          | list ws =>
            simp only [Ab.bmV, e] at h
            split at h
            · rename_i c
              cases e2 : ws[i.toNat]? with
              | none => simp only [e2] at h; exact h.elim
              | some v =>
                simp only [e2] at h
                obtain ⟨a, ys, rfl, ha, e1, hv⟩ := own_list rp ro e
                obtain ⟨z, g1, g2⟩ := hv.got e2
                have hi : i.toNat < ys.length := (List.getElem?_eq_some_iff.mp g1).1
                have hs : seqIndex? i ys.length = some i.toNat := by
                  have := (L2.ixN_seq (n := ys.length) (i := i) (j := i.toNat) (by unfold L2.ixN; rw [if_pos c.1, if_pos (by omega)])).1
                  exact this
                exact ⟨a, ys, i, i.toNat, z, rfl, by rw [show y = _ from rv], e1, by omega, by omega, hs, g1, wrote rp ha e (hv.erase _) g2 h⟩
            · exact h.elim
          | _ => simp only [Ab.bmV, e] at h; exact h.elim
      | _ => exact h.elim
  | _ => exact h.elim
theorem clear_ok (rp : Rp B φ F s H) (ro : RV B φ F o x) (r : RVs B φ F vs xs) (h : Out B W (RV B) φ F H (Ab.lift (Ab.bmV .clear o vs s)) σ Q) : rClear x xs H Q := by
  cases o with
  | loc l =>
    match vs, r, h with
    | _ :: _, _, h => exact h.elim
    | [], r, h =>
      cases e : s[l]? with
      | none => simp only [Ab.bmV, e] at h; exact h.elim
      | some ob =>
        cases ob with
        | list ws =>
          simp only [Ab.bmV, e] at h
          obtain ⟨a, ys, rfl, ha, e1, hv⟩ := own_list rp ro e
          exact ⟨a, ys, rfl, r, e1, wrote rp ha e (show RVs B φ F [] [] from rfl) (v := .non) (y := .non) rfl h⟩
        | _ => simp only [Ab.bmV, e] at h; exact h.elim
  | _ => exact h.elim
theorem extend_ok (rp : Rp B φ F s H) (ro : RV B φ F o x) (r : RVs B φ F vs xs) (h : Out B W (RV B) φ F H (Ab.lift (Ab.bmV .extend o vs s)) σ Q) : rExtend x xs H Q := by
  cases o with
  | loc l =>
    match vs, r, h with
    | [], _, h => exact h.elim
    | _ :: _ :: _, _, h => exact h.elim
    | [v], r, h =>
      obtain ⟨y, rfl, rv⟩ := rv_one r
      cases e : s[l]? with
      | none => simp only [Ab.bmV, e] at h; exact h.elim
      | some ob =>
        cases ob with
        | list ws =>
          cases e2 : Ab.lstOf s v with
          | none => simp only [Ab.bmV, e, e2] at h; exact h.elim
          | some us =>
            simp only [Ab.bmV, e, e2] at h
            split at h
            · rename_i c
              obtain ⟨a, ys, rfl, ha, e1, hv⟩ := own_list rp ro e
              obtain ⟨q, zs, rfl, e3, hz⟩ := lst_at rp e2 rv
              exact ⟨a, q, ys, zs, rfl, rfl, e1, e3, by rw [← hv.length, ← hz.length]; exact line_of c, wrote rp ha e (hv.append hz) (v := .non) (y := .non) rfl h⟩
            · exact h.elim
        | _ => simp only [Ab.bmV, e] at h; exact h.elim
  | _ => exact h.elim
theorem index_ok (rp : Rp B φ F s H) (ro : RV B φ F o x) (r : RVs B φ F vs xs) (h : Out B W (RV B) φ F H (Ab.lift (Ab.bmV .index o vs s)) σ Q) : rIndex B.K x xs H Q := by
  match vs, r, h with
  | [], _, h => exact h.elim
  | _ :: _ :: _, _, h => exact h.elim
  | [v], r, h =>
    obtain ⟨y, rfl, rv⟩ := rv_one r
    cases e : Ab.lstOf s o with
    | none => simp only [Ab.bmV, e] at h; exact h.elim
    | some ws =>
      simp only [Ab.bmV, e] at h
      split at h
      · rename_i c
        cases e2 : Ab.first (fun z => Ab.pyEq z v) ws with
        | none => rw [e2] at h; exact h.elim
        | some j =>
          rw [e2] at h
          obtain ⟨a, ys, rfl, e1, hv⟩ := lst_at rp e ro
          obtain ⟨u, g1, g2, g3⟩ := first_is e2
          obtain ⟨z, k1, k2⟩ := hv.got g1
          have fl : ∀ w ∈ ws, Ab.flat w = true := List.all_eq_true.mp c.2
          refine ⟨a, ys, y, j, z, rfl, rfl, SqL.of e1, flat_ok rv c.1, flats_ok hv c.2, k1, ?_, fun m z' hm hz => ?_, Out.now (a := Val.int j) h rp rfl⟩
          · rw [flat_eq k2 rv (fl u (List.mem_of_getElem? g1)) c.1]
            exact g2
          · obtain ⟨w, n1, n2⟩ := hv.get hz
            rw [flat_eq n2 rv (fl w (List.mem_of_getElem? n1)) c.1]
            exact g3 m w hm n1
      · exact h.elim
theorem join_ok (rp : Rp B φ F s H) (ro : RV B φ F o x) (r : RVs B φ F vs xs) (h : Out B W (RV B) φ F H (Ab.lift (Ab.bmV .join o vs s)) σ Q) :
    ∃ a p, ∃ ys : List Str, x = .str a ∧ xs = [.ref p] ∧ (SqL B.K H p (ys.map V.str) ∨ SqT B.K H p (ys.map V.str)) ∧ (ys.map (·.length)).sum + ys.length * a.length ≤ 16777216 ∧ Q (.str (PySem.Txt.join a ys)) H := by
  cases o with
  | str sep =>
    match vs, r, h with
    | [], _, h => exact h.elim
    | _ :: _ :: _, _, h => exact h.elim
    | [v], r, h =>
      obtain ⟨y, rfl, rv⟩ := rv_one r
      cases e : Ab.lstOf s v with
      | none => simp only [Ab.bmV, e] at h; exact h.elim
      | some ws =>
        cases e2 : Ab.strsOf ws with
        | none => simp only [Ab.bmV, e, Option.bind_some, e2] at h; exact h.elim
        | some ts =>
          simp only [Ab.bmV, e, Option.bind_some, e2] at h
          split at h
          · rename_i c
            obtain ⟨a, ys, rfl, e1, hv⟩ := lst_at rp e rv
            obtain ⟨rfl, gs⟩ := strs_ok e2 hv
            refine ⟨str sep, a, ts.map str, ro.1, rfl, .inl (SqL.of e1), ?_, ?_⟩
            · have e3 : (ts.map str).map (·.length) = ts.map List.length := by
                rw [List.map_map]
                exact List.map_congr_left fun t _ => str_len t
              rw [e3, List.length_map, str_len]
              exact Nat.le_trans c (by decide)
            · rw [join_str]
              exact Out.now h rp ⟨rfl, join_good ro.2 gs⟩
          · exact h.elim
  | _ => exact h.elim
theorem get_ok (rp : Rp B φ F s H) {d k : Val} {x y : V} {f : Option Val → Val} (rd : RV B φ F d x) (rk : RV B φ F k y) (h : Out B W (RV B) φ F H (Ab.lift ((Ab.dlook s d k).map fun o => (f o, s))) σ Q) :
    ∃ a o, x = .ref a ∧ DGet H a y o ∧ ∀ g : Option V → V, (∀ p q, Got B φ F p q → RV B φ F (f p) (g q)) → Q (g o) H := by
  cases e : Ab.dlook s d k with
  | none => rw [e] at h; exact h.elim
  | some o =>
    rw [e] at h
    obtain ⟨a, o', rfl, g, _, k⟩ := dlook_ok rp rd rk e
    exact ⟨a, o', rfl, g, fun g hg => Out.now (a := f o) h rp (hg o o' k)⟩
end
end Sn
end
section
set_option Elab.async false
set_option linter.all false
set_option autoImplicit false
set_option maxRecDepth 100000
set_option maxHeartbeats 4000000
/-! Expressions: what the model evaluates is what the machine evaluates. -/
namespace Sn
open PySem L2
open Ab (Val SO Sto Exc R toD toDs BM BI Ex It Stm Tg)
variable {B : Bs} {X : Cx} {W : WX} {C : Ab.Ctx}
/-- an expression, arguments, a test, a slice's part -/
abbrev tE (B : Bs) (W : WX) (C : Ab.Ctx) (c : Ex) : TE := tM B W (RV B) (Ab.ev C c)
abbrev tEs (B : Bs) (W : WX) (C : Ab.Ctx) (cs : List Ex) : TA := tM B W (RVs B) (Ab.evs C cs)
abbrev Same' {α : Type} : Rel α α := fun _ _ a b => b = a
abbrev tT (B : Bs) (W : WX) (C : Ab.Ctx) (c : Ex) : TT := tM B W Same' (Ab.evc C (some c))
abbrev tO (B : Bs) (W : WX) (C : Ab.Ctx) (c : Option Ex) : TO := tM B W Same' (Ab.evo C c)
/-- a call's promise -/
def spF (B : Bs) (call : Nat → List Val → Sto → R Val) (f : Nat) : Sp := fun vs H Q E => ∃ φ F s us, Rp B φ F s H ∧ RVs B φ F us vs ∧ Out B (fun cls d _ H => E cls d H) (RV B) φ F H (call f us s) [] Q
/-! ### one behind the other -/
section
variable {α β γ δ : Type} {rel : Rel α β} {rel' : Rel γ δ} {m : Ab.Env → Sto → R α} {σ : L2.St} {H : Hp}
/-- what is known behind a first part -/
structure Now (B : Bs) (rel : Rel α β) (φ : List Addr) (F : Hp) (s : Sto) (H : Hp) (a : α) (x : β) : Prop where
  rp : Rp B φ F s H
  r : rel φ F a x
theorem tM_in {φ : List Addr} {F : Hp} {en : Ab.Env} {s : Sto} {Q : β → Hp → Prop} (rp : Rp B φ F s H) (re : REn B φ F en σ) (o : Out B W rel φ F H (m en s) σ Q) : tM B W rel m σ H Q := ⟨φ, F, en, s, rp, re, o⟩
/-- a first part, then what hangs on it -/
theorem tM_then {φ : List Addr} {F : Hp} {en : Ab.Env} {s : Sto} {k : α → Sto → R γ} {Q' : β → Hp → Prop} {Q : δ → Hp → Prop} (rp : Rp B φ F s H) (re : REn B φ F en σ) (o : Out B W rel' φ F H (Ab.bnd (m en s) k) σ Q)
    (go : ∀ φ' F' H' a s' x, Ext φ F H φ' F' H' → Rp B φ' F' s' H' → REn B φ' F' en σ → rel φ' F' a x → Out B W rel' φ' F' H' (k a s') σ Q → Q' x H') : tM B W rel m σ H Q' := by
  refine tM_in rp re ((Out.bnd (rel := rel) o).imp ?_)
  rintro x H' ⟨φ', F', a, s', _, le, rp', r, o'⟩
  exact go φ' F' H' a s' x le rp' (re.mono le.le) r o'
/-- .. knowing what it came to -/
theorem tM_thenE {φ : List Addr} {F : Hp} {en : Ab.Env} {s : Sto} {k : α → Sto → R γ} {Q' : β → Hp → Prop} {Q : δ → Hp → Prop} (rp : Rp B φ F s H) (re : REn B φ F en σ) (o : Out B W rel' φ F H (Ab.bnd (m en s) k) σ Q)
    (go : ∀ φ' F' H' a s' x, m en s = some (.ok a, s') → Ext φ F H φ' F' H' → Rp B φ' F' s' H' → REn B φ' F' en σ → rel φ' F' a x → Out B W rel' φ' F' H' (k a s') σ Q → Q' x H') : tM B W rel m σ H Q' := by
  refine tM_in rp re ((Out.bnd (rel := rel) o).imp ?_)
  rintro x H' ⟨φ', F', a, s', e, le, rp', r, o'⟩
  exact go φ' F' H' a s' x e le rp' (re.mono le.le) r o'
end
/-! ### arguments -/
theorem a_nil : PA X [] (tEs B W C []) := PA_imp pa_nil fun σ H Q ⟨φ, F, en, s, rp, re, o⟩ => Out.now (a := ([] : List Val)) o rp (show RVs B φ F [] [] from rfl)
theorem a_cons {e : Expr} {es : List Expr} {c : Ex} {cs : List Ex} (he : PE X e (tE B W C c)) (hs : PA X es (tEs B W C cs)) (h : noStar e = true) : PA X (e :: es) (tEs B W C (c :: cs)) :=
  PA_imp (pa_cons he hs (star_cons h)) fun σ H Q ⟨φ, F, en, s, rp, re, o⟩ =>
    tM_then (rel := RV B) rp re o fun φ1 F1 H1 a s1 x le rp1 re1 r o1 => tM_then (rel := RVs B) rp1 re1 o1 fun φ2 F2 H2 as s2 xs le2 rp2 re2 rs o2 =>
      Out.now (a := a :: as) o2 rp2 ⟨x, xs, rfl, r.mono le2.le, rs⟩
/-! ### what stands for itself -/
theorem e_var {i : Nat} {x : Str} {pos : Pos} (hN : X.N[i]? = some x) (hv : Vis X.env.scope x) (h1 : (x == ("__debug__" : Str)) = false) (h2 : (x == ("__classdict__" : Str)) = false) : PE X (.Name x pos) (tE B W C (.var i)) :=
  PE_imp (pe_var hN hv h1 h2) fun σ H Q ⟨φ, F, en, s, rp, re, o⟩ => by
    simp only [Ab.ev] at o
    split at o
    · rename_i v e
      obtain ⟨y, e1, r⟩ := re.at_ i v e
      exact ⟨y, e1, Out.now o rp r⟩
    · exact o.elim
theorem cst_of {e : Expr} {v : Val} {y : V} (h : PE X e (tC y)) (r : ∀ φ F, RV B φ F v y) : PE X e (tE B W C (.cst v)) :=
  PE_imp h fun σ H Q ⟨φ, F, en, s, rp, re, o⟩ => Out.now (a := v) o rp (r φ F)
/-! ### operators -/
theorem e_bin {a b : Expr} {ca cb : Ex} {pos : Pos} {op : Ab.BOp} {m : Bool} (hK : X.K = B.K) (ha : PE X a (tE B W C ca)) (hb : PE X b (tE B W C cb)) : PE X (.BinOp a (opB op) b pos) (tE B W C (.bin op m ca cb)) :=
  PE_imp (pe_op (op_bin op) ha hb) fun σ H Q ⟨φ, F, en, s, rp, re, o⟩ =>
    tM_then (rel := RV B) rp re o fun φ1 F1 H1 a s1 x le rp1 re1 r o1 => tM_then (rel := RV B) rp1 re1 o1 fun φ2 F2 H2 b s2 y le2 rp2 re2 r2 o2 => by
      rw [hK]
      exact bin_ok rp2 (r.mono le2.le) r2 o2
theorem noin_mark {op : Ab.COp} {b : Expr} (h : noSet b = true) : behindInMarks (opC op) b = false := mark_of h
theorem e_cmp {a b : Expr} {ca cb : Ex} {pos : Pos} {op : Ab.COp} (hK : X.K = B.K) (hu : X.A.units + 66 < cLine) (ha : PE X a (tE B W C ca)) (hb : PE X b (tE B W C cb)) (hs : noSet b = true) : PE X (.Compare a [opC op] [b] pos) (tE B W C (.cmp op ca cb)) :=
  PE_imp (pe_cmpR (op_cmp hu op) ha hb (mark_of hs)) fun σ H Q ⟨φ, F, en, s, rp, re, o⟩ =>
    tM_then (rel := RV B) rp re o fun φ1 F1 H1 a s1 x le rp1 re1 r o1 => tM_then (rel := RV B) rp1 re1 o1 fun φ2 F2 H2 b s2 y le2 rp2 re2 r2 o2 => by
      rw [hK]
      exact cmp_ok rp2 (r.mono le2.le) r2 o2
/-- is None -/
def isOp (n : Bool) : CmpOp := if n = true then .IsNot else .Is
theorem e_isN {a : Expr} {ca : Ex} {pos p : Pos} {j : Nat} {n : Bool} (ha : PE X a (tE B W C ca)) : PE X (.Compare a [isOp n] [.Constant .none j p] pos) (tE B W C (.isN n ca)) := by
  have nn : ∀ (φ : List Addr) (F : Hp) (v : Val) (x : V), RV B φ F v x → (decide (x = V.non)) = (match v with | .non => true | _ => false) := by
    intro φ F v x r
    cases v with
    | non => rw [show x = _ from r]; rfl
    | bl b => rw [show x = _ from r]; rfl
    | int b => rw [show x = _ from r]; rfl
    | str b => rw [r.1]; rfl
    | tup b => obtain ⟨a, xs, rfl, _⟩ := r; rfl
    | lst b => obtain ⟨a, xs, rfl, _⟩ := r; rfl
    | loc b => obtain ⟨a, rfl, _⟩ := r; rfl
    | scr b => obtain ⟨a, rfl, _⟩ := r; rfl
    | exc _ _ => exact r.elim
  cases n with
  | false =>
    refine PE_imp (pe_cmpR op_isN ha pe_non (mark_of rfl)) fun σ H Q ⟨φ, F, en, s, rp, re, o⟩ => tM_then (rel := RV B) rp re o fun φ1 F1 H1 v s1 x le rp1 re1 r o1 => ⟨rfl, ?_⟩
    rw [nn _ _ _ _ r]
    cases v <;> exact Out.now o1 rp1 rfl
  | true =>
    refine PE_imp (pe_cmpR op_notN ha pe_non (mark_of rfl)) fun σ H Q ⟨φ, F, en, s, rp, re, o⟩ => tM_then (rel := RV B) rp re o fun φ1 F1 H1 v s1 x le rp1 re1 r o1 => ⟨rfl, ?_⟩
    rw [nn _ _ _ _ r]
    cases v <;> exact Out.now o1 rp1 rfl
/-! ### and, or, not -/
theorem rv_bl {φ : List Addr} {F : Hp} {b : Bool} {x : V} (r : RV B φ F (.bl b) x) : x = .bl b := r
theorem e_not {a : Expr} {ca : Ex} {pos : Pos} (ha : PE X a (tE B W C ca)) : PE X (.UnaryOp .Not a pos) (tE B W C (.notE ca)) :=
  PE_imp (pe_not ha) fun σ H Q ⟨φ, F, en, s, rp, re, o⟩ => tM_then (rel := RV B) rp re o fun φ1 F1 H1 v s1 x le rp1 re1 r o1 => by
    cases v with
    | bl b => exact ⟨b, r, Out.now o1 rp1 rfl⟩
    | _ => exact o1.elim
theorem e_and {a b : Expr} {rest : List Expr} {ca cb : Ex} {pos : Pos} (ha : PE X a (tE B W C ca)) (hb : PE X (.BoolOp .And (b :: rest) pos) (tE B W C cb)) : PE X (.BoolOp .And (a :: b :: rest) pos) (tE B W C (.andE ca cb)) :=
  PE_imp (pe_and ha hb) fun σ H Q ⟨φ, F, en, s, rp, re, o⟩ => tM_then (rel := RV B) rp re o fun φ1 F1 H1 v s1 x le rp1 re1 r o1 => by
    cases v with
    | bl k =>
      refine ⟨k, r, ?_⟩
      cases k with
      | true =>
        rw [if_pos rfl]
        refine tM_then (rel := RV B) rp1 re1 o1 fun φ2 F2 H2 w s2 y le2 rp2 re2 r2 o2 => ?_
        cases w with
        | bl j => exact Out.now o2 rp2 r2
        | _ => exact o2.elim
      | false =>
        rw [if_neg Bool.false_ne_true]
        exact Out.now o1 rp1 rfl
    | _ => exact o1.elim
theorem e_or {a b : Expr} {rest : List Expr} {ca cb : Ex} {pos : Pos} (ha : PE X a (tE B W C ca)) (hb : PE X (.BoolOp .Or (b :: rest) pos) (tE B W C cb)) : PE X (.BoolOp .Or (a :: b :: rest) pos) (tE B W C (.orE ca cb)) :=
  PE_imp (pe_or ha hb) fun σ H Q ⟨φ, F, en, s, rp, re, o⟩ => tM_then (rel := RV B) rp re o fun φ1 F1 H1 v s1 x le rp1 re1 r o1 => by
    cases v with
    | bl k =>
      refine ⟨k, r, ?_⟩
      cases k with
      | false =>
        rw [if_neg Bool.false_ne_true]
        refine tM_then (rel := RV B) rp1 re1 o1 fun φ2 F2 H2 w s2 y le2 rp2 re2 r2 o2 => ?_
        cases w with
        | bl j => exact Out.now o2 rp2 r2
        | _ => exact o2.elim
      | true =>
        rw [if_pos rfl]
        exact Out.now o1 rp1 rfl
    | _ => exact o1.elim
/-! ### tests -/
theorem t_of {e : Expr} {c : Ex} (h : PE X e (tE B W C c)) (hp : plainT e = true) : PT X e (tT B W C c) :=
  PT_imp (pt_val h (test_of hp)) fun σ H Q ⟨φ, F, en, s, rp, re, o⟩ => tM_then (rel := RV B) rp re o fun φ1 F1 H1 v s1 x le rp1 re1 r o1 => by
    cases v with
    | bl b => exact ⟨b, r, Out.now o1 rp1 rfl⟩
    | _ => exact o1.elim
theorem t_cmp {a b : Expr} {c : Ex} {pos : Pos} {op : CmpOp} {r : R2} (ho : OpR X (compareOp op) r) {ta tb : TE} (ha : PE X a ta) (hb : PE X b tb) (hm : behindInMarks op b = false) (he : ∀ σ H Q, tE B W C c σ H Q → tOp r ta tb σ H Q) :
    PT X (.Compare a [op] [b] pos) (tT B W C c) :=
  PT_imp (pt_cmpR ho ha hb hm) fun σ H Q ⟨φ, F, en, s, rp, re, o⟩ => he _ _ _ (tM_then (rel := RV B) rp re o fun φ1 F1 H1 v s1 x le rp1 re1 r o1 => by
    cases v with
    | bl b => exact ⟨b, r, Out.now o1 rp1 rfl⟩
    | _ => exact o1.elim)
theorem t_not {a : Expr} {ca : Ex} {pos : Pos} (ha : PT X a (tT B W C ca)) : PT X (.UnaryOp .Not a pos) (tT B W C (.notE ca)) :=
  PT_imp (pt_not ha) fun σ H Q ⟨φ, F, en, s, rp, re, o⟩ => by
    have e : Ab.evc C (some (.notE ca)) en s = Ab.bnd (Ab.evc C (some ca) en s) fun b s => Ab.ok (!b) s := by
      simp only [Ab.evc, Ab.ev]
      cases Ab.ev C ca en s with
      | none => rfl
      | some p =>
        obtain ⟨r, s1⟩ := p
        cases r with
        | error e => rfl
        | ok v => cases v <;> rfl
    rw [e] at o
    exact tM_then (rel := Same') rp re o fun φ1 F1 H1 v s1 x le rp1 re1 r o1 => Out.now (a := !v) o1 rp1 (by rw [r])
/-- how a test of two parts goes -/
theorem evc_and (ca cb : Ex) (en : Ab.Env) (s : Sto) : Ab.evc C (some (.andE ca cb)) en s = Ab.bnd (Ab.evc C (some ca) en s) fun b s => if b = true then Ab.evc C (some cb) en s else Ab.ok false s := by
  simp only [Ab.evc, Ab.ev]
  cases Ab.ev C ca en s with
  | none => rfl
  | some p =>
    obtain ⟨r, s1⟩ := p
    cases r with
    | error e => rfl
    | ok v =>
      cases v with
      | bl k =>
        cases k with
        | false => rfl
        | true =>
          show Ab.bnd (Ab.bnd (Ab.ev C cb en s1) _) _ = Ab.bnd (Ab.ev C cb en s1) _
          cases Ab.ev C cb en s1 with
          | none => rfl
          | some q =>
            obtain ⟨r2, s2⟩ := q
            cases r2 with
            | error e => rfl
            | ok w => cases w <;> rfl
      | _ => rfl
theorem evc_or (ca cb : Ex) (en : Ab.Env) (s : Sto) : Ab.evc C (some (.orE ca cb)) en s = Ab.bnd (Ab.evc C (some ca) en s) fun b s => if b = true then Ab.ok true s else Ab.evc C (some cb) en s := by
  simp only [Ab.evc, Ab.ev]
  cases Ab.ev C ca en s with
  | none => rfl
  | some p =>
    obtain ⟨r, s1⟩ := p
    cases r with
    | error e => rfl
    | ok v =>
      cases v with
      | bl k =>
        cases k with
        | true => rfl
        | false =>
          show Ab.bnd (Ab.bnd (Ab.ev C cb en s1) _) _ = Ab.bnd (Ab.ev C cb en s1) _
          cases Ab.ev C cb en s1 with
          | none => rfl
          | some q =>
            obtain ⟨r2, s2⟩ := q
            cases r2 with
            | error e => rfl
            | ok w => cases w <;> rfl
      | _ => rfl
theorem w_and {a b : Expr} {rest : List Expr} {ca cb : Ex} {pos : Pos} (ha : PT X a (tT B W C ca)) (hb : PW X (.BoolOp .And (b :: rest) pos) (tT B W C cb)) : PW X (.BoolOp .And (a :: b :: rest) pos) (tT B W C (.andE ca cb)) := by
  have h := pw_and ha hb
  refine ⟨fun whole pins s0 σ H Q I ⟨φ, F, en, s, rp, re, o⟩ => h.run whole pins s0 σ H Q I ?_⟩
  rw [evc_and] at o
  refine tM_then (rel := Same') rp re o fun φ1 F1 H1 v s1 x le rp1 re1 r o1 => ?_
  have hx : x = v := r
  subst hx
  cases x with
  | true => exact tM_in rp1 re1 o1
  | false => exact Out.now o1 rp1 rfl
theorem w_or {a b : Expr} {rest : List Expr} {ca cb : Ex} {pos : Pos} (ha : PT X a (tT B W C ca)) (hb : PW X (.BoolOp .Or (b :: rest) pos) (tT B W C cb)) : PW X (.BoolOp .Or (a :: b :: rest) pos) (tT B W C (.orE ca cb)) := by
  have h := pw_or ha hb
  refine ⟨fun whole pins s0 σ H Q I ⟨φ, F, en, s, rp, re, o⟩ => h.run whole pins s0 σ H Q I ?_⟩
  rw [evc_or] at o
  refine tM_then (rel := Same') rp re o fun φ1 F1 H1 v s1 x le rp1 re1 r o1 => ?_
  have hx : x = v := r
  subst hx
  cases x with
  | false => exact tM_in rp1 re1 o1
  | true => exact Out.now o1 rp1 rfl
theorem e_ite {c a b : Expr} {cc ca cb : Ex} {pos : Pos} (hc : PT X c (tT B W C cc)) (ha : PE X a (tE B W C ca)) (hb : PE X b (tE B W C cb)) : PE X (.IfExp c a b pos) (tE B W C (.ite cc ca cb)) :=
  PE_imp (pe_ifExp hc ha hb) fun σ H Q ⟨φ, F, en, s, rp, re, o⟩ => by
    have e : Ab.ev C (.ite cc ca cb) en s = Ab.bnd (Ab.evc C (some cc) en s) fun b s => if b = true then Ab.ev C ca en s else Ab.ev C cb en s := by
      simp only [Ab.evc, Ab.ev]
      cases Ab.ev C cc en s with
      | none => rfl
      | some p =>
        obtain ⟨r, s1⟩ := p
        cases r with
        | error e => rfl
        | ok v =>
          cases v with
          | bl k => cases k <;> rfl
          | _ => rfl
    rw [e] at o
    refine tM_then (rel := Same') rp re o fun φ1 F1 H1 v s1 x le rp1 re1 r o1 => ?_
    have hx : x = v := r
    subst hx
    cases x with
    | true => exact tM_in rp1 re1 o1
    | false => exact tM_in rp1 re1 o1
/-! ### displays -/
theorem e_tup {es : List Expr} {cs : List Ex} {k : Nat} {pos : Pos} (h : PA X es (tEs B W C cs)) : PE X (.Tuple es k pos) (tE B W C (.tup cs)) :=
  PE_imp (pe_tup h) fun σ H Q ⟨φ, F, en, s, rp, re, o⟩ => tM_then (rel := RVs B) rp re o fun φ1 F1 H1 vs s1 xs le rp1 re1 r o1 => by
    split at o1
    · rename_i c
      exact ⟨by rw [← r.length]; exact line_of c, fun p hp => new_tup rp1 o1 r hp⟩
    · exact o1.elim
theorem e_lst {es : List Expr} {cs : List Ex} {m : Bool} {pos : Pos} (h : PA X es (tEs B W C cs)) : PE X (.List es pos) (tE B W C (.lst m cs)) :=
  PE_imp (pe_lst h) fun σ H Q ⟨φ, F, en, s, rp, re, o⟩ => tM_then (rel := RVs B) rp re o fun φ1 F1 H1 vs s1 xs le rp1 re1 r o1 => by
    split at o1
    · rename_i c
      exact ⟨by rw [← r.length]; exact line_of c, fun p hp => new_lst rp1 o1 r hp⟩
    · exact o1.elim
theorem e_dS {pos : Pos} : PE X (.Dict [] [] pos) (tE B W C (.dS [] [])) :=
  PE_imp pe_dnewK fun σ H Q ⟨φ, F, en, s, rp, re, o⟩ p hp => by
    obtain ⟨e, rp', at'⟩ := rp.placed hp (o := .dS []) (ho := .dK []) fun φ' e => ⟨[], rfl, rfl⟩
    exact Out.fix (a := Val.loc s.length) o e rp' ⟨p, rfl, at'⟩
theorem e_dT {pos : Pos} : PE X (.Dict [] [] pos) (tE B W C .dT) :=
  PE_imp pe_dnewT fun σ H Q ⟨φ, F, en, s, rp, re, o⟩ p hp => by
    obtain ⟨e, rp', at'⟩ := rp.placed hp (o := .dT []) (ho := .dT []) fun φ' e => ⟨[], rfl, rfl, fun p hp => by cases hp⟩
    exact Out.fix (a := Val.loc s.length) o e rp' ⟨p, rfl, at'⟩
/-! ### places, slices -/
theorem e_item {a b : Expr} {ca cb : Ex} {pos : Pos} (hK : X.K = B.K) (hu : X.A.units + 1 < cLine) (ha : PE X a (tE B W C ca)) (hb : PE X b (tE B W C cb)) (hs : noSlice b = true) : PE X (.Subscript a b pos) (tE B W C (.item ca cb)) := by
  refine PE_imp (PE_or (pe_ix ix_seq ha hb (plainIx_of hs)) (pe_dget hu ha hb (plainIx_of hs))) fun σ H Q ⟨φ, F, en, s, rp, re, o⟩ => ?_
  -- by what the second comes to
  by_cases c : ∀ v s1 u s2, Ab.ev C ca en s = some (.ok v, s1) → Ab.ev C cb en s1 = some (.ok u, s2) → ∃ k, u = .int k
  · refine .inl (tM_thenE (rel := RV B) rp re o fun φ1 F1 H1 a s1 x e1 le rp1 re1 r o1 => tM_thenE (rel := RV B) rp1 re1 o1 fun φ2 F2 H2 b s2 y e2 le2 rp2 re2 r2 o2 => ?_)
    obtain ⟨k, rfl⟩ := c _ _ _ _ e1 e2
    rw [hK]
    exact item_seq rp2 (r.mono le2.le) r2 o2
  · refine .inr (tM_thenE (rel := RV B) rp re o fun φ1 F1 H1 a s1 x e1 le rp1 re1 r o1 => tM_thenE (rel := RV B) rp1 re1 o1 fun φ2 F2 H2 b s2 y e2 le2 rp2 re2 r2 o2 => ?_)
    refine item_dict rp2 (r.mono le2.le) r2 (fun k hk => c ?_) o2
    intro v s1' u s2' g1 g2
    rw [e1] at g1
    cases g1
    rw [e2] at g2
    cases g2
    exact ⟨k, hk⟩
theorem e_slice {a : Expr} {lo hi : Option Expr} {ca : Ex} {cl ch : Option Ex} {m : Bool} {pos p2 : Pos} (hK : X.K = B.K) (ha : PE X a (tE B W C ca)) (hl : PO X lo (tO B W C cl)) (hh : PO X hi (tO B W C ch)) : PE X (.Subscript a (.Slice lo hi none p2) pos) (tE B W C (.slice m ca cl ch)) :=
  PE_imp (pe_slice sl_any ha hl hh) fun σ H Q ⟨φ, F, en, s, rp, re, o⟩ => tM_then (rel := RV B) rp re o fun φ1 F1 H1 v s1 x le rp1 re1 r o1 =>
    tM_then (rel := Same') rp1 re1 o1 fun φ2 F2 H2 l s2 l' le2 rp2 re2 r2 o2 => tM_then (rel := Same') rp2 re2 o2 fun φ3 F3 H3 h s3 h' le3 rp3 re3 r3 o3 => by
      rw [hK, show l' = l from r2, show h' = h from r3]
      exact slice_ok rp3 (r.mono (le2.trans le3).le) o3
theorem o_none : PO X none (tO B W C none) := ⟨fun pins s0 σ H Q I ⟨φ, F, en, s, rp, re, o⟩ => po_none.run pins s0 σ H Q I (Out.now (a := (none : Option Int)) o rp rfl)⟩
theorem o_some {e : Expr} {c : Ex} (h : PE X e (tE B W C c)) : PO X (some e) (tO B W C (some c)) := by
  have p := po_some h
  refine ⟨fun pins s0 σ H Q I ⟨φ, F, en, s, rp, re, o⟩ => p.run pins s0 σ H Q I ?_⟩
  refine tM_then (rel := RV B) rp re o fun φ1 F1 H1 v s1 x le rp1 re1 r o1 => ?_
  cases v with
  | int i => exact ⟨i, r, Out.now o1 rp1 rfl⟩
  | _ => exact o1.elim
end Sn
end
section
set_option Elab.async false
set_option linter.all false
set_option autoImplicit false
set_option maxRecDepth 100000
set_option maxHeartbeats 4000000
/-! Attributes, built-ins, calls. -/
namespace Sn
open PySem L2
open Ab (Val SO Sto Exc R toD toDs BM BI Ex It Stm Tg)
variable {B : Bs} {X : Cx} {W : WX} {C : Ab.Ctx}
/-- the classes as the top has made them -/
structure ClsOk (B : Bs) (K : PySem.W.Frag) : Prop where
  cl : ∀ c, B.okC c = true → Cls K (B.A c)
  na : ∀ c f, B.okC c = true → B.okF f = true → NoAttr K (B.A c) (B.fld f)
theorem lookup_ok {fs : List (Nat × Val)} {f : Nat} {v : Val} {p : Nat → Bool} (h : (fs.all fun q => p q.1) = true) (e : fs.lookup f = some v) : p f = true := by
  induction fs with
  | nil => cases e
  | cons q r ih =>
    obtain ⟨h1, h2⟩ : p q.1 = true ∧ (r.all fun q => p q.1) = true := by simpa using h
    obtain ⟨g, u⟩ := q
    by_cases c : f = g
    · rw [c]
      exact h1
    · have c' : (f == g) = false := by simpa using c
      simp only [List.lookup_cons, c'] at e
      exact ih h2 e
/-- an instance at a place -/
theorem inst_at {φ : List Addr} {F : Hp} {s : Sto} {H : Hp} (rp : Rp B φ F s H) {l : Nat} {x : V} (r : RV B φ F (.loc l) x) {c : Nat} {fs : List (Nat × Val)} (e : s[l]? = some (.inst c fs)) :
    ∃ a dx xs, x = .ref a ∧ φ[l]? = some a ∧ H a = some (.ins (B.A c) dx xs) ∧ RFs B φ F fs xs ∧ B.okC c = true ∧ (fs.all fun p => B.okF p.1) = true := by
  obtain ⟨a, rfl, ha⟩ := r
  obtain ⟨ho, e1, dx, xs, rfl, h1, h2, h3⟩ := rp.at ha e
  exact ⟨a, dx, xs, rfl, ha, e1, h1, h2, h3⟩
theorem e_fld {a : Expr} {ca : Ex} {f : Nat} {pos : Pos} (hK : X.K = B.K) (G : ClsOk B B.K) (ha : PE X a (tE B W C ca)) (hb : noSup a = true) : PE X (.Attribute a (B.fld f) pos) (tE B W C (.fld ca f)) :=
  PE_imp (pe_fld ha (base_of hb)) fun σ H Q ⟨φ, F, en, s, rp, re, o⟩ => tM_then (rel := RV B) rp re o fun φ1 F1 H1 v s1 x le rp1 re1 r o1 => by
    cases v with
    | loc l =>
      cases e : s1[l]? with
      | none => simp only [e] at o1; exact o1.elim
      | some ob =>
        cases ob with
        | inst c fs =>
          simp only [e] at o1
          cases e2 : fs.lookup f with
          | none => rw [e2] at o1; exact o1.elim
          | some v =>
            rw [e2] at o1
            obtain ⟨p, dx, xs, rfl, hp, h1, h2, h3, h4⟩ := inst_at rp1 r e
            obtain ⟨y, g1, g2⟩ := h2.look e2
            rw [hK]
            exact ⟨p, B.A c, dx, xs, y, rfl, h1, G.cl c h3, G.na c f h3 (lookup_ok h4 e2), g1, Out.now (a := v) o1 rp1 g2⟩
        | _ => simp only [e] at o1; exact o1.elim
    | exc _ _ => exact r.elim
    | _ => exact o1.elim
/-! ### built-ins by their names -/
def biName : BI → Str
  | .len => "len"
  | .list => "list"
  | .tuple => "tuple"
  | .sorted => "sorted"
  | .all => "all"
  | .any => "any"
  | .int => "int"
  | .max2 => "max"
  | .min2 => "min"
  | _ => "isinstance"
def biOk : BI → Bool
  | .len => true
  | .list => true
  | .tuple => true
  | .sorted => true
  | .all => true
  | .any => true
  | .int => true
  | .max2 => true
  | .min2 => true
  | _ => false
theorem bi_boot {b : BI} (h : biOk b = true) : bootBuiltins (biName b) = some (biIs b) := by
  cases b <;> first | (cases h; done) | (simp only [biName, biIs]; decide +kernel)
theorem bi_plain {b : BI} (h : biOk b = true) : biName b ≠ "__name__" ∧ (biName b == ("__debug__" : Str)) = false := by
  cases b <;> first | (cases h; done) | (constructor <;> decide +kernel)
theorem e_bi {b : BI} {m : Bool} {e : Expr} {es : List Expr} {cs : List Ex} {p pos : Pos} (hK : X.K = B.K) (hc : X.calm = true) (hu : X.A.units + 40 < cLine) (h : biOk b = true) (hg : Gl X (biName b)) (hm : X.mg (biName b) = none)
    (ha : PA X (e :: es) (tEs B W C cs)) (hs : (e :: es).all noStar = true) : PE X (.Call (.Name (biName b) p) (e :: es) [] pos) (tE B W C (.bi b m cs)) := by
  obtain ⟨s1, s2⟩ : noStar e = true ∧ es.all noStar = true := by simpa using hs
  obtain ⟨n1, n2⟩ := bi_plain h
  have base : PE X (.Call (.Name (biName b) p) (e :: es) [] pos) (tCB (rBi X.K b) (tEs B W C cs)) := by
    have bt := bi_boot h
    have cl := call_bi (X := X) hc hu b
    cases hv : biIs b with
    | builtin id => rw [hv] at bt cl; exact pe_callB cl hg hm bt ha n1 n2 (star_cons s1) (star_any s2)
    | type id => rw [hv] at bt cl; exact pe_callTy cl hg hm bt ha n1 n2 (star_cons s1) (star_any s2)
    | _ => cases b <;> cases hv
  refine PE_imp base fun σ H Q ⟨φ, F, en, s, rp, re, o⟩ => tM_then (rel := RVs B) rp re o fun φ1 F1 H1 vs s1 xs le rp1 re1 r o1 => ?_
  rw [hK]
  exact bi_ok (by cases b <;> first | rfl | cases h) rp1 r o1 (by rintro rfl; cases h) (by rintro rfl; cases h)
/-- isinstance(e, T) -/
theorem kind_boot {b : BI} (h : isIs b = true) : bootBuiltins (kindOf b : Str) = some (.type (kindOf b)) ∧ (kindOf b : Str) ≠ "__name__" ∧ ((kindOf b : Str) == ("__debug__" : Str)) = false := by
  cases b <;> first | (cases h; done) | (refine ⟨?_, ?_, ?_⟩ <;> decide +kernel)
theorem e_is {b : BI} {m : Bool} {e : Expr} {c : Ex} {p p2 pos : Pos} (hK : X.K = B.K) (h : isIs b = true) (hg : Gl X "isinstance") (hm : X.mg "isinstance" = none) (hg2 : Gl X (kindOf b : Str)) (hm2 : X.mg (kindOf b : Str) = none)
    (ha : PE X e (tE B W C c)) (hs : noStar e = true) : PE X (.Call (.Name "isinstance" p) [e, .Name (kindOf b : Str) p2] [] pos) (tE B W C (.bi b m [c])) := by
  obtain ⟨b1, b2, b3⟩ := kind_boot h
  have two : PE X (.Name (kindOf b : Str) p2) (tC (.ty (kindOf b))) := pe_bltn hg2 hm2 b1 rfl b2 b3
  refine PE_imp (pe_callB call_isi hg hm (by decide +kernel) (pa_cons ha (pa_cons two pa_nil (star_cons rfl)) (star_cons hs)) (by decide +kernel) (by decide +kernel) (star_cons hs) (star_any (es := [.Name (kindOf b : Str) p2]) rfl)) ?_
  rintro σ H Q ⟨φ, F, en, s, rp, re, o⟩
  have o' : Out B W (RV B) φ F H (Ab.bnd (Ab.ev C c en s) fun v s => Ab.lift ((Ab.isKind b s v).map fun k => (.bl k, s))) σ Q := by
    have e1 : Ab.ev C (.bi b m [c]) en s = Ab.bnd (Ab.ev C c en s) fun v s => Ab.lift ((Ab.isKind b s v).map fun k => (.bl k, s)) := by
      simp only [Ab.ev, Ab.evs]
      cases Ab.ev C c en s with
      | none => rfl
      | some q =>
        obtain ⟨r, s1⟩ := q
        cases r with
        | error _ => rfl
        | ok v => cases b <;> first | (cases h; done) | rfl
    rw [← e1]
    exact o
  refine tM_then (rel := RV B) rp re o' fun φ1 F1 H1 v s1 x le rp1 re1 r o1 => ?_
  cases e2 : Ab.isKind b s1 v with
  | none => rw [e2] at o1; exact o1.elim
  | some k =>
    rw [e2] at o1
    obtain ⟨t, h1, h2⟩ := kind_ok rp1 r h e2
    rw [← hK] at h1
    exact ⟨x, .ty (kindOf b), .type t, .type (kindOf b), k, rfl, .ty _, h1, kit_ty h2, Out.now (a := Val.bl k) o1 rp1 rfl⟩
/-! ### methods of built-in types -/
theorem e_l1 {b : BM} {a e : Expr} {es : List Expr} {ca : Ex} {cs : List Ex} {apos pos : Pos} (hK : X.K = B.K) (h1 : isL1 b = true) (ho : PE X a (tE B W C ca)) (ha : PA X (e :: es) (tEs B W C cs)) (hb : noSup a = true) (hs : (e :: es).all noStar = true)
    (hl : (e :: es).length < 28) (hp : (apos.endLine == pos.line) = true) : PE X (.Call (.Attribute a (bmName b) apos) (e :: es) [] pos) (tE B W C (.bm b ca cs)) :=
  PE_imp (pe_l1 h1 ho ha hb hs hl hp) fun σ H Q ⟨φ, F, en, s, rp, re, o⟩ => tM_then (rel := RV B) rp re o fun φ1 F1 H1 v s1 x le rp1 re1 r o1 => by
    split at o1
    · rename_i c
      rw [hK]
      refine ⟨ty_list rp1 r (by cases b <;> first | (cases h1; done) | exact c), tM_then (rel := RVs B) rp1 re1 o1 fun φ2 F2 H2 vs s2 xs le2 rp2 re2 rs o2 => ?_⟩
      cases b with
      | append => exact append_ok rp2 (r.mono le2.le) rs o2
      | popAt => exact popAt_ok rp2 (r.mono le2.le) rs o2
      | index => exact index_ok rp2 (r.mono le2.le) rs o2
      | extend => exact extend_ok rp2 (r.mono le2.le) rs o2
      | _ => cases h1
    · exact o1.elim
theorem e_l0 {b : BM} {a : Expr} {ca : Ex} {apos pos : Pos} (hK : X.K = B.K) (h1 : isL0 b = true) (ho : PE X a (tE B W C ca)) (hb : noSup a = true) (hp : (apos.endLine == pos.line) = true) : PE X (.Call (.Attribute a (bmName b) apos) [] [] pos) (tE B W C (.bm b ca [])) :=
  PE_imp (pe_l0 h1 ho hb hp) fun σ H Q ⟨φ, F, en, s, rp, re, o⟩ => tM_then (rel := RV B) rp re o fun φ1 F1 H1 v s1 x le rp1 re1 r o1 => by
    split at o1
    · rename_i c
      have o2 : Out B W (RV B) φ1 F1 H1 (Ab.lift (Ab.bmV b v [] s1)) σ Q := o1
      rw [hK]
      refine ⟨ty_list rp1 r (by cases b <;> first | (cases h1; done) | exact c), ?_⟩
      cases b with
      | pop => exact pop_ok rp1 r (show RVs B φ1 F1 [] [] from rfl) o2
      | clear => exact clear_ok rp1 r (show RVs B φ1 F1 [] [] from rfl) o2
      | _ => cases h1
    · exact o1.elim
theorem e_join {a e : Expr} {ca c : Ex} {apos pos : Pos} (hK : X.K = B.K) (ho : PE X a (tE B W C ca)) (ha : PA X [e] (tEs B W C [c])) (hb : noSup a = true) (hs : noStar e = true) (hp : (apos.endLine == pos.line) = true) :
    PE X (.Call (.Attribute a "join" apos) [e] [] pos) (tE B W C (.bm .join ca [c])) :=
  PE_imp (pe_bm F.plainAttrs_str F.slot_str_join F.type_str_join mt_join ho ha (base_of hb) (few_of (by simpa using hs) (by simp)) hp (star_cons hs) (star_any (es := []) rfl)) fun σ H Q ⟨φ, F, en, s, rp, re, o⟩ =>
    tM_then (rel := RV B) rp re o fun φ1 F1 H1 v s1 x le rp1 re1 r o1 => by
      split at o1
      · rename_i c'
        cases v with
        | str t =>
          rw [hK, r.1]
          refine ⟨rfl, tM_then (rel := RVs B) rp1 re1 o1 fun φ2 F2 H2 vs s2 xs le2 rp2 re2 rs o2 => ?_⟩
          have := join_ok rp2 (r.mono le2.le) rs o2
          rw [r.1] at this
          exact this
        | _ => cases c'
      · exact o1.elim
theorem d_is {φ : List Addr} {F : Hp} {s : Sto} {H : Hp} (rp : Rp B φ F s H) {v : Val} {x : V} (r : RV B φ F v x) (h : Ab.bmTy .get1 v s = true) : ∃ a, x = .ref a ∧ IsD H a := by
  cases v with
  | loc l =>
    obtain ⟨a, rfl, ha⟩ := r
    cases e : s[l]? with
    | none => simp [Ab.bmTy, e] at h
    | some ob =>
      cases ob with
      | dS kvs =>
        obtain ⟨ho, e1, xs, rfl, _⟩ := rp.at ha e
        exact ⟨a, rfl, .inl ⟨xs, Rd.of e1⟩⟩
      | dT kvs =>
        obtain ⟨ho, e1, xs, rfl, _⟩ := rp.at ha e
        exact ⟨a, rfl, .inr ⟨xs, Rd.of e1⟩⟩
      | dTf kvs =>
        obtain ⟨ho, e1, od, xs, rfl, _⟩ := rp.at ha e
        exact ⟨a, rfl, .inr ⟨xs, .inr ⟨od, e1⟩⟩⟩
      | _ => simp [Ab.bmTy, e] at h
  | _ => cases h
theorem e_get1 {a e : Expr} {ca c : Ex} {apos pos : Pos} (hu : X.A.units + 1 < cLine) (ho : PE X a (tE B W C ca)) (ha : PE X e (tE B W C c)) (hb : noSup a = true) (hs : noStar e = true) (hp : (apos.endLine == pos.line) = true) :
    PE X (.Call (.Attribute a "get" apos) [e] [] pos) (tE B W C (.bm .get1 ca [c])) :=
  PE_imp (pe_dget1 hu ho ha ⟨base_of hb, few_of (by simpa using hs) (by simp), hp, by rw [star_cons hs]; rfl⟩) fun σ H Q ⟨φ, F, en, s, rp, re, o⟩ => tM_then (rel := RV B) rp re o fun φ1 F1 H1 v s1 x le rp1 re1 r o1 => by
    split at o1
    · rename_i c'
      obtain ⟨p, rfl, hd⟩ := d_is rp1 r c'
      refine ⟨p, rfl, hd, ?_⟩
      have e1 : ∀ s, Ab.evs C [c] en s = Ab.bnd (Ab.ev C c en s) fun v s => Ab.ok [v] s := fun s => rfl
      have o2 : Out B W (RV B) φ1 F1 H1 (Ab.bnd (Ab.ev C c en s1) fun w s => Ab.lift ((Ab.dlook s v w).map fun o => (o.getD .non, s))) σ Q := by
        rw [e1] at o1
        revert o1
        cases Ab.ev C c en s1 with
        | none => exact fun h => h
        | some q =>
          obtain ⟨r2, s2⟩ := q
          cases r2 with
          | error _ => exact fun h => h
          | ok w => exact fun h => h
      refine tM_then (rel := RV B) rp1 re1 o2 fun φ2 F2 H2 w s2 y le2 rp2 re2 r2 o3 => ?_
      obtain ⟨q, o', e2, g, fin⟩ := get_ok rp2 (f := fun o => o.getD .non) (r.mono le2.le) r2 o3
      cases e2
      refine ⟨o', g, fin (fun z => z.getD .non) ?_⟩
      intro z z' hz
      cases z with
      | none => rw [show z' = none from hz]; rfl
      | some u => obtain ⟨u', rfl, hu⟩ := hz; exact hu
    · exact o1.elim
theorem e_get2 {a e f : Expr} {ca c d : Ex} {apos pos : Pos} (hu : X.A.units + 1 < cLine) (ho : PE X a (tE B W C ca)) (ha : PE X e (tE B W C c)) (hf : PE X f (tE B W C d)) (hb : noSup a = true) (hs : noStar e = true) (hs2 : noStar f = true) (hp : (apos.endLine == pos.line) = true) :
    PE X (.Call (.Attribute a "get" apos) [e, f] [] pos) (tE B W C (.bm .get2 ca [c, d])) :=
  PE_imp (pe_dget2 hu ho ha hf ⟨base_of hb, few_of (by simp [hs, hs2]) (by simp), hp, by rw [star_cons hs, star_cons hs2]; rfl⟩) fun σ H Q ⟨φ, F, en, s, rp, re, o⟩ => tM_then (rel := RV B) rp re o fun φ1 F1 H1 v s1 x le rp1 re1 r o1 => by
    split at o1
    · rename_i c'
      obtain ⟨p, rfl, hd⟩ := d_is rp1 r c'
      refine ⟨p, rfl, hd, ?_⟩
      have o2 : Out B W (RV B) φ1 F1 H1 (Ab.bnd (Ab.ev C c en s1) fun w s => Ab.bnd (Ab.ev C d en s) fun z s => Ab.lift ((Ab.dlook s v w).map fun o => (o.getD z, s))) σ Q := by
        revert o1
        simp only [Ab.evs]
        cases Ab.ev C c en s1 with
        | none => exact fun h => h
        | some q =>
          obtain ⟨r2, s2⟩ := q
          cases r2 with
          | error _ => exact fun h => h
          | ok w =>
            simp only [Ab.bnd]
            cases Ab.ev C d en s2 with
            | none => exact fun h => h
            | some q =>
              obtain ⟨r3, s3⟩ := q
              cases r3 with
              | error _ => exact fun h => h
              | ok z => exact fun h => h
      refine tM_then (rel := RV B) rp1 re1 o2 fun φ2 F2 H2 w s2 y le2 rp2 re2 r2 o3 => tM_then (rel := RV B) rp2 re2 o3 fun φ3 F3 H3 u s3 z le3 rp3 re3 r3 o4 => ?_
      obtain ⟨q, o', e2, g, fin⟩ := get_ok rp3 (f := fun o => o.getD u) (r.mono (le2.trans le3).le) (r2.mono le3.le) o4
      cases e2
      refine ⟨o', g, fin (fun z' => z'.getD z) ?_⟩
      intro a a' hz
      cases a with
      | none => rw [show a' = none from hz]; exact r3
      | some u => obtain ⟨u', rfl, hu⟩ := hz; exact hu
    · exact o1.elim
/-! ### calls -/
/-- a def as its callers see it -/
structure FnAt (B : Bs) (X : Cx) (k : Nat) (call : Nat → List Val → Sto → R Val) (f : Nat) (a : Addr) : Prop where
  ok : ∃ fd ps, Binds X.K fd ps [] ∧ FnOk X.prog X.w X.K X.mg X.base (L2.CX X.prog X.w) k a fd ps (spF B call f)
/-- a wish that does not hang on the slots -/
def Flat (W : WX) : Prop := ∀ c d σ σ' H, W c d σ H → W c d σ' H
theorem sp_of {φ : List Addr} {F : Hp} {s : Sto} {H : Hp} {call : Nat → List Val → Sto → R Val} {f : Nat} {vs : List Val} {xs : List V} {σ : L2.St} {Q : VK} {E : XK} (rp : Rp B φ F s H) (r : RVs B φ F vs xs) (hE : ∀ c d H, W c d σ H → E c d H)
    (o : Out B W (RV B) φ F H (call f vs s) σ Q) : spF B call f xs H Q E := by
  refine ⟨φ, F, s, vs, rp, r, ?_⟩
  revert o
  cases call f vs s with
  | none => exact fun h => h
  | some q =>
    obtain ⟨r, s1⟩ := q
    cases r with
    | ok v => exact fun h => h
    | error e => exact fun h φ' F' H' cls d a b c => hE _ _ _ (h φ' F' H' cls d a b c)
theorem e_call {f : Nat} {x : Str} {a : Addr} {k : Nat} {e : Expr} {es : List Expr} {cs : List Ex} {p pos : Pos} (fa : FnAt B X k C.call f a) (hr : Room k X.A) (tk : Takes X W) (hw : Flat W) (hg : Gl X x) (hm : X.mg x = some (.ref a)) (hk : PySem.W.keepIn X.K (.ref a) = true)
    (ha : PA X (e :: es) (tEs B W C cs)) (hs : (e :: es).all noStar = true) (hd : (x == ("__debug__" : Str)) = false) : PE X (.Call (.Name x p) (e :: es) [] pos) (tE B W C (.call f cs)) := by
  obtain ⟨s1, s2⟩ : noStar e = true ∧ es.all noStar = true := by simpa using hs
  obtain ⟨fd, ps, b, F⟩ := fa.ok
  refine PE_imp (pe_call F hr hg hm hk b .nil (every_passes tk) ha hd (star_cons s1) (star_any s2)) fun σ H Q ⟨φ, F, en, s, rp, re, o⟩ => tM_then (rel := RVs B) rp re o fun φ1 F1 H1 vs s1 xs le rp1 re1 r o1 => ?_
  rw [List.append_nil]
  exact sp_of rp1 r (fun c d H h σ' => hw c d σ σ' H h) o1
theorem e_call0 {f : Nat} {x : Str} {a : Addr} {k : Nat} {p pos : Pos} (fa : FnAt B X k C.call f a) (hr : Room k X.A) (tk : Takes X W) (hw : Flat W) (hg : Gl X x) (hm : X.mg x = some (.ref a)) (hk : PySem.W.keepIn X.K (.ref a) = true)
    (hd : (x == ("__debug__" : Str)) = false) : PE X (.Call (.Name x p) [] [] pos) (tE B W C (.call f [])) := by
  obtain ⟨fd, ps, b, F⟩ := fa.ok
  refine PE_imp (pe_call0 F hr hg hm hk b .nil (every_passes tk) hd) fun σ H Q ⟨φ, F, en, s, rp, re, o⟩ => ?_
  exact sp_of (vs := []) rp (show RVs B φ F [] [] from rfl) (fun c d H h σ' => hw c d σ σ' H h) o
/-- a new instance, its __init__ -/
theorem mk_in {φ : List Addr} {F : Hp} {s : Sto} {H : Hp} {c f : Nat} {vs : List Val} {xs : List V} {σ : L2.St} {Q : VK} {E : XK} {init : Nat → List Val → Sto → R Val} (rp : Rp B φ F s H) (r : RVs B φ F vs xs) (hc : B.okC c = true) (hE : ∀ c d H, W c d σ H → E c d H)
    (o : Out B W (RV B) φ F H (Ab.bnd (init f (.loc s.length :: vs) (s ++ [.inst c []])) fun r s1 => match r with
      | .non => Ab.ok (.loc s.length) s1
      | _ => none) σ Q) :
    ∀ x dx, H x = none → H dx = none → dx ≠ x → spF B init f (.ref x :: xs) (upd (upd H dx (.own x)) x (.ins (B.A c) dx [])) (fun v H2 => v = .non ∧ Q (.ref x) H2) E := by
  intro x dx hx hdx hne
  have rg : Rp B φ F s (upd H dx (.own x)) := rp.grow (same_upd hdx)
  obtain ⟨e, rp', at'⟩ := rg.placed (p := x) (by rw [upd_ne hne.symm]; exact hx) (o := .inst c []) (ho := .ins (B.A c) dx []) fun φ' e => ⟨dx, [], rfl, rfl, hc, rfl⟩
  have e' := (Ext.grow (φ := φ) (F := F) (same_upd hdx)).trans e
  have o' := Out.bnd (rel := RV B) (o.mono e')
  refine sp_of (W := W) (σ := σ) rp' (vs := .loc s.length :: vs) ⟨.ref x, xs, rfl, ⟨x, rfl, at'⟩, r.mono e'.le⟩ hE (o'.imp ?_)
  rintro y H2 ⟨φ2, F2, v, s2, ev, le, rp2, r2, o2⟩
  cases v with
  | non => exact ⟨r2, Out.now o2 rp2 ⟨x, rfl, le.le.p _ _ at'⟩⟩
  | _ => exact o2.elim
theorem e_mk {c : Nat} {x : Str} {a : Addr} {k : Nat} {e : Expr} {es : List Expr} {cs : List Ex} {p pos : Pos} (M : Mk X.K (B.A c) a) (fa : FnAt B X k C.init (C.T.init c) a) (hc : B.okC c = true) (hr : Room (k + 1) X.A) (tk : Takes X W) (hw : Flat W) (hg : Gl X x) (hm : X.mg x = some (.ref (B.A c)))
    (ha : PA X (e :: es) (tEs B W C cs)) (hs : (e :: es).all noStar = true) (hd : (x == ("__debug__" : Str)) = false) : PE X (.Call (.Name x p) (e :: es) [] pos) (tE B W C (.mk c cs)) := by
  obtain ⟨s1, s2⟩ : noStar e = true ∧ es.all noStar = true := by simpa using hs
  obtain ⟨fd, ps, b, F⟩ := fa.ok
  refine PE_imp (pe_make M F hr hg hm b .nil (every_passes tk) ha hd (star_cons s1) (star_any s2)) fun σ H Q ⟨φ, F, en, s, rp, re, o⟩ => tM_then (rel := RVs B) rp re o fun φ1 F1 H1 vs s1 xs le rp1 re1 r o1 => ?_
  rw [List.append_nil]
  exact mk_in rp1 r hc (fun c d H h σ' => hw c d σ σ' H h) o1
theorem e_mk0 {c : Nat} {x : Str} {a : Addr} {k : Nat} {p pos : Pos} (M : Mk X.K (B.A c) a) (fa : FnAt B X k C.init (C.T.init c) a) (hc : B.okC c = true) (hr : Room (k + 1) X.A) (tk : Takes X W) (hw : Flat W) (hg : Gl X x) (hm : X.mg x = some (.ref (B.A c)))
    (hd : (x == ("__debug__" : Str)) = false) : PE X (.Call (.Name x p) [] [] pos) (tE B W C (.mk c [])) := by
  obtain ⟨fd, ps, b, F⟩ := fa.ok
  refine PE_imp (pe_make0 M F hr hg hm b .nil (every_passes tk) hd) fun σ H Q ⟨φ, F, en, s, rp, re, o⟩ => ?_
  exact mk_in (vs := []) rp (show RVs B φ F [] [] from rfl) hc (fun c d H h σ' => hw c d σ σ' H h) o
/-- what every class of ours must have of a method's name -/
structure MthOk (B : Bs) (X : Cx) (k : Nat) (C : Ab.Ctx) (m : Nat) (x : Str) : Prop where
  cl : ∀ c, B.okC c = true → Cls X.K (B.A c)
  nf : ∀ f, B.okF f = true → B.fld f ≠ x
  at_ : ∀ c f, B.okC c = true → C.T.meth c m = some f → ∃ a, Meth X.K (B.A c) x a ∧ FnAt B X k C.call f a
theorem no_field {φ : List Addr} {F : Hp} {x : Str} : ∀ {fs : List (Nat × Val)} {xs : List (Str × V)}, RFs B φ F fs xs → (fs.all fun p => B.okF p.1) = true → (∀ f, B.okF f = true → B.fld f ≠ x) → xs.lookup x = none
  | [], xs, r, _, _ => by rw [show xs = [] from r]; rfl
  | p :: r, xs, ⟨y, t, e, h1, h2⟩, h, n => by
    obtain ⟨g1, g2⟩ : B.okF p.1 = true ∧ (r.all fun p => B.okF p.1) = true := by simpa using h
    have c : (x == B.fld p.1) = false := by simpa using fun z => n p.1 g1 z.symm
    rw [e, List.lookup_cons, c]
    exact no_field h2 g2 n
theorem told_at {φ : List Addr} {F : Hp} {s : Sto} {H : Hp} {k m : Nat} {x : Str} {l c f : Nat} {fs : List (Nat × Val)} {y : V} (M : MthOk B X k C m x) (rp : Rp B φ F s H) (r : RV B φ F (.loc l) y) (e : s[l]? = some (.inst c fs)) (h : C.T.meth c m = some f) :
    ∃ a g, y = .ref a ∧ Told X k x H a g (spF B C.call f) := by
  obtain ⟨a, dx, xs, rfl, ha, h1, h2, h3, h4⟩ := inst_at rp r e
  obtain ⟨g, M1, fa⟩ := M.at_ c f h3 h
  exact ⟨a, g, rfl, ⟨_, dx, xs, h1, no_field h2 h4 M.nf, M.cl c h3, M1⟩, fa.ok⟩
theorem e_meth {m : Nat} {x : Str} {k : Nat} {a e : Expr} {es : List Expr} {ca : Ex} {cs : List Ex} {apos pos : Pos} (M : MthOk B X k C m x) (hr : Room k X.A) (tk : Takes X W) (ho : PE X a (tE B W C ca)) (ha : PA X (e :: es) (tEs B W C cs)) (hb : noSup a = true)
    (hs : (e :: es).all noStar = true) (hl : (e :: es).length < 28) (hp : (apos.endLine == pos.line) = true) : PE X (.Call (.Attribute a x apos) (e :: es) [] pos) (tE B W C (.meth m ca cs)) :=
  PE_imp (pe_told hb hs hl hp ho ha hr tk) fun σ H Q ⟨φ, F, en, s, rp, re, o⟩ => tM_then (rel := RV B) rp re o fun φ1 F1 H1 v s1 y le rp1 re1 r o1 => by
    cases v with
    | loc l =>
      cases e1 : s1[l]? with
      | none => simp only [e1] at o1; exact o1.elim
      | some ob =>
        cases ob with
        | inst c fs =>
          cases e2 : C.T.meth c m with
          | none => simp only [e1, e2] at o1; exact o1.elim
          | some f =>
            simp only [e1, e2] at o1
            obtain ⟨p, g, rfl, T⟩ := told_at M rp1 r e1 e2
            refine ⟨p, g, _, rfl, T, tM_then (rel := RVs B) rp1 re1 o1 fun φ2 F2 H2 vs s2 xs le2 rp2 re2 rs o2 => ?_⟩
            exact sp_of (W := W) (σ := σ) (vs := .loc l :: vs) rp2 ⟨_, xs, rfl, r.mono le2.le, rs⟩ (fun c d H h => h) o2
        | _ => simp only [e1] at o1; exact o1.elim
    | _ => exact o1.elim
theorem e_meth0 {m : Nat} {x : Str} {k : Nat} {a : Expr} {ca : Ex} {apos pos : Pos} (M : MthOk B X k C m x) (hr : Room k X.A) (tk : Takes X W) (ho : PE X a (tE B W C ca)) (hb : noSup a = true) (hp : (apos.endLine == pos.line) = true) :
    PE X (.Call (.Attribute a x apos) [] [] pos) (tE B W C (.meth m ca [])) :=
  PE_imp (pe_told0 hb hp ho hr tk) fun σ H Q ⟨φ, F, en, s, rp, re, o⟩ => tM_then (rel := RV B) rp re o fun φ1 F1 H1 v s1 y le rp1 re1 r o1 => by
    cases v with
    | loc l =>
      cases e1 : s1[l]? with
      | none => simp only [e1] at o1; exact o1.elim
      | some ob =>
        cases ob with
        | inst c fs =>
          cases e2 : C.T.meth c m with
          | none => simp only [e1, e2] at o1; exact o1.elim
          | some f =>
            simp only [e1, e2] at o1
            obtain ⟨p, g, rfl, T⟩ := told_at M rp1 r e1 e2
            exact ⟨p, g, _, rfl, T, sp_of (W := W) (σ := σ) (vs := [.loc l]) rp1 ⟨_, [], rfl, r, rfl⟩ (fun c d H h => h) o1⟩
        | _ => simp only [e1] at o1; exact o1.elim
    | _ => exact o1.elim
/-! ### .. whose last parameter may lack -/
structure FnAt1 (B : Bs) (X : Cx) (k : Nat) (call : Nat → List Val → Sto → R Val) (f : Nat) (a : Addr) (y : Str) : Prop where
  ok : ∃ fd ps, Takes1 X.K fd ps y (.bl false) ∧ FnOk X.prog X.w X.K X.mg X.base (L2.CX X.prog X.w) k a fd ps (spF B call f)
structure Mth1 (B : Bs) (X : Cx) (k : Nat) (C : Ab.Ctx) (m : Nat) (x y : Str) : Prop where
  cl : ∀ c, B.okC c = true → Cls X.K (B.A c)
  nf : ∀ f, B.okF f = true → B.fld f ≠ x
  at_ : ∀ c f, B.okC c = true → C.T.meth c m = some f → ∃ a, Meth X.K (B.A c) x a ∧ FnAt1 B X k C.call f a y
theorem told1_at {φ : List Addr} {F : Hp} {s : Sto} {H : Hp} {k m : Nat} {x y : Str} {l c f : Nat} {fs : List (Nat × Val)} {z : V} (M : Mth1 B X k C m x y) (rp : Rp B φ F s H) (r : RV B φ F (.loc l) z) (e : s[l]? = some (.inst c fs)) (h : C.T.meth c m = some f) :
    ∃ a g, z = .ref a ∧ Told1 X k x y (.bl false) H a g (spF B C.call f) := by
  obtain ⟨a, dx, xs, rfl, _, h1, h2, h3, h4⟩ := inst_at rp r e
  obtain ⟨g, M1, fa⟩ := M.at_ c f h3 h
  exact ⟨a, g, rfl, ⟨⟨_, dx, xs, h1, no_field h2 h4 M.nf, M.cl c h3, M1⟩, fa.ok⟩⟩
theorem e_methD {m : Nat} {x y : Str} {k : Nat} {a e : Expr} {es : List Expr} {ca : Ex} {cs : List Ex} {apos pos : Pos} (M : Mth1 B X k C m x y) (hr : Room k X.A) (tk : Takes X W) (hw : Flat W) (ho : PE X a (tE B W C ca)) (ha : PA X (e :: es) (tEs B W C cs)) (hb : noSup a = true)
    (hs : (e :: es).all noStar = true) (hl : (e :: es).length < 28) (hp : (apos.endLine == pos.line) = true) : PE X (.Call (.Attribute a x apos) (e :: es) [] pos) (tE B W C (.methD m ca cs)) :=
  PE_imp (pe_lack (y := y) (d := .bl false) hb hs hl hp ho ha hr tk) fun σ H Q ⟨φ, F, en, s, rp, re, o⟩ => tM_then (rel := RV B) rp re o fun φ1 F1 H1 v s1 z le rp1 re1 r o1 => by
    cases v with
    | loc l =>
      cases e1 : s1[l]? with
      | none => simp only [e1] at o1; exact o1.elim
      | some ob =>
        cases ob with
        | inst c fs =>
          cases e2 : C.T.meth c m with
          | none => simp only [e1, e2] at o1; exact o1.elim
          | some f =>
            simp only [e1, e2] at o1
            obtain ⟨p, g, rfl, T⟩ := told1_at M rp1 r e1 e2
            refine ⟨p, g, _, rfl, T, tM_then (rel := RVs B) rp1 re1 o1 fun φ2 F2 H2 vs s2 xs le2 rp2 re2 rs o2 => ?_⟩
            exact sp_of (W := W) (σ := σ) (vs := .loc l :: (vs ++ [.bl false])) rp2 ⟨_, _, rfl, r.mono le2.le, rs.append (show RVs B φ2 F2 [.bl false] [.bl false] from ⟨_, [], rfl, rfl, rfl⟩)⟩ (fun c d H h σ' => hw c d σ σ' H h) o2
        | _ => simp only [e1] at o1; exact o1.elim
    | _ => exact o1.elim
theorem e_methK {m : Nat} {x y : Str} {k : Nat} {a e w : Expr} {es : List Expr} {ca cw : Ex} {cs : List Ex} {apos pos kp : Pos} (M : Mth1 B X k C m x y) (hr : Room k X.A) (tk : Takes X W) (hw : Flat W) (ho : PE X a (tE B W C ca)) (ha : PA X (e :: es) (tEs B W C cs)) (hz : PE X w (tE B W C cw)) (hb : noSup a = true)
    (hs : (e :: es).all noStar = true) (hl : (e :: es).length < 28) (hp : (apos.endLine == pos.line) = true) : PE X (.Call (.Attribute a x apos) (e :: es) [⟨some y, w, kp⟩] pos) (tE B W C (.methK m ca cs cw)) :=
  PE_imp (pe_key (y := y) (d := .bl false) hb hs hl hp ho ha hz hr tk) fun σ H Q ⟨φ, F, en, s, rp, re, o⟩ => tM_then (rel := RV B) rp re o fun φ1 F1 H1 v s1 z le rp1 re1 r o1 => by
    cases v with
    | loc l =>
      cases e1 : s1[l]? with
      | none => simp only [e1] at o1; exact o1.elim
      | some ob =>
        cases ob with
        | inst c fs =>
          cases e2 : C.T.meth c m with
          | none => simp only [e1, e2] at o1; exact o1.elim
          | some f =>
            simp only [e1, e2] at o1
            obtain ⟨p, g, rfl, T⟩ := told1_at M rp1 r e1 e2
            refine ⟨p, g, _, rfl, T, tM_then (rel := RVs B) rp1 re1 o1 fun φ2 F2 H2 vs s2 xs le2 rp2 re2 rs o2 => tM_then (rel := RV B) rp2 re2 o2 fun φ3 F3 H3 u s3 y' le3 rp3 re3 ru o3 => ?_⟩
            exact sp_of (W := W) (σ := σ) (vs := .loc l :: (vs ++ [u])) rp3 ⟨_, _, rfl, r.mono (le2.le.trans le3.le), (rs.mono le3.le).append (show RVs B φ3 F3 [u] [y'] from ⟨_, [], rfl, ru, rfl⟩)⟩ (fun c d H h σ' => hw c d σ σ' H h) o3
        | _ => simp only [e1] at o1; exact o1.elim
    | _ => exact o1.elim
end Sn
end
section
set_option Elab.async false
set_option linter.all false
set_option autoImplicit false
set_option maxRecDepth 100000
set_option maxHeartbeats 4000000
/-! What is walked; comprehensions. -/
namespace Sn
open PySem L2
open Ab (Val SO Sto Exc R toD toDs BM BI Ex Stm Tg Walk)
variable {B : Bs} {X : Cx} {W : WX} {C : Ab.Ctx}
/-! ### an object that is not ours -/
section
variable {φ : List Addr} {F H : Hp} {s : Sto} {D : Addr} {o o' : HO}
theorem del_up (h : H D = some o) : upd (del H D) D o = H := by
  funext b
  by_cases c : b = D
  · rw [c, upd_same, h]
  · rw [upd_ne c, del_ne c]
theorem Rp.drop (r : Rp B φ F s H) (hF : F D = none) (hp : ∀ l : Nat, φ[l]? ≠ some D) : Rp B φ F s (del H D) := by
  refine ⟨r.len, r.nd, fun l u e => ?_, fun a u e => ?_, r.ap⟩
  · obtain ⟨a, ho, e1, e2, e3⟩ := r.obj l u e
    exact ⟨a, ho, e1, by rw [del_ne fun z => hp l (by rw [← z]; exact e1)]; exact e2, e3⟩
  · rw [del_ne fun z => by rw [z, hF] at e; cases e]
    exact r.fz a u e
theorem Rp.other (r : Rp B φ F s H) (hF : F D = none) (hp : ∀ l : Nat, φ[l]? ≠ some D) : Rp B φ F s (upd H D o) := by
  refine ⟨r.len, r.nd, fun l u e => ?_, fun a u e => ?_, r.ap⟩
  · obtain ⟨a, ho, e1, e2, e3⟩ := r.obj l u e
    exact ⟨a, ho, e1, by rw [upd_ne fun z => hp l (by rw [← z]; exact e1)]; exact e2, e3⟩
  · rw [upd_ne fun z => by rw [z, hF] at e; cases e]
    exact r.fz a u e
theorem Rp.adoptF (r : Rp B φ F s H) (hF : F D = none) (hp : ∀ l : Nat, φ[l]? ≠ some D) (h : H D = some o) : Rp B φ (upd F D o) s H := by
  have := ((r.drop hF hp).frozen del_same o).2
  rw [del_up h] at this
  exact this
theorem Rp.adoptL (r : Rp B φ F s H) (hF : F D = none) (hp : ∀ l : Nat, φ[l]? ≠ some D) (h : H D = some o) {so : SO} (ro : ∀ φ', Le φ F φ' F → RO B φ' F so o) :
    Le φ F (φ ++ [D]) F ∧ Rp B (φ ++ [D]) F (s ++ [so]) H ∧ (φ ++ [D])[s.length]? = some D := by
  obtain ⟨a, b, c⟩ := (r.drop hF hp).placed del_same (o := so) (ho := o) ro
  rw [del_up h] at b
  exact ⟨a.le, b, c⟩
/-- where D is free of what is ours -/
structure Away (D : Addr) (φ : List Addr) (F : Hp) : Prop where
  f : F D = none
  p : ∀ l : Nat, φ[l]? ≠ some D
theorem Away.ext {φ' : List Addr} {F' H' : Hp} (a : Away D φ F) (e : Ext φ F H φ' F' H') (h : H D = some o) (hn : ∀ xs, o ≠ .tup xs := by intro _ z; cases z) : Away D φ' F' ∧ H' D = some o := by
  refine ⟨⟨?_, fun l z => ?_⟩, e.keep D o h a.p⟩
  · cases q : F' D with
    | none => rfl
    | some u =>
      rcases e.fnew D u q with z | z | ⟨xs, z⟩
      · rw [a.f] at z; cases z
      · rw [h] at z; cases z
      · rw [h] at z
        exact absurd (Option.some.inj z) (hn xs)
  · rcases e.pnew l D z with y | y
    · exact a.p l y
    · rw [h] at y; cases y
end
/-! ### what a loop walks -/
/-- J walks the items of w as long as what it walks stands -/
structure Wk (B : Bs) (φ : List Addr) (F : Hp) (w : Walk) (J : L2.It) : Prop where
  go : ∀ φ' F' s' H' (i : Nat) v, Le φ F φ' F' → Rp B φ' F' s' H' → Ab.still w.2 s' = true → w.1[i]? = some v → J.go i H' ∧ ∀ x H2, J.yld i H' x H2 → ∃ φ2 F2, Ext φ' F' H' φ2 F2 H2 ∧ Rp B φ2 F2 s' H2 ∧ RV B φ2 F2 v x
  stop : ∀ φ' F' s' H', Le φ F φ' F' → Rp B φ' F' s' H' → Ab.still w.2 s' = true → J.stop w.1.length H'
theorem Wk.mono {φ φ' : List Addr} {F F' : Hp} {w : Walk} {J : L2.It} (k : Wk B φ F w J) (e : Le φ F φ' F') : Wk B φ' F' w J :=
  ⟨fun φ2 F2 s2 H2 i v e2 => k.go φ2 F2 s2 H2 i v (e.trans e2), fun φ2 F2 s2 H2 e2 => k.stop φ2 F2 s2 H2 (e.trans e2)⟩
abbrev relW (B : Bs) : Rel Walk L2.It := fun φ F w J => Wk B φ F w J
abbrev tI (B : Bs) (W : WX) (C : Ab.Ctx) (it : Ab.It) : TI := tM B W (relW B) (Ab.evi C it)
/-- a list as it stands: from what it holds whenever it is looked at -/
theorem wk_list {φ : List Addr} {F : Hp} {w : Walk} {a : Addr} (h : ∀ φ' F' s' H', Le φ F φ' F' → Rp B φ' F' s' H' → Ab.still w.2 s' = true → ∃ xs, SqL B.K H' a xs ∧ RVs B φ' F' w.1 xs) : Wk B φ F w (Itl B.K a) where
  go := fun φ' F' s' H' i v e rp st hi => by
    obtain ⟨xs, h1, h2⟩ := h φ' F' s' H' e rp st
    obtain ⟨x, g1, g2⟩ := h2.got hi
    refine ⟨⟨xs, x, h1, g1⟩, ?_⟩
    rintro y H2 ⟨rfl, q⟩
    have := q xs h1
    rw [g1] at this
    cases this
    exact ⟨φ', F', Ext.refl _ _ _, rp, g2⟩
  stop := fun φ' F' s' H' e rp st => by
    obtain ⟨xs, h1, h2⟩ := h φ' F' s' H' e rp st
    exact ⟨xs, h1, by rw [h2.length]; exact Nat.le_refl _⟩
theorem wk_tup {φ : List Addr} {F : Hp} {vs : List Val} {xs : List V} {a : Addr} (hf : F a = some (.tup xs)) (r : RVs B φ F vs xs) : Wk B φ F (vs, none) (Itt B.K a) where
  go := fun φ' F' s' H' i v e rp st hi => by
    have h1 : SqT B.K H' a xs := SqT.of (rp.fz _ _ (e.f _ _ hf))
    obtain ⟨x, g1, g2⟩ := (r.mono e).got hi
    refine ⟨⟨xs, x, h1, g1⟩, ?_⟩
    rintro y H2 ⟨rfl, q⟩
    have := q xs h1
    rw [g1] at this
    cases this
    exact ⟨φ', F', Ext.refl _ _ _, rp, g2⟩
  stop := fun φ' F' s' H' e rp st => ⟨xs, SqT.of (rp.fz _ _ (e.f _ _ hf)), by show xs.length ≤ vs.length; rw [r.length]; exact Nat.le_refl _⟩
theorem wk_str {φ : List Addr} {F : Hp} {t : Ab.Txt} (g : good t) : Wk B φ F (t.map fun c => .str [c], none) (Its (str t)) where
  go := fun φ' F' s' H' i v e rp st hi => by
    rw [List.getElem?_map, Option.map_eq_some_iff] at hi
    obtain ⟨c, hc, rfl⟩ := hi
    have hl : i < t.length := (List.getElem?_eq_some_iff.mp hc).1
    refine ⟨by show i < (str t).cps.size; simpa [str] using hl, ?_⟩
    rintro y H2 ⟨rfl, d, hd, rfl⟩
    have : d = c := by
      have h2 : t[i]? = some d := by simpa [str] using hd
      rw [hc] at h2
      exact (Option.some.inj h2).symm
    subst this
    exact ⟨φ', F', Ext.refl _ _ _, rp, rfl, fun k hk => by rw [List.mem_singleton.mp hk]; exact g _ (List.mem_of_getElem? hc)⟩
  stop := fun φ' F' s' H' e rp st => by show (str t).cps.size ≤ _; simp [str]
theorem wk_rng {φ : List Addr} {F : Hp} {lo : Int} {n : Nat} : Wk B φ F (Ab.rngV lo n, none) (Itr lo n) where
  go := fun φ' F' s' H' i v e rp st hi => by
    have hi' : i < n ∧ Val.int (lo + (i : Nat)) = v := by
      have h := List.getElem?_eq_some_iff.mp hi
      obtain ⟨h1, h2⟩ := h
      have h1' : i < n := by simpa [Ab.rngV] using h1
      refine ⟨h1', ?_⟩
      rw [← h2]
      simp [Ab.rngV]
    refine ⟨hi'.1, ?_⟩
    rintro y H2 ⟨rfl, rfl⟩
    rw [← hi'.2]
    exact ⟨φ', F', Ext.refl _ _ _, rp, rfl⟩
  stop := fun φ' F' s' H' e rp st => by show n ≤ _; simp [Ab.rngV]
/-- what a value is walked as -/
theorem still_is {l : Nat} {vs : List Val} {s : Sto} (h : Ab.still (some (l, vs)) s = true) : s[l]? = some (.list vs) := by
  simp only [Ab.still] at h
  split at h
  · rename_i ws e
    rw [e, Ab.Val.beqs_eq _ _ h]
  · cases h
/-- which way a value is walked -/
inductive Way where
  | list | tup | str
def wayOf : Val → Way
  | .tup _ => .tup
  | .str _ => .str
  | _ => .list
theorem i_val {tg e : Expr} {c : Ex} (hK : X.K = B.K) (he : PE X e (tE B W C c)) : PI X tg e (tI B W C (.val c)) := by
  have base := PI_or (tg := tg) (pi_tup he) (PI_or (pi_str he) (pi_list he))
  refine ⟨fun pins s0 σ H R I h => base.run pins s0 σ H R I ?_⟩
  obtain ⟨φ, F, en, s, rp, re, o⟩ := h
  -- by what it comes to
  by_cases c1 : ∃ v s1, Ab.ev C c en s = some (.ok v, s1) ∧ wayOf v = .tup
  · obtain ⟨v0, s0', e0, w0⟩ := c1
    refine .inl (tM_thenE (rel := RV B) rp re o fun φ1 F1 H1 v s1 x e1 le rp1 re1 r o1 => ?_)
    rw [e0] at e1
    cases e1
    cases v0 with
    | tup vs =>
      obtain ⟨a, xs, rfl, hf, hv⟩ := r
      rw [hK]
      exact ⟨a, rfl, ⟨xs, SqT.of (rp1.fz _ _ hf)⟩, Out.now (a := (vs, none)) o1 rp1 (wk_tup hf hv)⟩
    | _ => cases w0
  · by_cases c2 : ∃ v s1, Ab.ev C c en s = some (.ok v, s1) ∧ wayOf v = .str
    · obtain ⟨v0, s0', e0, w0⟩ := c2
      refine .inr (.inl (tM_thenE (rel := RV B) rp re o fun φ1 F1 H1 v s1 x e1 le rp1 re1 r o1 => ?_))
      rw [e0] at e1
      cases e1
      cases v0 with
      | str t => exact ⟨str t, r.1, Out.now (rel := relW B) (a := (t.map fun c => Val.str [c], none)) o1 rp1 (wk_str r.2)⟩
      | _ => cases w0
    · refine .inr (.inr (tM_thenE (rel := RV B) rp re o fun φ1 F1 H1 v s1 x e1 le rp1 re1 r o1 => ?_))
      cases v with
      | tup vs => exact absurd ⟨_, _, e1, rfl⟩ c1
      | str t => exact absurd ⟨_, _, e1, rfl⟩ c2
      | lst vs =>
        obtain ⟨a, xs, rfl, hf, hv⟩ := r
        rw [hK]
        exact ⟨a, rfl, ⟨xs, SqL.of (rp1.fz _ _ hf)⟩, Out.now (a := (vs, none)) o1 rp1 (wk_list fun φ' F' s' H' e rp' st => ⟨xs, SqL.of (rp'.fz _ _ (e.f _ _ hf)), hv.mono e⟩)⟩
      | scr ns =>
        obtain ⟨a, rfl, ha⟩ := r
        rw [hK]
        have hv : ∀ (φ : List Addr) (F : Hp) (ns : List Int), RVs B φ F (ns.map .int) (ns.map V.int) := by
          intro φ F ns
          induction ns with
          | nil => rfl
          | cons n ns ih => exact ⟨_, _, rfl, rfl, ih⟩
        exact ⟨a, rfl, ⟨_, rp1.same.seq ha⟩, Out.now (a := (ns.map .int, none)) o1 rp1 (wk_list fun φ' F' s' H' e rp' st => ⟨_, rp'.same.seq (Same.seq (show Same F1 F' from e.f) ha), hv φ' F' ns⟩)⟩
      | loc l =>
        cases e2 : s1[l]? with
        | none => simp only [Ab.walkV, e2] at o1; exact o1.elim
        | some ob =>
          cases ob with
          | list vs =>
            simp only [Ab.walkV, e2] at o1
            obtain ⟨a, rfl, ha⟩ := r
            obtain ⟨ho, e3, xs, rfl, hv⟩ := rp1.at ha e2
            rw [hK]
            refine ⟨a, rfl, ⟨xs, SqL.of e3⟩, Out.now (a := (vs, some (l, vs))) o1 rp1 (wk_list fun φ' F' s' H' e rp' st => ?_)⟩
            obtain ⟨ho, e4, ys, rfl, hy⟩ := rp'.at (e.p _ _ ha) (still_is st)
            exact ⟨ys, SqL.of e4, hy⟩
          | _ => simp only [Ab.walkV, e2] at o1; exact o1.elim
      | _ => exact o1.elim
theorem rng_bounds {i j : Int} (h : Ab.rngOk i j = true) : -(2 ^ 62) ≤ i ∧ i < 2 ^ 62 ∧ -(2 ^ 62) ≤ j ∧ j < 2 ^ 62 := by
  have := of_decide_eq_true h
  omega
theorem i_rng1 {tg e : Expr} {c : Ex} {p pos : Pos} (hg : Gl X "range") (hm : X.mg "range" = none) (ha : PA X [e] (tEs B W C [c])) (hs : noStar e = true) : PI X tg (.Call (.Name "range" p) [e] [] pos) (tI B W C (.rng1 c)) := by
  have base := pi_range1 (tg := tg) (p := p) (pos := pos) hg hm ha (star_cons hs)
  refine ⟨fun pins s0 σ H R I ⟨φ, F, en, s, rp, re, o⟩ => base.run pins s0 σ H R I ?_⟩
  have e1 : Ab.evi C (.rng1 c) en s = Ab.bnd (Ab.evs C [c] en s) fun vs s => match vs with
      | [.int j] => if Ab.rngOk 0 j = true then Ab.ok (Ab.rngV 0 j.toNat, none) s else none
      | _ => none := by
    simp only [Ab.evi, Ab.evs]
    cases Ab.ev C c en s with
    | none => rfl
    | some q =>
      obtain ⟨r, s1⟩ := q
      cases r with
      | error _ => rfl
      | ok v => cases v <;> rfl
  rw [e1] at o
  refine tM_then (rel := RVs B) rp re o fun φ1 F1 H1 vs s1 xs le rp1 re1 r o1 => ?_
  split at o1
  · rename_i j
    split at o1
    · rename_i c'
      obtain ⟨y, rfl, ry⟩ := rv_one r
      have b := rng_bounds c'
      exact ⟨j, by rw [show y = _ from ry], b.2.2.1, b.2.2.2, Out.now o1 rp1 wk_rng⟩
    · exact o1.elim
  · exact o1.elim
theorem i_rng2 {tg a b : Expr} {ca cb : Ex} {p pos : Pos} (hg : Gl X "range") (hm : X.mg "range" = none) (ha : PA X [a, b] (tEs B W C [ca, cb])) (hs : noStar a = true) (hs2 : noStar b = true) : PI X tg (.Call (.Name "range" p) [a, b] [] pos) (tI B W C (.rng2 ca cb)) := by
  have base := pi_range2 (tg := tg) (p := p) (pos := pos) hg hm ha (by rw [star_cons hs, star_cons hs2]; rfl) (star_cons hs2)
  refine ⟨fun pins s0 σ H R I ⟨φ, F, en, s, rp, re, o⟩ => base.run pins s0 σ H R I ?_⟩
  have e1 : Ab.evi C (.rng2 ca cb) en s = Ab.bnd (Ab.evs C [ca, cb] en s) fun vs s => match vs with
      | [.int i, .int j] => if Ab.rngOk i j = true then Ab.ok (Ab.rngV i (j - i).toNat, none) s else none
      | _ => none := by
    simp only [Ab.evi, Ab.evs]
    cases Ab.ev C ca en s with
    | none => rfl
    | some q =>
      obtain ⟨r, s1⟩ := q
      cases r with
      | error _ => rfl
      | ok v =>
        simp only [Ab.bnd]
        cases Ab.ev C cb en s1 with
        | none => rfl
        | some q =>
          obtain ⟨r, s2⟩ := q
          cases r with
          | error _ => rfl
          | ok u => cases v <;> cases u <;> rfl
  rw [e1] at o
  refine tM_then (rel := RVs B) rp re o fun φ1 F1 H1 vs s1 xs le rp1 re1 r o1 => ?_
  split at o1
  · rename_i i j
    split at o1
    · rename_i c'
      obtain ⟨y, z, rfl, ry, rz⟩ := rv_two r
      exact ⟨i, j, by rw [show y = _ from ry, show z = _ from rz], rng_bounds c', Out.now o1 rp1 wk_rng⟩
    · exact o1.elim
  · exact o1.elim
/-! ### targets -/
def gNames : List Nat → TGs
  | [] => gNil
  | i :: is => gCons (gName i) (gNames is)
def gT (K : PySem.W.Frag) : Tg → TG
  | .name i => gName i
  | .names is => gTup K is.length (gNames is)
def slots : Tg → List Nat
  | .name i => [i]
  | .names is => is
theorem wipe_len (σ : L2.St) (vs : List Nat) : (L2.wipe σ vs).length = σ.length := wipe_length σ vs
theorem wipe_at (σ : L2.St) : ∀ (vs : List Nat) (i : Nat), (L2.wipe σ vs)[i]? = if i ∈ vs then σ[i]?.map (fun _ => none) else σ[i]?
  | [], i => by simp [L2.wipe]
  | v :: vs, i => by
    have ih := wipe_at σ vs i
    show ((L2.wipe σ vs).set v none)[i]? = _
    rw [List.getElem?_set]
    by_cases c : v = i
    · subst c
      have hl := wipe_len σ vs
      by_cases d : v < σ.length
      · simp [hl, d]
      · simp [hl, d, List.getElem?_eq_none (Nat.le_of_not_lt d)]
    · have c' : ¬ i = v := fun z => c z.symm
      simp only [if_neg c, ih, List.mem_cons, c', false_or]
theorem wipe_set {σ : L2.St} {j : Nat} {y : Option V} {vs : List Nat} (h : j ∈ vs) : L2.wipe (σ.set j y) vs = L2.wipe σ vs := by
  apply List.ext_getElem?
  intro i
  rw [wipe_at, wipe_at, List.getElem?_set]
  by_cases c : j = i
  · subst c
    by_cases d : j < σ.length <;> simp [h, d]
  · simp [c]
theorem wipe_twice (σ : L2.St) (vs : List Nat) : L2.wipe (L2.wipe σ vs) vs = L2.wipe σ vs := by
  apply List.ext_getElem?
  intro i
  rw [wipe_at, wipe_at]
  by_cases c : i ∈ vs
  · rw [if_pos c, if_pos c]
    cases σ[i]? <;> rfl
  · rw [if_neg c, if_neg c]
theorem names_ok {φ : List Addr} {F H : Hp} : ∀ {is : List Nat} {vs : List Val} {xs : List V} {en en1 : Ab.Env} {σ : L2.St} {Q : L2.St → Hp → Prop}, Ab.setAll en is vs = some en1 → RVs B φ F vs xs → REn B φ F en σ →
    (∀ σ', REn B φ F en1 σ' → (∀ ws, (∀ i ∈ is, i ∈ ws) → L2.wipe σ' ws = L2.wipe σ ws) → Q σ' H) → gNames is xs σ H Q
  | [], [], xs, en, en1, σ, Q, h, r, re, k => by
    cases h
    exact ⟨r, k σ re fun _ _ => rfl⟩
  | [], _ :: _, _, _, _, _, _, h, _, _, _ => by cases h
  | _ :: _, [], _, _, _, _, _, h, _, _, _ => by cases h
  | i :: is, v :: vs, xs, en, en1, σ, Q, h, ⟨x, t, e, h1, h2⟩, re, k => by
    refine ⟨x, t, e, ?_⟩
    have h' : Ab.setAll (en.set i (some v)) is vs = some en1 := h
    exact names_ok h' h2 (re.set h1 i) fun σ' re' hw => k σ' re' fun ws hs => by
      rw [hw ws fun j hj => hs j (List.mem_cons_of_mem _ hj), wipe_set (hs i List.mem_cons_self)]
theorem setAll_len : ∀ {is : List Nat} {vs : List Val} {en en1 : Ab.Env}, Ab.setAll en is vs = some en1 → vs.length = is.length
  | [], [], _, _, _ => rfl
  | [], _ :: _, _, _, h => by cases h
  | _ :: _, [], _, _, h => by cases h
  | i :: is, v :: vs, en, en1, h => by
    have h' : Ab.setAll (en.set i (some v)) is vs = some en1 := h
    simp [setAll_len h']
theorem bind_ok {φ : List Addr} {F H : Hp} {s : Sto} {tg : Tg} {v : Val} {x : V} {en en1 : Ab.Env} {σ : L2.St} {Q : L2.St → Hp → Prop} (rp : Rp B φ F s H) (h : Ab.bindT tg v en = some en1) (r : RV B φ F v x) (re : REn B φ F en σ)
    (k : ∀ σ', REn B φ F en1 σ' → (∀ ws, (∀ i ∈ slots tg, i ∈ ws) → L2.wipe σ' ws = L2.wipe σ ws) → Q σ' H) : gT B.K tg x σ H Q := by
  cases tg with
  | name i =>
    cases h
    exact k _ (re.set r i) fun ws hs => wipe_set (hs i (List.mem_singleton.mpr rfl))
  | names is =>
    cases v with
    | tup vs =>
      obtain ⟨a, xs, rfl, hf, hv⟩ := r
      have h' : Ab.setAll en is vs = some en1 := h
      exact ⟨a, xs, rfl, SqT.of (rp.fz _ _ hf), by rw [← hv.length, setAll_len h'], names_ok h' hv re k⟩
    | _ => cases h
/-! ### comprehensions -/
abbrev tC' (B : Bs) (W : WX) (C : Ab.Ctx) (c : Option Ex) : TT := tM B W Same' (Ab.evc C c)
/-- nothing is let out -/
abbrev W0 : WX := fun _ _ _ _ => False
theorem Out.of {α β : Type} {rel : Rel α β} {φ : List Addr} {F H : Hp} {r : R α} {a : α} {s : Sto} {σ : L2.St} {Q : β → Hp → Prop} (e : r = some (.ok a, s)) (k : ∀ φ' F' x H', Ext φ F H φ' F' H' → Rp B φ' F' s H' → rel φ' F' a x → Q x H') : Out B W rel φ F H r σ Q := by
  rw [e]
  exact k
/-- one turn of a comprehension -/
def turn (C : Ab.Ctx) (tg : Tg) (cond : Option Ex) (elt : Ex) (en : Ab.Env) (v : Val) (s : Sto) : R (Option Val) := match Ab.bindT tg v en with
  | none => none
  | some en1 => Ab.bnd (Ab.evc C cond en1 s) fun c s => if c = true then Ab.bnd (Ab.ev C elt en1 s) fun x s => Ab.ok (some x) s else Ab.ok none s
theorem compL_cons {c : Option (Nat × List Val)} {f : Val → Sto → R (Option Val)} {v : Val} {r : List Val} {s s2 : Sto} {rest : List Val} (h : Ab.compL c f (v :: r) s = some (.ok rest, s2)) :
    Ab.still c s = true ∧ ∃ o s1 rs, f v s = some (.ok o, s1) ∧ Ab.compL c f r s1 = some (.ok rs, s2) ∧ rest = o.toList ++ rs := by
  simp only [Ab.compL] at h
  split at h
  · rename_i st
    refine ⟨st, ?_⟩
    split at h
    · rename_i o s1 e1
      split at h
      · rename_i rs s3 e2
        simp only [Ab.ok, Option.some.injEq, Prod.mk.injEq, Except.ok.injEq] at h
        obtain ⟨rfl, rfl⟩ := h
        exact ⟨o, s1, rs, e1, e2, rfl⟩
      · cases h
    · cases h
  · cases h
theorem compL_never {c : Option (Nat × List Val)} {f : Val → Sto → R (Option Val)} : ∀ {r : List Val} {s s2 : Sto} {e : Exc}, Ab.compL c f r s ≠ some (.error e, s2)
  | [], s, s2, e, h => by
    simp only [Ab.compL] at h
    split at h <;> cases h
  | v :: r, s, s2, e, h => by
    simp only [Ab.compL] at h
    split at h
    · split at h
      · split at h <;> cases h
      · cases h
    · cases h
theorem turn_is {tg : Tg} {cond : Option Ex} {elt : Ex} {en : Ab.Env} {v : Val} {s s1 : Sto} {o : Option Val} (h : turn C tg cond elt en v s = some (.ok o, s1)) :
    ∃ en1 c s0, Ab.bindT tg v en = some en1 ∧ Ab.evc C cond en1 s = some (.ok c, s0) ∧ ((c = true ∧ ∃ x, o = some x ∧ Ab.ev C elt en1 s0 = some (.ok x, s1)) ∨ (c = false ∧ o = none ∧ s1 = s0)) := by
  unfold turn at h
  split at h
  · cases h
  · rename_i en1 e1
    cases e2 : Ab.evc C cond en1 s with
    | none => rw [e2] at h; cases h
    | some q =>
      obtain ⟨r, s0⟩ := q
      cases r with
      | error _ => rw [e2] at h; cases h
      | ok c =>
        rw [e2] at h
        refine ⟨en1, c, s0, e1, e2, ?_⟩
        cases c with
        | false =>
          cases h
          exact .inr ⟨rfl, rfl, rfl⟩
        | true =>
          have h' : Ab.bnd (Ab.ev C elt en1 s0) (fun x s => Ab.ok (some x) s) = some (.ok o, s1) := h
          cases e3 : Ab.ev C elt en1 s0 with
          | none => rw [e3] at h'; cases h'
          | some q =>
            obtain ⟨r, s3⟩ := q
            cases r with
            | error _ => rw [e3] at h'; cases h'
            | ok x =>
              rw [e3] at h'
              cases h'
              exact .inl ⟨rfl, x, rfl, rfl⟩
/-- what holds between two turns -/
structure Mid (B : Bs) (C : Ab.Ctx) (tg : Tg) (cond : Option Ex) (elt : Ex) (en : Ab.Env) (w : Walk) (φ1 : List Addr) (F1 H1 : Hp) (D : Addr) (vs : List Val) (s2 : Sto) (i : Nat) (H : Hp) (φ : List Addr) (F : Hp) (s : Sto) (acc : List Val) (xs : List V) (rest : List Val) : Prop where
  le : i ≤ w.1.length
  ext : Ext φ1 F1 H1 φ F H
  aw : Away D φ F
  at_ : H D = some (.lst xs)
  rp : Rp B φ F s H
  r : RVs B φ F acc xs
  go : Ab.compL w.2 (turn C tg cond elt en) (w.1.drop i) s = some (.ok rest, s2)
  sum : vs = acc ++ rest
  few : acc.length ≤ i
theorem Ext.upd_free {φ φ1 : List Addr} {F F1 H H1 : Hp} {D : Addr} {o : HO} (e : Ext φ1 F1 H1 φ F H) (hD : H1 D = none) : Ext φ1 F1 H1 φ F (upd H D o) where
  tup := fun b xs h => by
    by_cases c : b = D
    · rw [c]; exact .inl hD
    · rw [upd_ne c] at h
      exact e.tup b xs h
  le := e.le
  keep := fun b u h n => by
    have : b ≠ D := ne_of_none h hD
    rw [upd_ne this]
    exact e.keep b u h n
  fnew := e.fnew
  pnew := e.pnew
  there := fun b h => by
    by_cases c : b = D
    · rw [c]; exact hD
    · rw [upd_ne c] at h
      exact e.there b h
theorem comp_go {tg : Tg} {cond : Option Ex} {elt : Ex} {en : Ab.Env} {own : List Nat} {w : Walk} {J : L2.It} {φ1 : List Addr} {F1 H1 : Hp} {s1 : Sto} {σ : L2.St} {m : Bool} {Q : VK} (hw : ∀ i ∈ slots tg, i ∈ own) (rp1 : Rp B φ1 F1 s1 H1) (re1 : REn B φ1 F1 en σ)
    (k : Wk B φ1 F1 w J) (hl : w.1.length ≤ Ab.LIM) (o : Out B W (RV B) φ1 F1 H1 (Ab.bnd (Ab.compL w.2 (turn C tg cond elt (Ab.wipe en own)) w.1 s1) fun vs s => Ab.lift (some (Ab.alloc m vs s))) σ Q) (D : Addr) (hD : H1 D = none) :
    ∃ Wi : Nat → Nat → Hp → Prop, (∃ m, Wi 0 m (upd H1 D (.lst []))) ∧ ∀ i m H, Wi i m H →
      (J.stop i H ∧ Q (.ref D) H) ∨ (J.go i H ∧ ∃ Nx : Hp → Prop, (∀ H', Nx H' → ∃ m', m' < m ∧ Wi (i + 1) m' H') ∧ ∀ x H', J.yld i H x H' → gT B.K tg x (L2.wipe σ own) H' fun σ2 H2 => L2.wipe σ2 own = L2.wipe σ own ∧ tC' B W0 C cond σ2 H2 fun b H3 =>
        if b = true then tE B W0 C elt σ2 H3 fun y H4 => ∃ acc, H4 D = some (.lst acc) ∧ acc.length < sizeLine ∧ Nx (upd H4 D (.lst (acc ++ [y]))) else Nx H3) := by
  cases e0 : Ab.compL w.2 (turn C tg cond elt (Ab.wipe en own)) w.1 s1 with
  | none => rw [e0] at o; exact o.elim
  | some q =>
    obtain ⟨r0, s2⟩ := q
    cases r0 with
    | error x => exact absurd e0 compL_never
    | ok vs =>
      rw [e0] at o
      have hF1 : F1 D = none := rp1.same.free hD
      have hp1 : ∀ l : Nat, φ1[l]? ≠ some D := fun l z => by
        obtain ⟨ho, e⟩ := rp1.here z
        rw [hD] at e
        cases e
      have aw1 : Away D φ1 F1 := ⟨hF1, hp1⟩
      let M : Nat → Hp → Prop := fun i H => ∃ φ F s acc xs rest, Mid B C tg cond elt (Ab.wipe en own) w φ1 F1 H1 D vs s2 i H φ F s acc xs rest
      refine ⟨fun i n H => n = w.1.length - i ∧ M i H, ⟨_, rfl, φ1, F1, s1, [], [], vs, ⟨Nat.zero_le _, Ext.grow (same_upd hD), aw1, upd_same, rp1.other hF1 hp1, rfl, e0, rfl, Nat.le_refl _⟩⟩, ?_⟩
      rintro i n H ⟨rfl, φ, F, s, acc, xs, rest, K⟩
      have lx := K.ext.le
      by_cases ci : i < w.1.length
      · obtain ⟨v, hv⟩ : ∃ v, w.1[i]? = some v := ⟨_, List.getElem?_eq_getElem ci⟩
        have hd : w.1.drop i = v :: w.1.drop (i + 1) := by
          rw [List.drop_eq_getElem_cons ci]
          congr 1
          exact (List.getElem?_eq_some_iff.mp hv).2
        have hgo := K.go
        rw [hd] at hgo
        obtain ⟨st, ov, s3, rs, t1, t2, t3⟩ := compL_cons hgo
        obtain ⟨en1, c, s4, b1, b2, b3⟩ := turn_is t1
        obtain ⟨g1, g2⟩ := k.go φ F s H i v lx K.rp st hv
        refine .inr ⟨g1, fun H' => M (i + 1) H', fun H' hM => ⟨w.1.length - (i + 1), by omega, rfl, hM⟩, ?_⟩
        intro x H5 hy
        obtain ⟨φ5, F5, x5, rp5, r5⟩ := g2 x H5 hy
        obtain ⟨aw5, at5⟩ := K.aw.ext x5 K.at_
        have l5 := lx.trans x5.le
        refine bind_ok rp5 b1 r5 ((re1.mono l5).wipe own) fun σ6 re6 hw6 => ⟨by rw [hw6 own hw, wipe_twice], ?_⟩
        refine tM_in (rel := Same') rp5 re6 (Out.of b2 ?_)
        rintro φ7 F7 b H7 x7 rp7 hb
        have hb' : b = c := hb
        subst hb'
        obtain ⟨aw7, at7⟩ := aw5.ext x7 at5
        have hs : sizeLine > xs.length := by
          have := K.r.length
          have := K.few
          exact Nat.lt_of_lt_of_le (show xs.length < Ab.LIM by omega) (by decide)
        rcases b3 with ⟨rfl, y, rfl, b4⟩ | ⟨rfl, rfl, rfl⟩
        · rw [if_pos rfl]
          refine tM_in (rel := RV B) rp7 (re6.mono x7.le) (Out.of b4 ?_)
          rintro φ8 F8 z H8 x8 rp8 rz
          obtain ⟨aw8, at8⟩ := aw7.ext x8 at7
          refine ⟨xs, at8, hs, φ8, F8, s3, acc ++ [y], xs ++ [z], rs, ⟨by omega, ?_, aw8, upd_same, rp8.other aw8.f aw8.p, ?_, t2, by rw [K.sum, t3, List.append_assoc]; rfl, ?_⟩⟩
          · exact Ext.upd_free ((K.ext.trans x5).trans (x7.trans x8)) hD
          · exact (K.r.mono (x5.le.trans (x7.le.trans x8.le))).append (show RVs B φ8 F8 [y] [z] from ⟨z, [], rfl, rz, rfl⟩)
          · have := K.few
            simp
            omega
        · rw [if_neg Bool.false_ne_true]
          exact ⟨φ7, F7, s3, acc, xs, rs, ⟨by omega, (K.ext.trans x5).trans x7, aw7, at7, rp7, K.r.mono (x5.le.trans x7.le), t2, by rw [K.sum, t3]; rfl, by have := K.few; omega⟩⟩
      · have hi : i = w.1.length := by have := K.le; omega
        subst hi
        have hgo := K.go
        rw [List.drop_length] at hgo
        simp only [Ab.compL] at hgo
        split at hgo
        · rename_i st
          simp only [Ab.ok, Option.some.injEq, Prod.mk.injEq, Except.ok.injEq] at hgo
          obtain ⟨rfl, rfl⟩ := hgo
          have hs : vs = acc := by rw [K.sum, List.append_nil]
          subst hs
          refine .inl ⟨k.stop φ F s H lx K.rp st, ?_⟩
          cases m with
          | true =>
            obtain ⟨a1, a2, a3⟩ := K.rp.adoptL K.aw.f K.aw.p K.at_ (so := .list vs) fun φ' e => ⟨xs, rfl, K.r.mono e⟩
            refine o _ _ _ _ ⟨lx.trans a1, K.ext.keep, K.ext.fnew, fun l b hb => ?_, K.ext.there, K.ext.tup⟩ a2 ⟨D, rfl, a3⟩
            by_cases c : l < φ.length
            · rw [List.getElem?_append_left c] at hb
              exact K.ext.pnew l b hb
            · rw [List.getElem?_append_right (Nat.le_of_not_lt c)] at hb
              have : b = D := by
                cases hh : l - φ.length with
                | zero => rw [hh] at hb; simpa using hb.symm
                | succ z => rw [hh] at hb; simp at hb
              rw [this]
              exact .inr hD
          | false =>
            have a2 := K.rp.adoptF K.aw.f K.aw.p K.at_
            have le2 : Le φ F φ (upd F D (.lst xs)) := ⟨fun _ _ h => h, fun b u h => by rw [upd_ne (ne_of_none h K.aw.f)]; exact h⟩
            refine o _ _ _ _ ⟨lx.trans le2, K.ext.keep, fun b u hb => ?_, K.ext.pnew, K.ext.there, K.ext.tup⟩ a2 ⟨D, xs, rfl, upd_same, K.r.mono le2⟩
            by_cases c : b = D
            · rw [c]
              exact .inr (.inl hD)
            · rw [upd_ne c] at hb
              exact K.ext.fnew b u hb
        · cases hgo
end Sn
end
section
set_option Elab.async false
set_option linter.all false
set_option autoImplicit false
set_option maxRecDepth 100000
set_option maxHeartbeats 4000000
/-! Comprehensions as expressions; statements. -/
namespace Sn
open PySem L2
open Ab (Val SO Sto Exc R toD toDs BM BI Ex Stm Tg Walk SR)
variable {B : Bs} {X : Cx} {W : WX} {C : Ab.Ctx}
/-! ### comprehensions -/
section
variable {elt tg iter : Expr} {ifs : List Expr} {scope : Scope} {own : List (Str × Nat)} {pos : Pos} {celt : Ex} {t : Tg} {it : Ab.It} {cond : Option Ex} {m : Bool} {ws : List Nat}
/-- the parts of a comprehension, each in its block -/
structure Parts (B : Bs) (X : Cx) (W : WX) (C : Ab.Ctx) (elt tg iter : Expr) (ifs : List Expr) (scope : Scope) (own : List (Str × Nat)) (celt : Ex) (t : Tg) (it : Ab.It) (cond : Option Ex) (ws : List Nat) : Prop where
  hK : X.K = B.K
  calm : X.calm = true
  nd : X.N.Nodup
  it : PI X tg iter (tI B W C it)
  blk : BlkOk X.N X.env.scope scope own
  own : own.map (·.2) = ws
  sub : ∀ i ∈ slots t, i ∈ ws
  tg : ∀ (s : Shared) (H : Hp) (Cc : Addr) (cl : List (Str × Addr)) (fp : List Addr), PG (X.blk s H scope (compEnvC scope cl Cc X.env) fp) tg (gT B.K t)
  cond : ∀ (s : Shared) (H : Hp) (Cc : Addr) (cl : List (Str × Addr)) (fp : List Addr), PTs (X.blk s H scope (compEnvC scope cl Cc X.env) fp) ifs (tC' B W0 C cond)
  elt : ∀ (s : Shared) (H : Hp) (Cc : Addr) (cl : List (Str × Addr)) (fp : List Addr), PE (X.blk s H scope (compEnvC scope cl Cc X.env) fp) elt (tE B W0 C celt)
  noset : noSet iter = true
/-- its reading from ours -/
theorem comp_reads (P : Parts B X W C elt tg iter ifs scope own celt t it cond ws) (σ : L2.St) (H : Hp) (Q : VK) (h : tE B W C (.comp m celt t it cond ws) σ H Q) : tLc (tI B W C it) (gT B.K t) (tC' B W0 C cond) (tE B W0 C celt) (own.map (·.2)) σ H Q := by
  obtain ⟨φ, F, en, s, rp, re, o⟩ := h
  refine tM_then (rel := relW B) rp re o fun φ1 F1 H1 w s1 J le rp1 re1 k o1 => ?_
  split at o1
  · rename_i hl
    rw [P.own]
    exact fun D hD => comp_go (own := ws) P.sub rp1 re1 k hl o1 D hD
  · exact o1.elim
theorem e_comp (P : Parts B X W C elt tg iter ifs scope own celt t it cond ws) : PE X (.ListComp elt [⟨tg, iter, ifs, 0⟩] scope pos) (tE B W C (.comp m celt t it cond ws)) :=
  PE_imp (pe_lc P.calm P.nd P.it P.blk P.tg P.cond P.elt (folded_of P.noset)) (comp_reads P)
theorem c_none : PTs X [] (tC' B W C none) := by
  refine ⟨fun pins s0 σ H Q I ⟨φ, F, en, s, rp, re, o⟩ => pts_nil.run pins s0 σ H Q I ?_⟩
  exact Out.now (a := true) o rp rfl
theorem c_some {e : Expr} {c : Ex} (h : PT X e (tT B W C c)) : PTs X [e] (tC' B W C (some c)) := pts_one h
end
/-! ### targets -/
theorem g_name {i : Nat} {x : Str} {pos : Pos} (nd : X.N.Nodup) (hi : X.N[i]? = some x) (hx : Loc X.env.scope x) (hf : X.fn x = true ∨ X.env.scope.names.lookup x = some .local) : PG X (.Name x pos) (gT B.K (.name i)) := pg_name nd hi hx hf
/-- names only -/
def namesOf : List Expr → Option (List Str)
  | [] => some []
  | .Name x _ :: r => (namesOf r).map (x :: ·)
  | _ => none
theorem eachN : ∀ {es : List Expr} {xs : List Str}, namesOf es = some xs → ∀ (env : Env), (assignEach es env).length = es.length ∧ (assignEach es env).findIdx? (·.1) = none
  | [], xs, h, env => ⟨rfl, rfl⟩
  | e :: es, xs, h, env => by
    cases e with
    | Name x p =>
      simp only [namesOf, Option.map_eq_some_iff] at h
      obtain ⟨ys, h, rfl⟩ := h
      obtain ⟨h1, h2⟩ := eachN h env
      have e1 : assignEach (.Name x p :: es) env = (false, assign (.Name x p) env) :: assignEach es env := rfl
      rw [e1]
      refine ⟨by simp [h1], ?_⟩
      simp [List.findIdx?_cons, h2]
    | _ => cases h
theorem g_each {k : Nat} (nd : X.N.Nodup) : ∀ {es : List Expr} {xs : List Str} {is : List Nat}, namesOf es = some xs → xs.length = is.length → (∀ (j : Nat) x i, xs[j]? = some x → is[j]? = some i → X.N[i]? = some x ∧ Loc X.env.scope x ∧ (X.fn x = true ∨ X.env.scope.names.lookup x = some .local)) →
    PGs X es (gNames is)
  | [], xs, is, h, hl, a => by
    cases h
    cases is with
    | nil => exact pgs_nil
    | cons _ _ => cases hl
  | e :: es, xs, is, h, hl, a => by
    cases e with
    | Name x p =>
      simp only [namesOf, Option.map_eq_some_iff] at h
      obtain ⟨ys, h, rfl⟩ := h
      cases is with
      | nil => cases hl
      | cons i is =>
        obtain ⟨a1, a2, a3⟩ := a 0 x i rfl rfl
        exact pgs_cons (pg_name nd a1 a2 a3) (g_each (k := k) nd h (by simpa using hl) fun j y l e1 e2 => a (j + 1) y l (by simpa using e1) (by simpa using e2)) rfl
    | _ => cases h
theorem g_names {es : List Expr} {xs : List Str} {is : List Nat} {k : Nat} {pos : Pos} (hK : X.K = B.K) (hc : X.calm = true) (nd : X.N.Nodup) (h : namesOf es = some xs) (hl : xs.length = is.length) (hle : es.length = is.length)
    (a : ∀ (j : Nat) x i, xs[j]? = some x → is[j]? = some i → X.N[i]? = some x ∧ Loc X.env.scope x ∧ (X.fn x = true ∨ X.env.scope.names.lookup x = some .local)) : PG X (.Tuple es k pos) (gT B.K (.names is)) := by
  obtain ⟨h1, h2⟩ := eachN h X.env
  have := pg_tup (k := k) (pos := pos) hc (g_each (k := k) nd h hl a) (n := is.length) (by rw [h1, hle]) h2
  rw [hK] at this
  exact this
/-! ### statements -/
def SOut (B : Bs) (W : WX) (φ : List Addr) (F H : Hp) (r : Ab.S) (D : Ends) : Prop := match r with
  | none => False
  | some (.next, en, s) => ∀ φ' F' σ' H', Ext φ F H φ' F' H' → Rp B φ' F' s H' → REn B φ' F' en σ' → D.nx σ' H'
  | some (.brk, en, s) => ∀ φ' F' σ' H', Ext φ F H φ' F' H' → Rp B φ' F' s H' → REn B φ' F' en σ' → D.bk σ' H'
  | some (.cont, en, s) => ∀ φ' F' σ' H', Ext φ F H φ' F' H' → Rp B φ' F' s H' → REn B φ' F' en σ' → D.ct σ' H'
  | some (.ret v, _, s) => ∀ φ' F' x H', Ext φ F H φ' F' H' → Rp B φ' F' s H' → RV B φ' F' v x → D.rt x H'
  | some (.err e, en, s) => ∀ φ' F' σ' H' cls d, Ext φ F H φ' F' H' → Rp B φ' F' s H' → REn B φ' F' en σ' → RX B φ' F' H' e cls d → W cls d σ' H'
theorem SOut.mono {φ φ' : List Addr} {F F' H H' : Hp} {r : Ab.S} {D : Ends} (h : SOut B W φ F H r D) (e : Ext φ F H φ' F' H') : SOut B W φ' F' H' r D := by
  match r, h with
  | some (.next, en, s), h => exact fun φ2 F2 σ2 H2 e2 => h φ2 F2 σ2 H2 (e.trans e2)
  | some (.brk, en, s), h => exact fun φ2 F2 σ2 H2 e2 => h φ2 F2 σ2 H2 (e.trans e2)
  | some (.cont, en, s), h => exact fun φ2 F2 σ2 H2 e2 => h φ2 F2 σ2 H2 (e.trans e2)
  | some (.ret v, en, s), h => exact fun φ2 F2 x H2 e2 => h φ2 F2 x H2 (e.trans e2)
  | some (.err x, en, s), h => exact fun φ2 F2 σ2 H2 c d e2 => h φ2 F2 σ2 H2 c d (e.trans e2)
abbrev tS (B : Bs) (W : WX) (m : Ab.Env → Sto → Ab.S) : TS := fun D σ H => ∃ φ F en s, Rp B φ F s H ∧ REn B φ F en σ ∧ SOut B W φ F H (m en s) D
/-- an expression, then what is done with it -/
theorem S_then {α β : Type} {rel : Rel α β} {m : Ab.Env → Sto → R α} {k : α → Sto → Ab.S} {σ : L2.St} {φ : List Addr} {F H : Hp} {en : Ab.Env} {s : Sto} {D : Ends} {Q : β → Hp → Prop} (rp : Rp B φ F s H) (re : REn B φ F en σ) (o : SOut B W φ F H (Ab.sb (m en s) en k) D)
    (go : ∀ φ' F' H' a s' x, m en s = some (.ok a, s') → Ext φ F H φ' F' H' → Rp B φ' F' s' H' → REn B φ' F' en σ → rel φ' F' a x → SOut B W φ' F' H' (k a s') D → Q x H') : tM B W rel m σ H Q := by
  refine ⟨φ, F, en, s, rp, re, ?_⟩
  cases e : m en s with
  | none => rw [e] at o; exact o.elim
  | some q =>
    obtain ⟨r, s1⟩ := q
    rw [e] at o
    cases r with
    | error x => exact fun φ' F' H' cls d a b c => o φ' F' σ H' cls d a b (re.mono a.le) c
    | ok a => exact fun φ' F' x H' a1 b c => go φ' F' H' a s1 x e a1 b (re.mono a1.le) c (SOut.mono (r := k a s1) o a1)
theorem st_next {φ : List Addr} {F H : Hp} {en : Ab.Env} {s : Sto} {σ : L2.St} {D : Ends} (o : SOut B W φ F H (some (.next, en, s)) D) (rp : Rp B φ F s H) (re : REn B φ F en σ) : D.nx σ H := o φ F σ H (Ext.refl _ _ _) rp re
theorem s_set {i : Nat} {x : Str} {e : Expr} {c : Ex} {p' pos : Pos} (nd : X.N.Nodup) (hi : X.N[i]? = some x) (hx : Loc X.env.scope x) (hf : X.fn x = true ∨ X.env.scope.names.lookup x = some .local) (he : PE X e (tE B W C c)) (hs : swapsWith e (some (.Name x p')) pos.line X.env = pure false) :
    PS X (.Assign [.Name x p'] e pos) (tS B W (Ab.exec C (.asg (.name i) c))) :=
  PS_imp (ps_set nd hi hx he hs hf) fun D σ H ⟨φ, F, en, s, rp, re, o⟩ => S_then (rel := RV B) rp re o fun φ1 F1 H1 v s1 x _ le rp1 re1 r o1 => st_next o1 rp1 (re1.set r i)
/-- name = [..] on one line -/
theorem s_setC {elt tg iter : Expr} {ifs : List Expr} {scope : Scope} {own : List (Str × Nat)} {pos spos p' : Pos} {celt : Ex} {t : Tg} {it : Ab.It} {cond : Option Ex} {m : Bool} {ws : List Nat} {i : Nat} {y : Str} (P : Parts B X W C elt tg iter ifs scope own celt t it cond ws)
    (hi : X.N[i]? = some y) (hy : X.env.scope.names.lookup y = some .local) (hsw : swapsWith (.ListComp elt [⟨tg, iter, ifs, 0⟩] scope pos) (some (.Name y p')) spos.line X.env = pure true) :
    PS X (.Assign [.Name y p'] (.ListComp elt [⟨tg, iter, ifs, 0⟩] scope pos) spos) (tS B W (Ab.exec C (.asg (.name i) (.comp m celt t it cond ws)))) :=
  PS_imp (ps_setLc P.calm P.nd hi hy hsw P.it P.blk P.tg P.cond P.elt (folded_of P.noset)) fun D σ H ⟨φ, F, en, s, rp, re, o⟩ => comp_reads (m := m) P σ H _ (S_then (rel := RV B) rp re o fun φ1 F1 H1 v s1 x _ le rp1 re1 r o1 => st_next o1 rp1 (re1.set r i))
/-- no tuple is written -/
def noTup : Expr → Bool
  | .Tuple _ _ _ => false
  | _ => true
theorem swapped_of {ts : List Expr} {k : Nat} {p : Pos} {e : Expr} {env : Env} (h : noTup e = true) : swappedStores [.Tuple ts k p] e env = pure none := by
  cases e <;> first | rfl | (simp [noTup] at h)
theorem soleT_of {ts : List Expr} {k l : Nat} {p : Pos} {e : Expr} {env : Env} : swapsWithSole [.Tuple ts k p] e l env = pure false := by
  cases e <;> rfl
theorem s_tup {is : List Nat} {xs : List Str} {es : List Expr} {e : Expr} {c : Ex} {k : Nat} {p' pos : Pos} (hK : X.K = B.K) (hg : PG X (.Tuple es k p') (gT B.K (.names is))) (he : PE X e (tE B W C c)) (hs : noTup e = true) :
    PS X (.Assign [.Tuple es k p'] e pos) (tS B W (Ab.exec C (.asg (.names is) c))) :=
  PS_imp (ps_asg he hg soleT_of (swapped_of hs) rfl) fun D σ H ⟨φ, F, en, s, rp, re, o⟩ => S_then (rel := RV B) rp re o fun φ1 F1 H1 v s1 x _ le rp1 re1 r o1 => by
    cases e1 : Ab.bindT (.names is) v en with
    | none => rw [e1] at o1; exact o1.elim
    | some en1 =>
      rw [e1] at o1
      exact bind_ok rp1 e1 r re1 fun σ' re' _ => st_next o1 rp1 re'
theorem swapA_of {e o : Expr} {f : Str} {p : Pos} {l : Nat} {env : Env} : swapsWith e (some (.Attribute o f p)) l env = pure false := by cases e <;> rfl
theorem swapS_of {e o i : Expr} {p : Pos} {l : Nat} {env : Env} : swapsWith e (some (.Subscript o i p)) l env = pure false := by cases e <;> rfl
theorem put_all {p : Nat → Bool} {f : Nat} {v : Val} (hf : p f = true) : ∀ {fs : List (Nat × Val)}, (fs.all fun q => p q.1) = true → ((Ab.putF f v fs).all fun q => p q.1) = true
  | [], _ => by simp [Ab.putF, hf]
  | q :: r, h => by
    obtain ⟨h1, h2⟩ : p q.1 = true ∧ (r.all fun q => p q.1) = true := by simpa using h
    simp only [Ab.putF]
    cases c : q.1 == f with
    | true => simpa [h1] using h2
    | false => simpa [h1] using put_all hf h2
/-- an attribute is written -/
theorem wrote_fld {φ : List Addr} {F H : Hp} {s : Sto} {l c f : Nat} {fs : List (Nat × Val)} {x y : V} {v : Val} (rp : Rp B φ F s H) (r : RV B φ F (.loc l) x) (rv : RV B φ F v y) (e : s[l]? = some (.inst c fs)) (hf : B.okF f = true) :
    ∃ a dx xs, x = .ref a ∧ H a = some (.ins (B.A c) dx xs) ∧ B.okC c = true ∧ xs.length = fs.length ∧ Ext φ F H φ F (upd H a (.ins (B.A c) dx (L2.putF (B.fld f) y xs))) ∧ Rp B φ F (s.set l (.inst c (Ab.putF f v fs))) (upd H a (.ins (B.A c) dx (L2.putF (B.fld f) y xs))) := by
  obtain ⟨a, dx, xs, rfl, ha, h1, h2, h3, h4⟩ := inst_at rp r e
  exact ⟨a, dx, xs, rfl, h1, h3, h2.length.symm, Ext.write rp ha, rp.write ha (fun _ z => by rw [e] at z; cases z) (o := .inst c (Ab.putF f v fs)) ⟨dx, _, rfl, h2.put rv, h3, put_all hf h4⟩⟩
theorem s_fld {o e : Expr} {co c : Ex} {f : Nat} {p' pos : Pos} (hK : X.K = B.K) (G : ClsOk B B.K) (hf : B.okF f = true) (ho : PE X o (tE B W C co)) (he : PE X e (tE B W C c)) : PS X (.Assign [.Attribute o (B.fld f) p'] e pos) (tS B W (Ab.exec C (.asgF co f c))) :=
  PS_imp (ps_fld ho he swapA_of) fun D σ H ⟨φ, F, en, s, rp, re, o⟩ => S_then (rel := RV B) rp re o fun φ1 F1 H1 v s1 y _ le rp1 re1 r o1 => S_then (rel := RV B) rp1 re1 o1 fun φ2 F2 H2 u s2 x _ le2 rp2 re2 r2 o2 => by
    cases u with
    | loc l =>
      cases e1 : s2[l]? with
      | none => simp only [e1] at o2; exact o2.elim
      | some ob =>
        cases ob with
        | inst k fs =>
          simp only [e1] at o2
          split at o2
          · rename_i hl
            obtain ⟨a, dx, xs, rfl, h1, h3, h5, ex, rp3⟩ := wrote_fld rp2 r2 (r.mono le2.le) e1 hf
            rw [hK]
            exact ⟨a, B.A k, dx, xs, rfl, h1, G.cl k h3, G.na k f h3 hf, by omega, o2 _ _ _ _ ex rp3 re2⟩
          · exact o2.elim
        | _ => simp only [e1] at o2; exact o2.elim
    | _ => exact o2.elim
theorem s_sub {o i e : Expr} {co ci c : Ex} {p' pos : Pos} (hu : X.A.units + 1 < cLine) (ho : PE X o (tE B W C co)) (hi : PE X i (tE B W C ci)) (he : PE X e (tE B W C c)) (hs : noSlice i = true) : PS X (.Assign [.Subscript o i p'] e pos) (tS B W (Ab.exec C (.asgI co ci c))) := by
  have set1 : PS X (.Assign [.Subscript o i p'] e pos) (tAsg (tE B W C c) (gSub (tE B W C co) (tE B W C ci) rSetL)) := by
    refine ps_asg he (pg_sub ho hi set_list fun v => ?_) (by cases e <;> rfl) (by cases e <;> rfl) rfl
    cases i <;> first | rfl | (simp [noSlice] at hs)
  refine PS_imp (PS_or set1 (ps_dput hu ho hi he swapS_of)) fun D σ H ⟨φ, F, en, s, rp, re, o⟩ => ?_
  by_cases ch : ∀ v s1 l s2 u s3, Ab.ev C c en s = some (.ok v, s1) → Ab.ev C co en s1 = some (.ok (.loc l), s2) → Ab.ev C ci en s2 = some (.ok u, s3) → ∃ xs, s3[l]? = some (.list xs)
  · refine .inl (S_then (rel := RV B) rp re o fun φ1 F1 H1 v s1 z e1 le rp1 re1 r o1 => S_then (rel := RV B) rp1 re1 o1 fun φ2 F2 H2 w s2 x e2 le2 rp2 re2 r2 o2 => S_then (rel := RV B) rp2 re2 o2 fun φ3 F3 H3 u s3 y e3 le3 rp3 re3 r3 o3 => ?_)
    cases e4 : Ab.setV w u v s3 with
    | none => rw [e4] at o3; exact o3.elim
    | some s4 =>
      rw [e4] at o3
      obtain ⟨a, H', e5, ex, rp4, h⟩ := setV_ok rp3 (r2.mono le3.le) r3 (r.mono (le2.trans le3).le) e4
      rcases h with ⟨xs, k, j, g1, g2, g3, rfl⟩ | g
      · exact ⟨a, xs, k, j, e5, g1, g2, g3, o3 _ _ _ _ ex rp4 re3⟩
      · exfalso
        cases w with
        | loc l =>
          obtain ⟨xs, hx⟩ := ch _ _ _ _ _ _ e1 e2 e3
          obtain ⟨b, rfl, hb⟩ := r2.mono le3.le
          cases e5
          obtain ⟨ho, h1, ys, rfl, _⟩ := rp3.at hb hx
          rcases g with ⟨kvs, k, g1, _⟩ | ⟨kvs, k, c, g1, _⟩
          · rw [h1] at g1; cases g1
          · rw [h1] at g1; cases g1
        | _ => cases e4
  · refine .inr (S_then (rel := RV B) rp re o fun φ1 F1 H1 v s1 z e1 le rp1 re1 r o1 => S_then (rel := RV B) rp1 re1 o1 fun φ2 F2 H2 w s2 x e2 le2 rp2 re2 r2 o2 => S_then (rel := RV B) rp2 re2 o2 fun φ3 F3 H3 u s3 y e3 le3 rp3 re3 r3 o3 => ?_)
    cases e4 : Ab.setV w u v s3 with
    | none => rw [e4] at o3; exact o3.elim
    | some s4 =>
      rw [e4] at o3
      obtain ⟨a, H', e5, ex, rp4, h⟩ := setV_ok rp3 (r2.mono le3.le) r3 (r.mono (le2.trans le3).le) e4
      rcases h with ⟨xs, k, j, g1, g2, g3, rfl⟩ | g
      · exfalso
        refine ch fun v' s1' l s2' u' s3' f1 f2 f3 => ?_
        rw [e1] at f1
        cases f1
        rw [e2] at f2
        cases f2
        rw [e3] at f3
        cases f3
        obtain ⟨b, rfl, hb⟩ := r2.mono le3.le
        cases e5
        cases q : s3[l]? with
        | none => simp [Ab.setV, q] at e4
        | some ob =>
          obtain ⟨ho, h1, h2⟩ := rp3.at hb q
          rw [g2] at h1
          cases h1
          cases ob with
          | list ys => exact ⟨ys, rfl⟩
          | dS _ => obtain ⟨_, z, _⟩ := h2; cases z
          | dT _ => obtain ⟨_, z, _⟩ := h2; cases z
          | dTf _ => obtain ⟨_, _, z, _⟩ := h2; cases z
          | inst _ _ => obtain ⟨_, _, z, _⟩ := h2; cases z
      · exact ⟨a, H', e5, g, o3 _ _ _ _ ex rp4 re3⟩
theorem s_expr {e : Expr} {c : Ex} {pos : Pos} (he : PE X e (tE B W C c)) (hs : noCmp e = true) : PS X (.Expr e pos) (tS B W (Ab.exec C (.expr c))) :=
  PS_imp (ps_expr he (swap_of hs)) fun D σ H ⟨φ, F, en, s, rp, re, o⟩ => S_then (rel := RV B) rp re o fun φ1 F1 H1 v s1 x _ le rp1 re1 r o1 => st_next o1 rp1 re1
theorem s_ret {e : Expr} {c : Ex} {pos : Pos} (he : PE X e (tE B W C c)) : PS X (.Return (some e) pos) (tS B W (Ab.exec C (.ret c))) :=
  PS_imp (ps_ret he) fun D σ H ⟨φ, F, en, s, rp, re, o⟩ => S_then (rel := RV B) rp re o fun φ1 F1 H1 v s1 x _ le rp1 re1 r o1 => o1 _ _ _ _ (Ext.refl _ _ _) rp1 r
theorem s_retN {pos : Pos} : PS X (.Return none pos) (tS B W (Ab.exec C .retN)) :=
  PS_imp ps_retN fun D σ H ⟨φ, F, en, s, rp, re, o⟩ => o _ _ _ _ (Ext.refl _ _ _) rp (show RV B φ F .non .non from rfl)
theorem s_pass {pos : Pos} : PS X (.Pass pos) (tS B W (Ab.exec C .pass)) := PS_imp ps_pass fun D σ H ⟨φ, F, en, s, rp, re, o⟩ => st_next o rp re
theorem s_doc {x : Str} {j : Nat} {p pos : Pos} : PS X (.Expr (.Constant (.str x) j p) pos) (tS B W (Ab.exec C .pass)) := PS_imp ps_doc fun D σ H ⟨φ, F, en, s, rp, re, o⟩ => st_next o rp re
theorem s_brk {pos : Pos} : PS X (.Break pos) (tS B W (Ab.exec C .brk)) := PS_imp ps_break fun D σ H ⟨φ, F, en, s, rp, re, o⟩ => o _ _ _ _ (Ext.refl _ _ _) rp re
theorem s_cont {pos : Pos} : PS X (.Continue pos) (tS B W (Ab.exec C .cont)) := PS_imp ps_continue fun D σ H ⟨φ, F, en, s, rp, re, o⟩ => o _ _ _ _ (Ext.refl _ _ _) rp re
theorem s_stuck {st : Stmt} : PS X st (tS B W (Ab.exec C .stuck)) := PS_imp ps_never fun D σ H ⟨φ, F, en, s, rp, re, o⟩ => o
/-! ### blocks -/
theorem b_nil : PSs X [] (tS B W (Ab.execs C [])) := PSs_imp pss_nil fun D σ H ⟨φ, F, en, s, rp, re, o⟩ => st_next o rp re
theorem b_cons {st : Stmt} {r : List Stmt} {c : Stm} {cs : List Stm} (h1 : PS X st (tS B W (Ab.exec C c))) (h2 : PSs X r (tS B W (Ab.execs C cs))) : PSs X (st :: r) (tS B W (Ab.execs C (c :: cs))) :=
  PSs_imp (pss_cons h1 h2) fun D σ H ⟨φ, F, en, s, rp, re, o⟩ => by
    refine ⟨φ, F, en, s, rp, re, ?_⟩
    have o' : SOut B W φ F H (Ab.sq (Ab.exec C c en s) fun en s => Ab.execs C cs en s) D := o
    revert o'
    cases Ab.exec C c en s with
    | none => exact fun h => h
    | some q =>
      obtain ⟨r, en1, s1⟩ := q
      cases r with
      | next => exact fun o φ1 F1 σ1 H1 x1 rp1 re1 => ⟨φ1, F1, en1, s1, rp1, re1, SOut.mono (r := Ab.execs C cs en1 s1) o x1⟩
      | _ => exact fun h => h
theorem s_if {e : Expr} {a b : List Stmt} {c : Ex} {ca cb : List Stm} {pos : Pos} (he : PT X e (tT B W C c)) (ha : PSs X a (tS B W (Ab.execs C ca))) (hb : PSs X b (tS B W (Ab.execs C cb))) : PS X (.If e a b pos) (tS B W (Ab.exec C (.ifS c ca cb))) :=
  PS_imp (ps_if he ha hb) fun D σ H ⟨φ, F, en, s, rp, re, o⟩ => by
    have e1 : Ab.exec C (.ifS c ca cb) en s = Ab.sb (Ab.evc C (some c) en s) en fun b s => if b = true then Ab.execs C ca en s else Ab.execs C cb en s := by
      simp only [Ab.exec, Ab.evc]
      cases Ab.ev C c en s with
      | none => rfl
      | some q =>
        obtain ⟨r, s1⟩ := q
        cases r with
        | error _ => rfl
        | ok v =>
          cases v with
          | bl k => cases k <;> rfl
          | _ => rfl
    rw [e1] at o
    refine S_then (rel := Same') rp re o fun φ1 F1 H1 v s1 x _ le rp1 re1 r o1 => ?_
    have hx : x = v := r
    subst hx
    cases x with
    | true => exact ⟨φ1, F1, en, s1, rp1, re1, o1⟩
    | false => exact ⟨φ1, F1, en, s1, rp1, re1, o1⟩
/-! ### loops -/
theorem s_while {e : Expr} {b : List Stmt} {c : Ex} {cb : List Stm} {pos : Pos} (hp : PassesOwn (model X.prog X.w) X.A X.env X.xe) (he : PT X e (tT B W C c)) (hb : PSs X b (tS B W (Ab.execs C cb))) : PS X (.While e b [] pos) (tS B W (Ab.exec C (.whl c cb))) :=
  PS_imp (ps_while hp he hb) fun D σ H ⟨φ, F, en, s, rp, re, o⟩ => by
    refine ⟨fun n σ H => ∃ φ F en s, Rp B φ F s H ∧ REn B φ F en σ ∧ SOut B W φ F H (Ab.whlL (Ab.ev C c) (Ab.execs C cb) n en s) D, ⟨_, φ, F, en, s, rp, re, o⟩, ?_⟩
    rintro n σ H ⟨φ, F, en, s, rp, re, o⟩
    cases n with
    | zero => exact o.elim
    | succ n =>
      have e1 : Ab.whlL (Ab.ev C c) (Ab.execs C cb) (n + 1) en s = Ab.sb (Ab.evc C (some c) en s) en fun k s => if k = true then (match Ab.execs C cb en s with
          | some (.next, en1, s1) => Ab.whlL (Ab.ev C c) (Ab.execs C cb) n en1 s1
          | some (.cont, en1, s1) => Ab.whlL (Ab.ev C c) (Ab.execs C cb) n en1 s1
          | some (.brk, en1, s1) => some (.next, en1, s1)
          | x => x) else some (.next, en, s) := by
        simp only [Ab.whlL, Ab.evc]
        cases Ab.ev C c en s with
        | none => rfl
        | some q =>
          obtain ⟨r, s1⟩ := q
          cases r with
          | error _ => rfl
          | ok v =>
            cases v with
            | bl k => cases k <;> rfl
            | _ => rfl
      rw [e1] at o
      refine S_then (rel := Same') rp re o fun φ1 F1 H1 v s1 x _ le rp1 re1 r o1 => ?_
      have hx : x = v := r
      subst hx
      cases x with
      | false =>
        rw [if_neg Bool.false_ne_true]
        exact st_next o1 rp1 re1
      | true =>
        rw [if_pos rfl] at o1 ⊢
        refine ⟨fun σ' H' => ∃ φ F en s, Rp B φ F s H' ∧ REn B φ F en σ' ∧ SOut B W φ F H' (Ab.whlL (Ab.ev C c) (Ab.execs C cb) n en s) D, fun σ' H' h => ⟨n, Nat.lt_succ_self n, h⟩, φ1, F1, en, s1, rp1, re1, ?_⟩
        revert o1
        cases Ab.execs C cb en s1 with
        | none => exact fun h => h
        | some q =>
          obtain ⟨r, en2, s2⟩ := q
          cases r with
          | next => exact fun o φ2 F2 σ2 H2 x2 rp2 re2 => ⟨φ2, F2, en2, s2, rp2, re2, SOut.mono (r := Ab.whlL _ _ n en2 s2) o x2⟩
          | cont => exact fun o φ2 F2 σ2 H2 x2 rp2 re2 => ⟨φ2, F2, en2, s2, rp2, re2, SOut.mono (r := Ab.whlL _ _ n en2 s2) o x2⟩
          | brk => exact fun o => o
          | ret v => exact fun o => o
          | err x => exact fun o => o
/-- a loop's turns -/
theorem loop_go {t : Tg} {cb : List Stm} {w : Walk} {J : L2.It} {φ1 : List Addr} {F1 H1 : Hp} {s1 : Sto} {en : Ab.Env} {σ : L2.St} {D : Ends} (rp1 : Rp B φ1 F1 s1 H1) (re1 : REn B φ1 F1 en σ) (k : Wk B φ1 F1 w J)
    (o2 : SOut B W φ1 F1 H1 (Ab.forL w.2 (fun v en s => match Ab.bindT t v en with
      | some en1 => Ab.execs C cb en1 s
      | none => none) w.1 en s1) D) :
    ∃ Wi : Nat → Nat → L2.St → Hp → Prop, (∃ m, Wi 0 m σ H1) ∧ ∀ i m σ H, Wi i m σ H → (J.stop i H ∧ D.nx σ H) ∨ (J.go i H ∧ ∃ Nx : L2.St → Hp → Prop, (∀ σ' H', Nx σ' H' → ∃ m', m' < m ∧ Wi (i + 1) m' σ' H') ∧
      ∀ x H', J.yld i H x H' → gT B.K t x σ H' fun σ2 H2 => tS B W (Ab.execs C cb) ⟨Nx, D.rt, D.nx, Nx⟩ σ2 H2) := by
    let f : Val → Ab.Env → Sto → Ab.S := fun v en s => match Ab.bindT t v en with
      | some en1 => Ab.execs C cb en1 s
      | none => none
    let M : Nat → L2.St → Hp → Prop := fun i σ H => i ≤ w.1.length ∧ ∃ φ F en s, Le φ1 F1 φ F ∧ Rp B φ F s H ∧ REn B φ F en σ ∧ SOut B W φ F H (Ab.forL w.2 f (w.1.drop i) en s) D
    refine ⟨fun i n σ H => n = w.1.length - i ∧ M i σ H, ⟨_, rfl, Nat.zero_le _, φ1, F1, en, s1, Le.refl _ _, rp1, re1, o2⟩, ?_⟩
    rintro i n σ2 H2 ⟨rfl, hle, φ2, F2, en2, s2, l2, rp2, re2, o3⟩
    by_cases ci : i < w.1.length
    · obtain ⟨v, hv⟩ : ∃ v, w.1[i]? = some v := ⟨_, List.getElem?_eq_getElem ci⟩
      have hd : w.1.drop i = v :: w.1.drop (i + 1) := by
        rw [List.drop_eq_getElem_cons ci]
        congr 1
        exact (List.getElem?_eq_some_iff.mp hv).2
      rw [hd] at o3
      simp only [Ab.forL] at o3
      split at o3
      · rename_i st
        obtain ⟨g1, g2⟩ := k.go φ2 F2 s2 H2 i v l2 rp2 st hv
        refine .inr ⟨g1, M (i + 1), fun σ' H' hM => ⟨w.1.length - (i + 1), by omega, rfl, hM⟩, fun x H3 hy => ?_⟩
        obtain ⟨φ3, F3, x3, rp3, r3⟩ := g2 x H3 hy
        cases e1 : Ab.bindT t v en2 with
        | none => simp only [f, e1] at o3; exact o3.elim
        | some en4 =>
          have fe : f v en2 s2 = Ab.execs C cb en4 s2 := by simp only [f, e1]
          rw [fe] at o3
          refine bind_ok rp3 e1 r3 (re2.mono x3.le) fun σ4 re4 _ => ⟨φ3, F3, en4, s2, rp3, re4, ?_⟩
          have nx : ∀ {en5 s5}, SOut B W φ2 F2 H2 (Ab.forL w.2 f (w.1.drop (i + 1)) en5 s5) D → ∀ φ' F' σ' H', Ext φ3 F3 H3 φ' F' H' → Rp B φ' F' s5 H' → REn B φ' F' en5 σ' → M (i + 1) σ' H' := fun {en5 s5} o φ' F' σ' H' x' rp' re' =>
            ⟨by omega, φ', F', en5, s5, l2.trans (x3.le.trans x'.le), rp', re', SOut.mono (r := Ab.forL w.2 f (w.1.drop (i + 1)) en5 s5) o (x3.trans x')⟩
          revert o3
          cases Ab.execs C cb en4 s2 with
          | none => exact fun h => h
          | some q =>
            obtain ⟨r, en5, s5⟩ := q
            cases r with
            | next => exact fun o => nx o
            | cont => exact fun o => nx o
            | brk => exact fun o φ' F' σ' H' x' => o φ' F' σ' H' (x3.trans x')
            | ret v => exact fun o φ' F' y H' x' => o φ' F' y H' (x3.trans x')
            | err e => exact fun o φ' F' σ' H' c d x' => o φ' F' σ' H' c d (x3.trans x')
      · exact o3.elim
    · have hi : i = w.1.length := by omega
      subst hi
      rw [List.drop_length] at o3
      simp only [Ab.forL] at o3
      split at o3
      · rename_i st
        exact .inl ⟨k.stop φ2 F2 s2 H2 l2 rp2 st, st_next o3 rp2 re2⟩
      · exact o3.elim
theorem s_for {tg iter : Expr} {b : List Stmt} {t : Tg} {it : Ab.It} {cb : List Stm} {pos : Pos} (hp : PassesOwn (model X.prog X.w) X.A X.env X.xe) (hc : X.calm = true) (hi : PI X tg iter (tI B W C it)) (hg : PG X tg (gT B.K t)) (hb : PSs X b (tS B W (Ab.execs C cb))) (hs : noSet iter = true) :
    PS X (.For tg iter b [] pos) (tS B W (Ab.exec C (.forS t it cb))) :=
  PS_imp (ps_for hp hc hi hg hb (folded_of hs)) fun D σ H ⟨φ, F, en, s, rp, re, o⟩ => S_then (rel := relW B) rp re o fun φ1 F1 H1 w s1 J _ le rp1 re1 k o1 => loop_go rp1 re1 k o1
/-! ### the keys of a dict -/
/-- what is locked says nothing of values -/
def Lockd (F : Hp) (d : Addr) : Prop := ∃ od xs, F d = some (.frz od (.dT xs))
theorem del_keeps {F : Hp} {d a : Addr} {o : HO} (h : Lockd F d) (e : F a = some o) (hn : ∀ od xs, o ≠ .frz od (.dT xs)) : del F d a = some o := by
  rw [del_ne fun z => by
    obtain ⟨od, xs, e2⟩ := h
    rw [z, e2] at e
    exact hn od xs (Option.some.inj e).symm]
  exact e
mutual
theorem RV.del {φ : List Addr} {F : Hp} {d : Addr} (h : Lockd F d) : ∀ {v : Val} {x : V}, RV B φ F v x → RV B φ (L2.del F d) v x
  | .non, _, q => q
  | .bl _, _, q => q
  | .int _, _, q => q
  | .str _, _, q => q
  | .tup _, _, ⟨a, xs, r, f, q⟩ => ⟨a, xs, r, del_keeps h f (fun _ _ z => nomatch z), RVs.del h q⟩
  | .lst _, _, ⟨a, xs, r, f, q⟩ => ⟨a, xs, r, del_keeps h f (fun _ _ z => nomatch z), RVs.del h q⟩
  | .loc _, _, q => q
  | .scr _, _, ⟨a, r, f⟩ => ⟨a, r, f.imp (fun z => z.imp (fun e => del_keeps h e fun _ _ z => nomatch z) fun ⟨o, e⟩ => ⟨o, del_keeps h e fun _ _ z => by cases z⟩) id⟩
  | .exc _ _, _, q => q
theorem RVs.del {φ : List Addr} {F : Hp} {d : Addr} (h : Lockd F d) : ∀ {v : List Val} {x : List V}, RVs B φ F v x → RVs B φ (L2.del F d) v x
  | [], _, q => q
  | _ :: _, _, ⟨y, r, q, h1, h2⟩ => ⟨y, r, q, RV.del h h1, RVs.del h h2⟩
end
theorem RKs.del {α κ : Type} {g : α → κ} {φ : List Addr} {F : Hp} {d : Addr} (h : Lockd F d) : ∀ {v : List (α × Val)} {x : List (κ × V)}, RKs B g φ F v x → RKs B g φ (L2.del F d) v x
  | [], _, q => q
  | _ :: _, _, ⟨y, r, q, h1, h2⟩ => ⟨y, r, q, h1.del h, RKs.del h h2⟩
theorem RFs.del {φ : List Addr} {F : Hp} {d : Addr} (h : Lockd F d) : ∀ {v : List (Nat × Val)} {x : List (Str × V)}, RFs B φ F v x → RFs B φ (L2.del F d) v x
  | [], _, q => q
  | _ :: _, _, ⟨y, r, q, h1, h2⟩ => ⟨y, r, q, h1.del h, RFs.del h h2⟩
theorem RO.del {φ : List Addr} {F : Hp} {d : Addr} (h : Lockd F d) : ∀ {o : SO} {ho : HO}, RO B φ F o ho → RO B φ (L2.del F d) o ho
  | .list _, _, ⟨xs, q, r⟩ => ⟨xs, q, r.del h⟩
  | .dS _, _, ⟨xs, q, r⟩ => ⟨xs, q, r.del h⟩
  | .dT _, _, ⟨xs, q, r, k⟩ => ⟨xs, q, r.del h, k⟩
  | .dTf _, _, ⟨od, xs, q, r, k⟩ => ⟨od, xs, q, r.del h, k⟩
  | .inst _ _, _, ⟨dx, xs, q, r, k⟩ => ⟨dx, xs, q, r.del h, k⟩
theorem REn.del {φ : List Addr} {F : Hp} {d : Addr} {en : Ab.Env} {σ : L2.St} (h : Lockd F d) (r : REn B φ F en σ) : REn B φ (L2.del F d) en σ := ⟨r.len, fun i v e => let ⟨x, a, b⟩ := r.at_ i v e; ⟨x, a, b.del h⟩⟩
/-- a dict is locked -/
theorem lock_ok {φ : List Addr} {F : Hp} {s : Sto} {H : Hp} (rp : Rp B φ F s H) {l : Nat} {d : Addr} {kvs : List (Ab.AKey × Val)} (hd : φ[l]? = some d) (e : s[l]? = some (.dT kvs)) {xs : List (List Key × V)} (hx : H d = some (.dT xs)) (hk : RKs B keyT φ F kvs xs) (gk : ∀ p ∈ kvs, goodK p.1) (od : Obj) :
    F d = none ∧ Le φ F φ (upd F d (.frz od (.dT xs))) ∧ Rp B φ (upd F d (.frz od (.dT xs))) (s.set l (.dTf kvs)) (upd H d (.frz od (.dT xs))) := by
  have fd : F d = none := rp.ap l d hd fun k z => by rw [e] at z; cases z
  have le : Le φ F φ (upd F d (.frz od (.dT xs))) := ⟨fun _ _ h => h, fun a u h => by rw [upd_ne (ne_of_none h fd)]; exact h⟩
  have ll : l < s.length := (List.getElem?_eq_some_iff.mp e).1
  refine ⟨fd, le, by simp [rp.len], rp.nd, fun i u h => ?_, fun a u h => ?_, fun i a hi hs => ?_⟩
  · by_cases c : l = i
    · subst c
      rw [List.getElem?_set_self ll] at h
      cases h
      exact ⟨d, _, hd, upd_same, od, xs, rfl, hk.mono le, gk⟩
    · rw [List.getElem?_set_ne c] at h
      obtain ⟨a, ho, e1, e2, e3⟩ := rp.obj i u h
      exact ⟨a, ho, e1, by rw [upd_ne fun z => c (rp.nd l i d hd (by rw [← z]; exact e1))]; exact e2, e3.mono le⟩
  · by_cases c : a = d
    · subst c
      rw [upd_same] at h ⊢
      exact h
    · rw [upd_ne c] at h ⊢
      exact rp.fz a u h
  · by_cases c : l = i
    · subst c
      exact absurd (List.getElem?_set_self ll) (hs kvs)
    · rw [upd_ne fun z => c (rp.nd l i d hd (by rw [← z]; exact hi))]
      exact rp.ap i a hi fun k z => hs k (by rw [List.getElem?_set_ne c]; exact z)
/-- .. and free again -/
theorem unlock_ok {φ φ' : List Addr} {F F' : Hp} {s s' s2 : Sto} {H H' : Hp} {l : Nat} {d : Addr} {od : Obj} {xs : List (List Key × V)} (rp : Rp B φ F s H) (hd : φ[l]? = some d) (fd : F d = none) (hx : H d = some (.dT xs)) (rp' : Rp B φ' F' s' H') (x : Ext φ (upd F d (.frz od (.dT xs))) (upd H d (.frz od (.dT xs))) φ' F' H')
    (e : Ab.unlock l s' = some s2) : H' d = some (.frz od (.dT xs)) ∧ Lockd F' d ∧ Ext φ F H φ' (del F' d) (upd H' d (.dT xs)) ∧ Rp B φ' (del F' d) s2 (upd H' d (.dT xs)) := by
  have f' : F' d = some (.frz od (.dT xs)) := x.le.f _ _ upd_same
  have h' : H' d = some (.frz od (.dT xs)) := rp'.fz _ _ f'
  have hd' : φ'[l]? = some d := x.le.p _ _ hd
  have lk : Lockd F' d := ⟨od, xs, f'⟩
  refine ⟨h', lk, ⟨⟨x.le.p, fun a u h => ?_⟩, fun b u h n => ?_, fun b u h => ?_, fun i b h => ?_, fun b h => ?_, fun b ys h => ?_⟩, ?_⟩
  · have c : a ≠ d := fun z => by rw [z, fd] at h; cases h
    rw [del_ne c]
    exact x.le.f a u (by rw [upd_ne c]; exact h)
  · have c : b ≠ d := fun z => n l (by rw [z]; exact hd)
    rw [upd_ne c]
    exact x.keep b u (by rw [upd_ne c]; exact h) n
  · have c : b ≠ d := fun z => by rw [z, del_same] at h; cases h
    rw [del_ne c] at h
    have := x.fnew b u h
    rw [upd_ne c, upd_ne c] at this
    exact this
  · have := x.pnew i b h
    by_cases c : b = d
    · subst c
      rcases this with z | z
      · exact .inl z
      · rw [upd_same] at z; cases z
    · rw [upd_ne c] at this
      exact this
  · have c : b ≠ d := fun z => by rw [z, upd_same] at h; cases h
    rw [upd_ne c] at h
    have := x.there b h
    rw [upd_ne c] at this
    exact this
  · have c : b ≠ d := fun z => by rw [z, upd_same] at h; cases h
    rw [upd_ne c] at h
    have := x.tup b ys h
    rw [upd_ne c] at this
    exact this
  · unfold Ab.unlock at e
    split at e
    · rename_i kvs e1
      cases e
      have ll : l < s'.length := (List.getElem?_eq_some_iff.mp e1).1
      obtain ⟨ho, g1, od2, ys, rfl, hk, gk⟩ := rp'.at hd' e1
      rw [h'] at g1
      cases g1
      refine ⟨by simp [rp'.len], rp'.nd, fun i u h => ?_, fun a u h => ?_, fun i a hi hs => ?_⟩
      · by_cases c : l = i
        · subst c
          rw [List.getElem?_set_self ll] at h
          cases h
          exact ⟨d, _, hd', upd_same, xs, rfl, hk.del lk, gk⟩
        · rw [List.getElem?_set_ne c] at h
          obtain ⟨a, ho, e2, e3, e4⟩ := rp'.obj i u h
          exact ⟨a, ho, e2, by rw [upd_ne fun z => c (rp'.nd l i d hd' (by rw [← z]; exact e2))]; exact e3, e4.del lk⟩
      · have c : a ≠ d := fun z => by rw [z, del_same] at h; cases h
        rw [del_ne c] at h
        rw [upd_ne c]
        exact rp'.fz a u h
      · by_cases c : l = i
        · subst c
          rw [hd'] at hi
          cases hi
          exact del_same
        · rw [del_ne fun z => c (rp'.nd l i d hd' (by rw [← z]; exact hi))]
          exact rp'.ap i a hi fun k z => hs k (by rw [List.getElem?_set_ne c]; exact z)
    · cases e
theorem rks_at {φ : List Addr} {F : Hp} : ∀ {kvs : List (Ab.AKey × Val)} {xs : List (List Key × V)} {i : Nat} {k : List Key} {v : V}, RKs B keyT φ F kvs xs → xs[i]? = some (k, v) → ∃ p, kvs[i]? = some p ∧ k = keyT p.1
  | [], _, i, k, v, r, e => by rw [show _ = [] from r] at e; simp at e
  | p :: r, _, 0, k, v, ⟨x, t, q, h1, h2⟩, e => by
    subst q
    simp at e
    exact ⟨p, rfl, e.1.symm⟩
  | p :: r, _, i + 1, k, v, ⟨x, t, q, h1, h2⟩, e => by
    subst q
    obtain ⟨p', e1, e2⟩ := rks_at (i := i) h2 (by simpa using e)
    exact ⟨p', by simpa using e1, e2⟩
theorem rks_len {φ : List Addr} {F : Hp} : ∀ {kvs : List (Ab.AKey × Val)} {xs : List (List Key × V)}, RKs B keyT φ F kvs xs → kvs.length = xs.length
  | [], _, r => by rw [show _ = [] from r]; rfl
  | p :: r, _, ⟨x, t, q, h1, h2⟩ => by rw [q, List.length_cons, List.length_cons, rks_len h2]
/-- a key's tuple is a tuple of ours -/
theorem key_vals {φ : List Addr} {F : Hp} : ∀ {k : Ab.AKey}, goodK k → RVs B φ F (k.map fun
  | .inl i => Val.int i
  | .inr t => Val.str t) ((keyT k).map kV)
  | [], _ => rfl
  | .inl i :: r, g => ⟨_, _, rfl, rfl, key_vals fun t ht => g t (List.mem_cons_of_mem _ ht)⟩
  | .inr t :: r, g => ⟨_, _, rfl, ⟨rfl, g t List.mem_cons_self⟩, key_vals fun u hu => g u (List.mem_cons_of_mem _ hu)⟩
theorem no_tup {φ : List Addr} {F : Hp} {o : SO} {xs : List V} : ¬ RO B φ F o (.tup xs) := by
  cases o with
  | list _ => rintro ⟨_, z, _⟩; cases z
  | dS _ => rintro ⟨_, z, _⟩; cases z
  | dT _ => rintro ⟨_, z, _⟩; cases z
  | dTf _ => rintro ⟨_, _, z, _⟩; cases z
  | inst _ _ => rintro ⟨_, _, z, _⟩; cases z
/-- a tuple that stands there is counted among what is never written -/
theorem Rp.own_tup {φ : List Addr} {F : Hp} {s : Sto} {H : Hp} (rp : Rp B φ F s H) {q : Addr} {xs : List V} (h : H q = some (.tup xs)) : ∃ F2, Ext φ F H φ F2 H ∧ Rp B φ F2 s H ∧ F2 q = some (.tup xs) := by
  have hp : ∀ l : Nat, φ[l]? ≠ some q := fun l z => by
    have hl : l < s.length := rp.len ▸ (List.getElem?_eq_some_iff.mp z).1
    obtain ⟨ho, e1, e2⟩ := rp.at z (List.getElem?_eq_getElem hl)
    rw [h] at e1
    cases e1
    exact no_tup e2
  cases e : F q with
  | some o =>
    have := rp.fz _ _ e
    rw [h] at this
    cases this
    exact ⟨F, Ext.refl _ _ _, rp, e⟩
  | none =>
    refine ⟨upd F q (.tup xs), ⟨⟨fun _ _ h => h, fun b u hb => by rw [upd_ne (ne_of_none hb e)]; exact hb⟩, fun _ _ h _ => h, fun b u hb => ?_, fun _ _ h => .inl h, fun _ h => h, fun _ _ h => .inr h⟩, rp.adoptF e hp h, upd_same⟩
    by_cases c : b = q
    · subst c
      exact .inr (.inr ⟨xs, h⟩)
    · rw [upd_ne c] at hb
      exact .inl hb
theorem wk_keys {φ : List Addr} {F : Hp} {d : Addr} {od : Obj} {kvs : List (Ab.AKey × Val)} {xs : List (List Key × V)} (hf : F d = some (.frz od (.dT xs))) (hk : RKs B keyT φ F kvs xs) (gk : ∀ p ∈ kvs, goodK p.1) : Wk B φ F (kvs.map fun p => Ab.keyV p.1, none) (Itkt d od xs) where
  go := fun φ' F' s' H' i v e rp st hi => by
    have hd : H' d = some (.frz od (.dT xs)) := rp.fz _ _ (e.f _ _ hf)
    have hl := rks_len hk
    have hi' : i < xs.length := by
      have := (List.getElem?_eq_some_iff.mp hi).1
      simpa [hl] using this
    refine ⟨⟨hd, hi'⟩, ?_⟩
    rintro x H2 ⟨rfl, k, u, q, e1, rfl, e2⟩
    obtain ⟨p, e3, rfl⟩ := rks_at hk e1
    rw [List.getElem?_map, e3] at hi
    cases hi
    obtain ⟨F2, x2, rp2, f2⟩ := rp.own_tup e2
    exact ⟨φ', F2, x2, rp2, q, _, rfl, f2, key_vals (gk p (List.mem_of_getElem? e3))⟩
  stop := fun φ' F' s' H' e rp st => ⟨rp.fz _ _ (e.f _ _ hf), by show xs.length ≤ _; rw [List.length_map, rks_len hk]; exact Nat.le_refl _⟩
theorem s_forK {tg e : Expr} {b : List Stmt} {t : Tg} {c : Ex} {cb : List Stm} {pos : Pos} (hp : PassesOwn (model X.prog X.w) X.A X.env X.xe) (hc : X.calm = true) (he : PE X e (tE B W C c)) (hg : PG X tg (gT B.K t)) (hb : PSs X b (tS B W (Ab.execs C cb))) (hs : noSet e = true) :
    PS X (.For tg e b [] pos) (tS B W (Ab.exec C (.forK t c cb))) :=
  PS_imp (ps_lock (ps_for hp hc (pi_keys he) hg hb (folded_of hs))) fun D σ H ⟨φ, F, en, s, rp, re, o⟩ => by
    have o1 : SOut B W φ F H (Ab.forKeys (Ab.ev C c en) (fun v en s => match Ab.bindT t v en with
      | some en1 => Ab.execs C cb en1 s
      | none => none) en s) D := o
    unfold Ab.forKeys at o1
    split at o1
    · rename_i l s0 e0
      split at o1
      · rename_i kvs e1
        obtain ⟨d, ho, hd, g1, xs, rfl, hk, gk⟩ := rp.obj l _ e1
        refine ⟨d, .dT xs, g1, trivial, fun od => ?_⟩
        obtain ⟨fd, le, rp1⟩ := lock_ok rp hd e1 g1 hk gk od
        split at o1
        · rename_i l' s1 e2
          split at o1
          · rename_i hl
            subst hl
            refine tM_in (rel := RV B) rp1 (re.mono le) (Out.of e2 ?_)
            rintro φ2 F2 x H2 x2 rp2 ⟨a, rfl, ha⟩
            have : a = d := by
              have := x2.le.p _ _ hd
              rw [ha] at this
              exact Option.some.inj this
            subst this
            have f2 : F2 a = some (.frz od (.dT xs)) := x2.le.f _ _ upd_same
            refine ⟨a, od, rfl, .inr ⟨xs, rp2.fz _ _ f2, ?_⟩⟩
            refine loop_go (w := (kvs.map fun p => Ab.keyV p.1, none)) rp2 (re.mono (le.trans x2.le)) (wk_keys f2 (hk.mono (le.trans x2.le)) gk) ?_
            revert o1
            show SOut B W φ F H (match Ab.forL none _ (kvs.map fun p => Ab.keyV p.1) en s1 with
              | some (.next, en2, s2) => _
              | some (.ret v, en2, s2) => _
              | _ => none) D → SOut B W φ2 F2 H2 (Ab.forL none _ (kvs.map fun p => Ab.keyV p.1) en s1) _
            cases Ab.forL none (fun v en s => match Ab.bindT t v en with
              | some en1 => Ab.execs C cb en1 s
              | none => none) (kvs.map fun p => Ab.keyV p.1) en s1 with
            | none => exact fun h => h
            | some q =>
              obtain ⟨r, en3, s3⟩ := q
              cases r with
              | next =>
                intro o2 φ3 F3 σ3 H3 x3 rp3 re3
                cases e4 : Ab.unlock l' s3 with
                | none => simp only [e4, Option.map_none] at o2; exact o2.elim
                | some s4 =>
                  simp only [e4, Option.map_some] at o2
                  obtain ⟨u1, lk, u2, u3⟩ := unlock_ok rp hd fd g1 rp3 (x2.trans x3) e4
                  exact ⟨u1, o2 _ _ _ _ u2 u3 (re3.del lk)⟩
              | ret v =>
                intro o2 φ3 F3 y H3 x3 rp3 r3
                cases e4 : Ab.unlock l' s3 with
                | none => simp only [e4, Option.map_none] at o2; exact o2.elim
                | some s4 =>
                  simp only [e4, Option.map_some] at o2
                  obtain ⟨u1, lk, u2, u3⟩ := unlock_ok rp hd fd g1 rp3 (x2.trans x3) e4
                  exact ⟨u1, o2 _ _ _ _ u2 u3 (r3.del lk)⟩
              | brk => exact fun h => h.elim
              | cont => exact fun h => h.elim
              | err x => exact fun h => h.elim
          · exact o1.elim
        · exact o1.elim
      · exact o1.elim
    · exact o1.elim
end Sn
end
section
set_option Elab.async false
set_option linter.all false
set_option autoImplicit false
set_option maxRecDepth 100000
set_option maxHeartbeats 4000000
/-! The code of the machine against the program's text: a test, and what it shows. -/
namespace Sn
open PySem L2
open Ab (Val SO Sto Exc R toD toDs BM BI Ex Stm Tg Walk SR)
/-- the names of a program: defs, classes, methods, attributes -/
structure Sta where
  fns : List (Option Str)
  cls : List Str
  mts : List Str
  flds : List Str
  mds : List (Nat × Str)
/-- a block as it is written: the slots' names, the scope, the captured names of its own -/
structure Fr where
  N : List Str
  sc : Scope
  fc : Str → Bool
namespace Fr
def vis (r : Fr) (x : Str) : Bool := match r.sc.names.lookup x with
  | some .local => true
  | some .cell => true
  | some .free => true
  | _ => false
def loc (r : Fr) (x : Str) : Bool := match r.sc.names.lookup x with
  | some .local => true
  | some .cell => true
  | _ => false
def sets (r : Fr) (x : Str) : Bool := r.loc x && (r.fc x || decide (r.sc.names.lookup x = some .local))
def glb (r : Fr) (x : Str) : Bool := decide (r.sc.names.lookup x = some .globalImplicit)
def blk (r : Fr) (scope : Scope) : Fr := ⟨r.N, relS scope r.sc, fun x => decide (scope.names.lookup x = some .cell)⟩
end Fr
def bug (x : Str) : Bool := x == ("__debug__" : Str)
def bug2 (x : Str) : Bool := x == ("__classdict__" : Str)
/-- constants -/
def mK : Val → Expr → Bool
  | .non, e => match e with
    | .Constant .none _ _ => true
    | _ => false
  | .bl b, e => match e with
    | .Constant (.bool c) _ _ => b == c
    | _ => false
  | .int i, e => match e with
    | .Constant (.int j) _ _ => decide (i = j)
    | .UnaryOp .USub (.Constant (.int j) _ _) _ => decide (i = -j)
    | _ => false
  | .str t, e => match e with
    | .Constant (.str x) _ _ => decide (x = str t) && t.all fun c => decide (c < 1114112)
    | _ => false
  | _, _ => false
/-- names that are set -/
def mN (r : Fr) : List Nat → List Expr → Bool
  | [], [] => true
  | i :: is, .Name x _ :: es => decide (r.N[i]? = some x) && r.sets x && mN r is es
  | _, _ => false
def mG (r : Fr) : Tg → Expr → Bool
  | .name i, e => match e with
    | .Name x _ => decide (r.N[i]? = some x) && r.sets x
    | _ => false
  | .names is, e => match e with
    | .Tuple es _ _ => mN r is es
    | _ => false
/-- the names of a comprehension's own -/
def ownOf (N : List Str) (ws : List Nat) : List (Str × Nat) := ws.map fun i => (N[i]?.getD ⟨#[]⟩, i)
def blkB (N : List Str) (sc scope : Scope) (ws : List Nat) : Bool :=
  decide (scope.kind = .function) && (scope.names.all fun y => decide (scope.names.lookup y.1 = some y.2)) && ((ownOf N ws).all fun p => decide (N[p.2]? = some p.1)) &&
  (scope.names.all fun y => !decide (y.2 = .free) || decide (sc.names.lookup y.1 = some .cell) || decide (sc.names.lookup y.1 = some .free)) &&
  (scope.names.all fun y => !(decide (y.2 = .local) || decide (y.2 = .cell)) || decide (y.1 ∈ (ownOf N ws).map (·.1)) || !decide (y.1 ∈ N))
theorem blk_of {N : List Str} {sc scope : Scope} {ws : List Nat} (h : blkB N sc scope ws = true) : BlkOk N sc scope (ownOf N ws) := by
  simp only [blkB, Bool.and_eq_true, decide_eq_true_eq, List.all_eq_true, Bool.or_eq_true, Bool.not_eq_true', decide_eq_false_iff_not, Bool.or_eq_false_iff] at h
  obtain ⟨⟨⟨⟨h1, h2⟩, h3⟩, h4⟩, h5⟩ := h
  refine ⟨h1, h2, h3, fun y hy e => ?_, fun y hy e => ?_⟩
  · rcases h4 y hy with (a | a) | a
    · exact absurd e a
    · exact .inl a
    · exact .inr a
  · rcases h5 y hy with (a | a) | a
    · rcases e with e | e
      · exact absurd e a.1
      · exact absurd e a.2
    · exact .inl a
    · exact .inr a
theorem own_map (N : List Str) (ws : List Nat) : (ownOf N ws).map (·.2) = ws := by
  induction ws with
  | nil => rfl
  | cons w ws ih =>
    show w :: (ownOf N ws).map (·.2) = w :: ws
    rw [ih]
def cutA : BM → Bool
  | .join => true
  | _ => false
mutual
/-- code and an expression (t: as a test) -/
def mE (S : Sta) : Bool → Ex → Fr → Expr → Bool
  | t, .var i, r, e => (!t || plainT e) && match e with
    | .Name x _ => decide (r.N[i]? = some x) && r.vis x && !bug x && !bug2 x
    | _ => false
  | t, .cst v, r, e => (!t || plainT e) && mK v e
  | t, .bin op m a b, r, e => (!t || plainT e) && match e with
    | .BinOp x o y _ => decide (o = opB op) && mE S false a r x && mE S false b r y
    | _ => false
  | _, .cmp op a b, r, e => match e with
    | .Compare x [o] [y] _ => decide (o = opC op) && noSet y && mE S false a r x && mE S false b r y
    | _ => false
  | _, .isN n a, r, e => match e with
    | .Compare x [o] [.Constant .none _ _] _ => decide (o = isOp n) && mE S false a r x
    | _ => false
  | t, .andE a b, r, e => match e with
    | .BoolOp .And (x :: y :: l) p => mE S t a r x && (match l with
      | [] => mE S t b r y
      | z :: l => mE S t b r (.BoolOp .And (y :: z :: l) p))
    | _ => false
  | t, .orE a b, r, e => match e with
    | .BoolOp .Or (x :: y :: l) p => mE S t a r x && (match l with
      | [] => mE S t b r y
      | z :: l => mE S t b r (.BoolOp .Or (y :: z :: l) p))
    | _ => false
  | t, .notE a, r, e => match e with
    | .UnaryOp .Not x _ => mE S t a r x
    | _ => false
  | t, .ite c a b, r, e => !t && match e with
    | .IfExp x y z _ => mE S true c r x && mE S false a r y && mE S false b r z
    | _ => false
  | t, .tup cs, r, e => (!t || plainT e) && match e with
    | .Tuple es _ _ => mEs S cs r es
    | _ => false
  | t, .lst m cs, r, e => (!t || plainT e) && match e with
    | .List es _ => mEs S cs r es
    | _ => false
  | t, .dS ks vs, r, e => (!t || plainT e) && match e with
    | .Dict [] [] _ => ks.isEmpty && vs.isEmpty
    | _ => false
  | t, .dT, r, e => (!t || plainT e) && match e with
    | .Dict [] [] _ => true
    | _ => false
  | t, .item a i, r, e => (!t || plainT e) && match e with
    | .Subscript x y _ => noSlice y && mE S false a r x && mE S false i r y
    | _ => false
  | t, .slice m a lo hi, r, e => (!t || plainT e) && match e with
    | .Subscript x (.Slice l h none _) _ => mE S false a r x && mO S lo r l && mO S hi r h
    | _ => false
  | t, .fld a f, r, e => (!t || plainT e) && match e with
    | .Attribute x n _ => decide (S.flds[f]? = some n) && noSup x && mE S false a r x
    | _ => false
  | t, .bi b m cs, r, e => (!t || plainT e) && match e with
    | .Call (.Name n _) es [] _ => r.glb n && (match isIs b with
      | true => decide (n = "isinstance") && (match es with
        | [x, .Name k _] => decide (k = (kindOf b : Str)) && r.glb k && mEs S cs r [x]
        | _ => false)
      | false => biOk b && decide (n = biName b) && !es.isEmpty && mEs S cs r es)
    | _ => false
  | t, .bm b o cs, r, e => (!t || plainT e) && match e with
    | .Call (.Attribute x n p) es [] q => (p.endLine == q.line) && noSup x && decide (n = bmName b) && mE S false o r x && mEs S cs r es && decide (es.length < 28) && (match b with
      | .join => decide (es.length = 1)
      | .get1 => decide (es.length = 1)
      | .get2 => decide (es.length = 2)
      | b => (isL1 b && !es.isEmpty) || (isL0 b && es.isEmpty))
    | _ => false
  | t, .call f cs, r, e => (!t || plainT e) && match e with
    | .Call (.Name n _) es [] _ => decide (S.fns[f]? = some (some n)) && r.glb n && !bug n && mEs S cs r es
    | _ => false
  | t, .mk c cs, r, e => (!t || plainT e) && match e with
    | .Call (.Name n _) es [] _ => decide (S.cls[c]? = some n) && r.glb n && !bug n && mEs S cs r es
    | _ => false
  | t, .meth m o cs, r, e => (!t || plainT e) && match e with
    | .Call (.Attribute x n p) es [] q => (p.endLine == q.line) && noSup x && decide (S.mts[m]? = some n) && mE S false o r x && mEs S cs r es && decide (es.length < 28)
    | _ => false
  | t, .methD m o cs, r, e => (!t || plainT e) && match e with
    | .Call (.Attribute x n p) es [] q => (p.endLine == q.line) && noSup x && decide (S.mts[m]? = some n) && mE S false o r x && mEs S cs r es && decide (es.length < 28) && !es.isEmpty && S.mds.any fun y => y.1 == m
    | _ => false
  | t, .methK m o cs c, r, e => (!t || plainT e) && match e with
    | .Call (.Attribute x n p) es [⟨some y, z, _⟩] q => (p.endLine == q.line) && noSup x && decide (S.mts[m]? = some n) && mE S false o r x && mEs S cs r es && decide (es.length < 28) && !es.isEmpty && decide ((m, y) ∈ S.mds) && mE S false c r z
    | _ => false
  | t, .comp m elt tg it cond ws, r, e => (!t || plainT e) && match e with
    | .ListComp x [⟨g, i, ifs, a⟩] scope _ => decide (a = 0) && blkB r.N r.sc scope ws && noSet i && ((slots tg).all fun j => decide (j ∈ ws)) && mI S it r i && mG (r.blk scope) tg g && mC S cond (r.blk scope) ifs && mE S false elt (r.blk scope) x
    | _ => false
  | _, _, _, _ => false
def mEs (S : Sta) : List Ex → Fr → List Expr → Bool
  | [], _, es => es.isEmpty
  | c :: cs, r, es => match es with
    | e :: l => noStar e && mE S false c r e && mEs S cs r l
    | [] => false
def mO (S : Sta) : Option Ex → Fr → Option Expr → Bool
  | none, _, e => e.isNone
  | some c, r, e => match e with
    | some e => mE S false c r e
    | none => false
def mC (S : Sta) : Option Ex → Fr → List Expr → Bool
  | none, _, es => es.isEmpty
  | some c, r, es => match es with
    | [e] => mE S true c r e
    | _ => false
def mI (S : Sta) : Ab.It → Fr → Expr → Bool
  | .val c, r, e => mE S false c r e
  | .rng1 c, r, e => match e with
    | .Call (.Name n _) [x] [] _ => decide (n = "range") && r.glb n && noStar x && mE S false c r x
    | _ => false
  | .rng2 c d, r, e => match e with
    | .Call (.Name n _) [x, y] [] _ => decide (n = "range") && r.glb n && noStar x && noStar y && mE S false c r x && mE S false d r y
    | _ => false
  | _, _, _ => false
end
end Sn
end
section
set_option Elab.async false
set_option linter.all false
set_option autoImplicit false
set_option maxRecDepth 100000
set_option maxHeartbeats 4000000
/-! What the test of SnJ shows, of expressions. -/
namespace Sn
open PySem L2
open Ab (Val SO Sto Exc R toD toDs BM BI Ex Stm Tg Walk SR)
/-- the names of built-ins that a program may use here -/
def builtins : List Str := ["len", "list", "tuple", "sorted", "all", "any", "int", "max", "min", "isinstance", "bool", "str", "range", "set", "zip", "enumerate", "reversed"]
/-- what is known where code of level k + 1 runs -/
structure Gd (S : Sta) (B : Bs) (X : Cx) (W : WX) (C : Ab.Ctx) (k : Nat) (r : Fr) : Prop where
  K : X.K = B.K
  calm : X.calm = true
  nd : X.N.Nodup
  N : X.N = r.N
  sc : X.env.scope = r.sc
  fc : ∀ x, r.fc x = true → X.fn x = true
  tk : Takes X W
  fl : Flat W
  rm : Room (k + 1) X.A
  cl : ClsOk B B.K
  fld : ∀ (i : Nat) x, S.flds[i]? = some x → B.fld i = x ∧ B.okF i = true
  bi : ∀ b ∈ builtins, X.mg b = none
  fn : ∀ (f : Nat) x, S.fns[f]? = some (some x) → ∃ a, X.mg x = some (.ref a) ∧ PySem.W.keepIn X.K (.ref a) = true ∧ FnAt B X (k + 1) C.call f a
  cs : ∀ (c : Nat) x, S.cls[c]? = some x → B.okC c = true ∧ X.mg x = some (.ref (B.A c)) ∧ ∃ a, Mk X.K (B.A c) a ∧ FnAt B X k C.init (C.T.init c) a
  mt : ∀ (m : Nat) x, S.mts[m]? = some x → MthOk B X (k + 1) C m x
  md : ∀ (m : Nat) x y, (m, y) ∈ S.mds → S.mts[m]? = some x → Mth1 B X (k + 1) C m x y
variable {S : Sta} {B : Bs} {X : Cx} {W : WX} {C : Ab.Ctx} {k : Nat} {r : Fr}
/-- in a comprehension's block -/
theorem Gd.blk (g : Gd S B X W C k r) (s : Shared) (H : Hp) (scope : Scope) (cl : List (Str × Addr)) (Cc : Addr) (fp : List Addr) : Gd S B (X.blk s H scope (compEnvC scope cl Cc X.env) fp) W0 C k (r.blk scope) where
  K := g.K
  calm := g.calm
  nd := g.nd
  N := g.N
  sc := by show relS scope X.env.scope = relS scope r.sc; rw [g.sc]
  fc := fun x h => by
    have h' : scope.names.lookup x = some .cell := of_decide_eq_true h
    show (scope.names.lookup x == some .cell) = true
    rw [h']
    rfl
  tk := takes0
  fl := fun _ _ _ _ _ h => h
  rm := g.rm
  cl := g.cl
  fld := g.fld
  bi := g.bi
  fn := fun f x h => let ⟨a, h1, h2, h3⟩ := g.fn f x h; ⟨a, h1, h2, ⟨h3.ok⟩⟩
  cs := fun c x h => let ⟨h0, h1, a, h2, h3⟩ := g.cs c x h; ⟨h0, h1, a, h2, ⟨h3.ok⟩⟩
  mt := fun m x h => let M := g.mt m x h; ⟨M.cl, M.nf, fun c f h1 h2 => let ⟨a, h3, h4⟩ := M.at_ c f h1 h2; ⟨a, h3, ⟨h4.ok⟩⟩⟩
  md := fun m x y h0 h => let M := g.md m x y h0 h; ⟨M.cl, M.nf, fun c f h1 h2 => let ⟨a, h3, h4⟩ := M.at_ c f h1 h2; ⟨a, h3, ⟨h4.ok⟩⟩⟩
theorem Gd.vis (g : Gd S B X W C k r) {x : Str} (h : r.vis x = true) : Vis X.env.scope x := by
  unfold Vis
  rw [g.sc]
  unfold Fr.vis at h
  split at h
  · exact .inl ‹_›
  · exact .inr (.inl ‹_›)
  · exact .inr (.inr ‹_›)
  · cases h
theorem Gd.gl (g : Gd S B X W C k r) {x : Str} (h : r.glb x = true) : Gl X x := by
  show X.env.scope.names.lookup x = some .globalImplicit
  rw [g.sc]
  exact of_decide_eq_true h
theorem Gd.sets (g : Gd S B X W C k r) {x : Str} (h : r.sets x = true) : L2.Loc X.env.scope x ∧ (X.fn x = true ∨ X.env.scope.names.lookup x = some .local) := by
  unfold Fr.sets at h
  simp only [Bool.and_eq_true, Bool.or_eq_true, decide_eq_true_eq] at h
  refine ⟨?_, ?_⟩
  · unfold L2.Loc
    rw [g.sc]
    have h1 := h.1
    unfold Fr.loc at h1
    split at h1
    · exact .inl ‹_›
    · exact .inr ‹_›
    · cases h1
  · rw [g.sc]
    exact h.2.imp (g.fc x) id
theorem Gd.units (g : Gd S B X W C k r) : X.A.units + 66 < cLine := by have := g.rm.un; omega
theorem not_bug {x : Str} (h : (!bug x) = true) : (x == ("__debug__" : Str)) = false := by simpa [bug] using h
theorem not_bug2 {x : Str} (h : (!bug2 x) = true) : (x == ("__classdict__" : Str)) = false := by simpa [bug2] using h
/-- what is shown of an expression: as a value; as a test -/
def Shown (B : Bs) (X : Cx) (W : WX) (C : Ab.Ctx) (t : Bool) (c : Ex) (e : Expr) : Prop := match t with
  | false => PE X e (tE B W C c)
  | true => PT X e (tT B W C c)
theorem shown_of {t : Bool} {c : Ex} {e : Expr} (h : PE X e (tE B W C c)) (hp : (!t || plainT e) = true) : Shown B X W C t c e := by
  cases t with
  | false => exact h
  | true => exact t_of h (by simpa using hp)
/-! ### leaves -/
theorem k_ok {v : Val} {e : Expr} (h : mK v e = true) : PE X e (tE B W C (.cst v)) := by
  cases v with
  | non =>
    simp only [mK] at h
    split at h
    · exact cst_of pe_non fun _ _ => rfl
    · cases h
  | bl b =>
    simp only [mK] at h
    split at h
    · rw [show b = _ from by simpa using h]
      exact cst_of pe_bl fun _ _ => rfl
    · cases h
  | int i =>
    simp only [mK] at h
    split at h
    · rw [show i = _ from of_decide_eq_true h]
      exact cst_of pe_int fun _ _ => rfl
    · rw [show i = _ from of_decide_eq_true h]
      refine cst_of (PE_imp (pe_un un_neg pe_int) fun σ H Q q => ⟨_, rfl, q⟩) fun _ _ => rfl
    · cases h
  | str t =>
    simp only [mK] at h
    split at h
    · simp only [Bool.and_eq_true, decide_eq_true_eq, List.all_eq_true] at h
      rw [h.1]
      exact cst_of pe_str fun _ _ => ⟨rfl, h.2⟩
    · cases h
  | _ => simp [mK] at h
theorem nms_ok (g : Gd S B X W C k r) : ∀ {is : List Nat} {es : List Expr}, mN r is es = true → ∃ xs, namesOf es = some xs ∧ xs.length = is.length ∧ es.length = is.length ∧
    ∀ (j : Nat) x i, xs[j]? = some x → is[j]? = some i → X.N[i]? = some x ∧ L2.Loc X.env.scope x ∧ (X.fn x = true ∨ X.env.scope.names.lookup x = some .local)
  | [], [], _ => ⟨[], rfl, rfl, rfl, fun j x i h => by simp at h⟩
  | [], _ :: _, h => by simp [mN] at h
  | _ :: _, [], h => by simp [mN] at h
  | i :: is, e :: es, h => by
    cases e with
    | Name x p =>
      simp only [mN, Bool.and_eq_true, decide_eq_true_eq] at h
      obtain ⟨xs, h1, h2, h3, h4⟩ := nms_ok g h.2
      refine ⟨x :: xs, by simp [namesOf, h1], by simp [h2], by simp [h3], fun j y l e1 e2 => ?_⟩
      cases j with
      | zero =>
        simp at e1 e2
        subst e1
        subst e2
        exact ⟨by rw [g.N]; exact h.1.1, g.sets h.1.2⟩
      | succ j => exact h4 j y l (by simpa using e1) (by simpa using e2)
    | _ => simp [mN] at h
theorem g_ok (g : Gd S B X W C k r) {t : Tg} {e : Expr} (h : mG r t e = true) : PG X e (gT B.K t) := by
  cases t with
  | name i =>
    simp only [mG] at h
    split at h
    · simp only [Bool.and_eq_true, decide_eq_true_eq] at h
      obtain ⟨h1, h2⟩ := g.sets h.2
      exact g_name g.nd (by rw [g.N]; exact h.1) h1 h2
    · cases h
  | names is =>
    simp only [mG] at h
    split at h
    · obtain ⟨xs, h1, h2, h3, h4⟩ := nms_ok g h
      exact g_names g.K g.calm g.nd h1 h2 h3 h4
    · cases h
/-! ### tests of comparisons -/
theorem t_cmp2 {a b : Expr} {ca cb : Ex} {pos : Pos} {op : Ab.COp} (hK : X.K = B.K) (hu : X.A.units + 66 < cLine) (ha : PE X a (tE B W C ca)) (hb : PE X b (tE B W C cb)) (hs : noSet b = true) : PT X (.Compare a [opC op] [b] pos) (tT B W C (.cmp op ca cb)) :=
  t_cmp (op_cmp hu op) ha hb (mark_of hs) fun σ H Q ⟨φ, F, en, s, rp, re, o⟩ =>
    tM_then (rel := RV B) rp re o fun φ1 F1 H1 a s1 x le rp1 re1 r o1 => tM_then (rel := RV B) rp1 re1 o1 fun φ2 F2 H2 b s2 y le2 rp2 re2 r2 o2 => by
      rw [hK]
      exact cmp_ok rp2 (r.mono le2.le) r2 o2
/-- None or not -/
def nonB : Val → Bool
  | .non => true
  | _ => false
theorem non_or {φ : List Addr} {F : Hp} {x : V} : ∀ {v : Val}, RV B φ F v x → (decide (x = V.non)) = nonB v
  | .non, h => by rw [show x = _ from h]; rfl
  | .bl _, h => by rw [show x = _ from h]; rfl
  | .int _, h => by rw [show x = _ from h]; rfl
  | .str _, h => by rw [h.1]; rfl
  | .tup _, h => by obtain ⟨a, xs, rfl, _⟩ := h; rfl
  | .lst _, h => by obtain ⟨a, xs, rfl, _⟩ := h; rfl
  | .loc _, h => by obtain ⟨a, rfl, _⟩ := h; rfl
  | .scr _, h => by obtain ⟨a, rfl, _⟩ := h; rfl
  | .exc _ _, h => h.elim
theorem t_isN {a : Expr} {ca : Ex} {pos p : Pos} {j : Nat} {n : Bool} (ha : PE X a (tE B W C ca)) : PT X (.Compare a [isOp n] [.Constant .none j p] pos) (tT B W C (.isN n ca)) := by
  cases n with
  | false =>
    refine t_cmp op_isN ha pe_non (mark_of rfl) fun σ H Q ⟨φ, F, en, s, rp, re, o⟩ => tM_then (rel := RV B) rp re o fun φ1 F1 H1 v s1 x le rp1 re1 r o1 => ⟨rfl, ?_⟩
    rw [non_or r]
    cases v <;> exact Out.now o1 rp1 rfl
  | true =>
    refine t_cmp op_notN ha pe_non (mark_of rfl) fun σ H Q ⟨φ, F, en, s, rp, re, o⟩ => tM_then (rel := RV B) rp re o fun φ1 F1 H1 v s1 x le rp1 re1 r o1 => ⟨rfl, ?_⟩
    rw [non_or r]
    cases v <;> exact Out.now o1 rp1 rfl
/-! ### a list is empty, or it is not -/
theorem cs_nil {cs : List Ex} {r : Fr} (h : mEs S cs r [] = true) : cs = [] := by
  cases cs with
  | nil => rfl
  | cons c cs => simp [mEs] at h
theorem stars_of : ∀ {cs : List Ex} {es : List Expr}, mEs S cs r es = true → es.all noStar = true
  | [], es, h => by
    simp only [mEs, List.isEmpty_iff] at h
    rw [h]
    rfl
  | c :: cs, es, h => by
    cases es with
    | nil => simp [mEs] at h
    | cons e l =>
      simp only [mEs, Bool.and_eq_true] at h
      simp only [List.all_cons, Bool.and_eq_true]
      exact ⟨h.1.1, stars_of h.2⟩
theorem len_of : ∀ {cs : List Ex} {es : List Expr}, mEs S cs r es = true → cs.length = es.length
  | [], es, h => by
    simp only [mEs, List.isEmpty_iff] at h
    rw [h]
    rfl
  | c :: cs, es, h => by
    cases es with
    | nil => simp [mEs] at h
    | cons e l =>
      simp only [mEs, Bool.and_eq_true] at h
      simp only [List.length_cons, len_of h.2]
theorem bi_in {b : BI} (h : biOk b = true) : biName b ∈ builtins := by
  cases b <;> first | (cases h; done) | (simp only [biName]; decide +kernel)
theorem kind_in {b : BI} (h : isIs b = true) : (kindOf b : Str) ∈ builtins := by
  cases b <;> first | (cases h; done) | (simp only [kindOf]; decide +kernel)
theorem is_in : ("isinstance" : Str) ∈ builtins := by decide +kernel
theorem range_in : ("range" : Str) ∈ builtins := by decide +kernel
end Sn
end
section
set_option Elab.async false
set_option linter.all false
set_option autoImplicit false
set_option maxRecDepth 100000
set_option maxHeartbeats 4000000
/-! The test of SnJ shows what it is to show: expressions. -/
namespace Sn
open PySem L2
open Ab (Val SO Sto Exc R toD toDs BM BI Ex Stm Tg Walk SR)
variable {S : Sta} {B : Bs} {C : Ab.Ctx} {k : Nat}
/-- calls of built-ins -/
theorem bi_shown {X : Cx} {W : WX} {r : Fr} {b : BI} {m : Bool} {cs : List Ex} {e : Expr} (g : Gd S B X W C k r) (h : mE S false (.bi b m cs) r e = true) (ih : ∀ es, mEs S cs r es = true → PA X es (tEs B W C cs)) (ih1 : ∀ c x, cs = [c] → mE S false c r x = true → PE X x (tE B W C c)) :
    PE X e (tE B W C (.bi b m cs)) := by
  simp only [mE, Bool.not_false, Bool.true_or, Bool.true_and] at h
  split at h
  · rename_i n p es q
    simp only [Bool.and_eq_true] at h
    obtain ⟨hg, h⟩ := h
    split at h
    · rename_i hb
      simp only [Bool.and_eq_true, decide_eq_true_eq] at h
      obtain ⟨rfl, h⟩ := h
      split at h
      · rename_i x kn p2
        simp only [Bool.and_eq_true, decide_eq_true_eq] at h
        obtain ⟨⟨rfl, hg2⟩, h⟩ := h
        cases cs with
        | nil => simp [mEs] at h
        | cons c cs =>
          simp only [mEs, Bool.and_eq_true] at h
          obtain ⟨⟨h1, h2⟩, h3⟩ := h
          have hc := cs_nil h3
          subst hc
          exact e_is g.K hb (g.gl hg) (g.bi _ is_in) (g.gl hg2) (g.bi _ (kind_in hb)) (ih1 c x rfl h2) h1
      · cases h
    · simp only [Bool.and_eq_true, decide_eq_true_eq] at h
      obtain ⟨⟨⟨h1, rfl⟩, h2⟩, h3⟩ := h
      cases es with
      | nil => cases h2
      | cons e es => exact e_bi g.K g.calm (by have := g.units; omega) h1 (g.gl hg) (g.bi _ (bi_in h1)) (ih _ h3) (stars_of h3)
  · cases h
/-- built-in methods -/
theorem bm_shown {X : Cx} {W : WX} {r : Fr} {b : BM} {o : Ex} {cs : List Ex} {e : Expr} (g : Gd S B X W C k r) (h : mE S false (.bm b o cs) r e = true) (iho : ∀ x, mE S false o r x = true → PE X x (tE B W C o)) (ih : ∀ es, mEs S cs r es = true → PA X es (tEs B W C cs))
    (ih1 : ∀ (j : Nat) c x, cs[j]? = some c → mE S false c r x = true → PE X x (tE B W C c)) : PE X e (tE B W C (.bm b o cs)) := by
  simp only [mE, Bool.not_false, Bool.true_or, Bool.true_and] at h
  split at h
  · rename_i x n p es q
    simp only [Bool.and_eq_true, decide_eq_true_eq] at h
    obtain ⟨⟨⟨⟨⟨⟨hp, hs⟩, rfl⟩, ho⟩, ha⟩, hl⟩, hk⟩ := h
    have ho := iho _ ho
    have st := stars_of ha
    have plain : ((isL1 b && !es.isEmpty) || (isL0 b && es.isEmpty)) = true → PE X (.Call (.Attribute x (bmName b) p) es [] q) (tE B W C (.bm b o cs)) := fun hk => by
      rcases Bool.or_eq_true .. |>.mp hk with hk | hk
      · simp only [Bool.and_eq_true] at hk
        cases es with
        | nil => cases hk.2
        | cons e es => exact e_l1 g.K hk.1 ho (ih _ ha) hs st hl hp
      · simp only [Bool.and_eq_true, List.isEmpty_iff] at hk
        obtain ⟨h1, rfl⟩ := hk
        rw [cs_nil ha]
        exact e_l0 g.K h1 ho hs hp
    cases b with
    | join =>
      have hk : es.length = 1 := of_decide_eq_true hk
      match es, cs, hk, ha with
      | [e], [], _, ha => simp [mEs] at ha
      | [e], [c], _, ha => exact e_join g.K ho (ih _ ha) hs (by simpa using st) hp
      | [e], _ :: _ :: _, _, ha => simp [mEs] at ha
    | get1 =>
      have hk : es.length = 1 := of_decide_eq_true hk
      match es, cs, hk, ha with
      | [e], [], _, ha => simp [mEs] at ha
      | [e], [c], _, ha =>
        simp only [mEs, Bool.and_eq_true] at ha
        exact e_get1 (by have := g.units; omega) ho (ih1 0 c e rfl ha.1.2) hs ha.1.1 hp
      | [e], _ :: _ :: _, _, ha => simp [mEs] at ha
    | get2 =>
      have hk : es.length = 2 := of_decide_eq_true hk
      match es, cs, hk, ha with
      | [e, f], [], _, ha => simp [mEs] at ha
      | [e, f], [_], _, ha => simp [mEs] at ha
      | [e, f], [c, d], _, ha =>
        simp only [mEs, Bool.and_eq_true] at ha
        exact e_get2 (by have := g.units; omega) ho (ih1 0 c e rfl ha.1.2) (ih1 1 d f rfl ha.2.1.2) hs ha.1.1 ha.2.1.1 hp
      | [e, f], _ :: _ :: _ :: _, _, ha => simp [mEs] at ha
    | _ => exact plain hk
  · cases h
/-- a comprehension's parts -/
theorem parts_of {X : Cx} {W : WX} {r : Fr} {celt : Ex} {tg : Tg} {it : Ab.It} {cond : Option Ex} {ws : List Nat} {x gt i : Expr} {ifs : List Expr} {scope : Scope} (g : Gd S B X W C k r) (hb : blkB r.N r.sc scope ws = true) (hi : noSet i = true) (hs : ((slots tg).all fun j => decide (j ∈ ws)) = true) (hg : mG (r.blk scope) tg gt = true)
    (ihI : PI X gt i (tI B W C it)) (ihC : ∀ {X' : Cx}, Gd S B X' W0 C k (r.blk scope) → PTs X' ifs (tC' B W0 C cond)) (ihE : ∀ {X' : Cx}, Gd S B X' W0 C k (r.blk scope) → PE X' x (tE B W0 C celt)) :
    Parts B X W C x gt i ifs scope (ownOf r.N ws) celt tg it cond ws where
  hK := g.K
  calm := g.calm
  nd := g.nd
  it := ihI
  blk := by
    have := blk_of hb
    rw [g.N, g.sc]
    exact this
  own := own_map _ _
  sub := fun j hj => of_decide_eq_true (List.all_eq_true.mp hs j hj)
  tg := fun s H Cc cl fp => g_ok (g.blk s H scope cl Cc fp) hg
  cond := fun s H Cc cl fp => ihC (g.blk s H scope cl Cc fp)
  elt := fun s H Cc cl fp => ihE (g.blk s H scope cl Cc fp)
  noset := hi
/-- and, or: as values and as tests -/
def Shown2 (B : Bs) (X : Cx) (W : WX) (C : Ab.Ctx) (t : Bool) (c : Ex) (e : Expr) : Prop := match t with
  | false => PE X e (tE B W C c)
  | true => PW X e (tT B W C c)
theorem shown2 {X : Cx} {W : WX} {t : Bool} {c : Ex} {e : Expr} (h : Shown2 B X W C t c e) : Shown B X W C t c e := by
  cases t with
  | false => exact h
  | true => exact PW.pt h
theorem and_shown {X : Cx} {W : WX} {r : Fr} (a b : Ex) (iha : ∀ (t : Bool) e, mE S t a r e = true → Shown B X W C t a e) (ihb : ∀ (t : Bool) e, mE S t b r e = true → Shown B X W C t b e) (ihb2 : ∀ (t : Bool) x l p, mE S t b r (.BoolOp .And (x :: l) p) = true → Shown2 B X W C t b (.BoolOp .And (x :: l) p))
    {t : Bool} {e : Expr} (h : mE S t (.andE a b) r e = true) : ∃ x l p, e = .BoolOp .And (x :: l) p ∧ Shown2 B X W C t (.andE a b) e := by
  simp only [mE] at h
  split at h
  · rename_i x y l p
    simp only [Bool.and_eq_true] at h
    refine ⟨_, _, _, rfl, ?_⟩
    have ha := iha t x h.1
    have hb : Shown2 B X W C t b (.BoolOp .And (y :: l) p) := by
      split at h
      · have := ihb t y h.2
        cases t with
        | false => exact pe_one this
        | true => exact pw_and1 this
      · exact ihb2 t _ _ _ h.2
    cases t with
    | false => exact e_and ha hb
    | true => exact w_and ha hb
  · cases h
theorem or_shown {X : Cx} {W : WX} {r : Fr} (a b : Ex) (iha : ∀ (t : Bool) e, mE S t a r e = true → Shown B X W C t a e) (ihb : ∀ (t : Bool) e, mE S t b r e = true → Shown B X W C t b e) (ihb2 : ∀ (t : Bool) x l p, mE S t b r (.BoolOp .Or (x :: l) p) = true → Shown2 B X W C t b (.BoolOp .Or (x :: l) p))
    {t : Bool} {e : Expr} (h : mE S t (.orE a b) r e = true) : ∃ x l p, e = .BoolOp .Or (x :: l) p ∧ Shown2 B X W C t (.orE a b) e := by
  simp only [mE] at h
  split at h
  · rename_i x y l p
    simp only [Bool.and_eq_true] at h
    refine ⟨_, _, _, rfl, ?_⟩
    have ha := iha t x h.1
    have hb : Shown2 B X W C t b (.BoolOp .Or (y :: l) p) := by
      split at h
      · have := ihb t y h.2
        cases t with
        | false => exact pe_one this
        | true => exact pw_or1 this
      · exact ihb2 t _ _ _ h.2
    cases t with
    | false => exact e_or ha hb
    | true => exact w_or ha hb
  · cases h
/-- which codes are written with and, with or -/
def isAnd : Ex → Bool
  | .andE _ _ => true
  | _ => false
def isOr : Ex → Bool
  | .orE _ _ => true
  | _ => false
theorem and_only {t : Bool} {c : Ex} {r : Fr} {es : List Expr} {p : Pos} (h : mE S t c r (.BoolOp .And es p) = true) : isAnd c = true := by
  cases c <;> first | rfl | (simp [mE] at h; done) | (rename_i v; cases v <;> simp [mE, mK] at h)
theorem or_only {t : Bool} {c : Ex} {r : Fr} {es : List Expr} {p : Pos} (h : mE S t c r (.BoolOp .Or es p) = true) : isOr c = true := by
  cases c <;> first | rfl | (simp [mE] at h; done) | (rename_i v; cases v <;> simp [mE, mK] at h)
end Sn
end
section
set_option Elab.async false
set_option linter.all false
set_option autoImplicit false
set_option maxRecDepth 100000
set_option maxHeartbeats 4000000
/-! .. all expressions. -/
namespace Sn
open PySem L2
open Ab (Val SO Sto Exc R toD toDs BM BI Ex Stm Tg Walk SR)
section
variable {S : Sta} {B : Bs} {C : Ab.Ctx} {k : Nat}
mutual
theorem sE : ∀ (c : Ex) {X : Cx} {W : WX} {r : Fr} {t : Bool} {e : Expr}, Gd S B X W C k r → mE S t c r e = true → Shown B X W C t c e
  | .var i, X, W, r, t, e, g, h => by
    simp only [mE, Bool.and_eq_true] at h
    refine shown_of ?_ h.1
    have h := h.2
    split at h
    · simp only [Bool.and_eq_true, decide_eq_true_eq] at h
      exact e_var (by rw [g.N]; exact h.1.1.1) (g.vis h.1.1.2) (not_bug h.1.2) (not_bug2 h.2)
    · cases h
  | .cst v, X, W, r, t, e, g, h => by
    simp only [mE, Bool.and_eq_true] at h
    exact shown_of (k_ok h.2) h.1
  | .bin op m a b, X, W, r, t, e, g, h => by
    simp only [mE, Bool.and_eq_true] at h
    refine shown_of ?_ h.1
    have h := h.2
    split at h
    · simp only [Bool.and_eq_true, decide_eq_true_eq] at h
      obtain ⟨⟨rfl, h1⟩, h2⟩ := h
      exact e_bin g.K (sE a (t := false) g h1) (sE b (t := false) g h2)
    · cases h
  | .cmp op a b, X, W, r, t, e, g, h => by
    simp only [mE] at h
    split at h
    · simp only [Bool.and_eq_true, decide_eq_true_eq] at h
      obtain ⟨⟨⟨rfl, hs⟩, h1⟩, h2⟩ := h
      cases t with
      | false => exact e_cmp g.K g.units (sE a (t := false) g h1) (sE b (t := false) g h2) hs
      | true => exact t_cmp2 g.K g.units (sE a (t := false) g h1) (sE b (t := false) g h2) hs
    · cases h
  | .inK _ _ _, X, W, r, t, e, g, h => by simp [mE] at h
  | .listK _ _, X, W, r, t, e, g, h => by simp [mE] at h
  | .isN n a, X, W, r, t, e, g, h => by
    simp only [mE] at h
    split at h
    · simp only [Bool.and_eq_true, decide_eq_true_eq] at h
      obtain ⟨rfl, h1⟩ := h
      cases t with
      | false => exact e_isN (sE a (t := false) g h1)
      | true => exact t_isN (sE a (t := false) g h1)
    · cases h
  | .andE a b, X, W, r, t, e, g, h => by
    obtain ⟨_, _, _, rfl, h⟩ := sB (.andE a b) rfl g h
    exact shown2 h
  | .orE a b, X, W, r, t, e, g, h => by
    obtain ⟨_, _, _, rfl, h⟩ := sD (.orE a b) rfl g h
    exact shown2 h
  | .notE a, X, W, r, t, e, g, h => by
    simp only [mE] at h
    split at h
    · cases t with
      | false => exact e_not (sE a (t := false) g h)
      | true => exact t_not (sE a (t := true) g h)
    · cases h
  | .ite c a b, X, W, r, t, e, g, h => by
    simp only [mE, Bool.and_eq_true] at h
    cases t with
    | true => cases h.1
    | false =>
      have h := h.2
      split at h
      · simp only [Bool.and_eq_true] at h
        exact e_ite (sE c (t := true) g h.1.1) (sE a (t := false) g h.1.2) (sE b (t := false) g h.2)
      · cases h
  | .tup cs, X, W, r, t, e, g, h => by
    simp only [mE, Bool.and_eq_true] at h
    refine shown_of ?_ h.1
    have h := h.2
    split at h
    · exact e_tup (sEs cs g h)
    · cases h
  | .lst m cs, X, W, r, t, e, g, h => by
    simp only [mE, Bool.and_eq_true] at h
    refine shown_of ?_ h.1
    have h := h.2
    split at h
    · exact e_lst (sEs cs g h)
    · cases h
  | .dS ks vs, X, W, r, t, e, g, h => by
    simp only [mE, Bool.and_eq_true] at h
    refine shown_of ?_ h.1
    have h := h.2
    split at h
    · simp only [Bool.and_eq_true, List.isEmpty_iff] at h
      obtain ⟨rfl, rfl⟩ := h
      exact e_dS
    · cases h
  | .dT, X, W, r, t, e, g, h => by
    simp only [mE, Bool.and_eq_true] at h
    refine shown_of ?_ h.1
    have h := h.2
    split at h
    · exact e_dT
    · cases h
  | .item a i, X, W, r, t, e, g, h => by
    simp only [mE, Bool.and_eq_true] at h
    refine shown_of ?_ h.1
    have h := h.2
    split at h
    · simp only [Bool.and_eq_true] at h
      exact e_item g.K (by have := g.units; omega) (sE a (t := false) g h.1.2) (sE i (t := false) g h.2) h.1.1
    · cases h
  | .slice m a lo hi, X, W, r, t, e, g, h => by
    simp only [mE, Bool.and_eq_true] at h
    refine shown_of ?_ h.1
    have h := h.2
    split at h
    · simp only [Bool.and_eq_true] at h
      exact e_slice g.K (sE a (t := false) g h.1.1) (sO lo g h.1.2) (sO hi g h.2)
    · cases h
  | .fld a f, X, W, r, t, e, g, h => by
    simp only [mE, Bool.and_eq_true] at h
    refine shown_of ?_ h.1
    have h := h.2
    split at h
    · simp only [Bool.and_eq_true, decide_eq_true_eq] at h
      obtain ⟨⟨h1, h2⟩, h3⟩ := h
      rw [← (g.fld f _ h1).1]
      exact e_fld g.K g.cl (sE a (t := false) g h3) h2
    · cases h
  | .bi b m cs, X, W, r, t, e, g, h => by
    have h0 : (!t || plainT e) = true := by
      simp only [mE, Bool.and_eq_true] at h
      exact h.1
    have h1 : mE S false (.bi b m cs) r e = true := by
      simp only [mE, Bool.and_eq_true] at h
      simp only [mE, Bool.not_false, Bool.true_or, Bool.true_and]
      exact h.2
    refine shown_of (bi_shown g h1 (fun es he => sEs cs g he) fun c x hc hx => ?_) h0
    match cs, hc with
    | [c], rfl => exact sE c (t := false) g hx
  | .vals _ _, X, W, r, t, e, g, h => by simp [mE] at h
  | .bm b o cs, X, W, r, t, e, g, h => by
    have h0 : (!t || plainT e) = true := by
      simp only [mE, Bool.and_eq_true] at h
      exact h.1
    have h1 : mE S false (.bm b o cs) r e = true := by
      simp only [mE, Bool.and_eq_true] at h
      simp only [mE, Bool.not_false, Bool.true_or, Bool.true_and]
      exact h.2
    exact shown_of (bm_shown g h1 (fun x hx => sE o (t := false) g hx) (fun es he => sEs cs g he) fun j c x hc hx => sN cs hc g hx) h0
  | .call f cs, X, W, r, t, e, g, h => by
    simp only [mE, Bool.and_eq_true] at h
    refine shown_of ?_ h.1
    have h := h.2
    split at h
    · rename_i n p es q _
      simp only [Bool.and_eq_true, decide_eq_true_eq] at h
      obtain ⟨⟨⟨h1, h2⟩, h3⟩, h4⟩ := h
      obtain ⟨a, f1, f2, f3⟩ := g.fn f n h1
      cases es with
      | nil =>
        rw [cs_nil h4]
        exact e_call0 f3 g.rm g.tk g.fl (g.gl h2) f1 f2 (not_bug h3)
      | cons x l => exact e_call f3 g.rm g.tk g.fl (g.gl h2) f1 f2 (sEs cs g h4) (stars_of h4) (not_bug h3)
    · cases h
  | .mk c cs, X, W, r, t, e, g, h => by
    simp only [mE, Bool.and_eq_true] at h
    refine shown_of ?_ h.1
    have h := h.2
    split at h
    · rename_i n p es q _
      simp only [Bool.and_eq_true, decide_eq_true_eq] at h
      obtain ⟨⟨⟨h1, h2⟩, h3⟩, h4⟩ := h
      obtain ⟨f0, f1, a, f2, f3⟩ := g.cs c n h1
      cases es with
      | nil =>
        rw [cs_nil h4]
        exact e_mk0 f2 f3 f0 g.rm g.tk g.fl (g.gl h2) f1 (not_bug h3)
      | cons x l => exact e_mk f2 f3 f0 g.rm g.tk g.fl (g.gl h2) f1 (sEs cs g h4) (stars_of h4) (not_bug h3)
    · cases h
  | .meth m o cs, X, W, r, t, e, g, h => by
    simp only [mE, Bool.and_eq_true] at h
    refine shown_of ?_ h.1
    have h := h.2
    split at h
    · rename_i x n p es q _
      simp only [Bool.and_eq_true, decide_eq_true_eq] at h
      obtain ⟨⟨⟨⟨⟨h1, h2⟩, h3⟩, h4⟩, h5⟩, h6⟩ := h
      cases es with
      | nil =>
        rw [cs_nil h5]
        exact e_meth0 (g.mt m n h3) g.rm g.tk (sE o (t := false) g h4) h2 h1
      | cons y l => exact e_meth (g.mt m n h3) g.rm g.tk (sE o (t := false) g h4) (sEs cs g h5) h2 (stars_of h5) h6 h1
    · cases h
  | .methD m o cs, X, W, r, t, e, g, h => by
    simp only [mE, Bool.and_eq_true] at h
    refine shown_of ?_ h.1
    have h := h.2
    split at h
    · rename_i x n p es q _
      simp only [Bool.and_eq_true, decide_eq_true_eq, List.any_eq_true] at h
      obtain ⟨⟨⟨⟨⟨⟨⟨h1, h2⟩, h3⟩, h4⟩, h5⟩, h6⟩, h7⟩, ⟨m', y⟩, h8, h9⟩ := h
      have h9 : m' = m := by simpa using h9
      subst h9
      cases es with
      | nil => cases h7
      | cons z l => exact e_methD (g.md m' n y h8 h3) g.rm g.tk g.fl (sE o (t := false) g h4) (sEs cs g h5) h2 (stars_of h5) h6 h1
    · cases h
  | .methK m o cs c, X, W, r, t, e, g, h => by
    simp only [mE, Bool.and_eq_true] at h
    refine shown_of ?_ h.1
    have h := h.2
    split at h
    · rename_i x n p es y z kp q _
      simp only [Bool.and_eq_true, decide_eq_true_eq] at h
      obtain ⟨⟨⟨⟨⟨⟨⟨⟨h1, h2⟩, h3⟩, h4⟩, h5⟩, h6⟩, h7⟩, h8⟩, h9⟩ := h
      cases es with
      | nil => cases h7
      | cons z' l => exact e_methK (g.md m n y h8 h3) g.rm g.tk g.fl (sE o (t := false) g h4) (sEs cs g h5) (sE c (t := false) g h9) h2 (stars_of h5) h6 h1
    · cases h
  | .comp m elt tg it cond ws, X, W, r, t, e, g, h => by
    simp only [mE, Bool.and_eq_true] at h
    refine shown_of ?_ h.1
    have h := h.2
    split at h
    · rename_i x gt i ifs a scope q
      simp only [Bool.and_eq_true, decide_eq_true_eq] at h
      obtain ⟨⟨⟨⟨⟨⟨⟨rfl, h1⟩, h2⟩, h3⟩, h4⟩, h5⟩, h6⟩, h7⟩ := h
      exact e_comp (parts_of g h1 h2 h3 h5 (sI it g h4) (fun g' => sC cond g' h6) fun g' => sE elt (t := false) g' h7)
    · cases h
theorem sB : ∀ (c : Ex), isAnd c = true → ∀ {X : Cx} {W : WX} {r : Fr} {t : Bool} {e : Expr}, Gd S B X W C k r → mE S t c r e = true → ∃ x l p, e = .BoolOp .And (x :: l) p ∧ Shown2 B X W C t c e
  | .andE a b, _, X, W, r, t, e, g, h => and_shown a b (fun t e h => sE a g h) (fun t e h => sE b g h) (fun t x l p h => by
      obtain ⟨_, _, _, e, h'⟩ := sB b (and_only h) g h
      exact h') h
theorem sD : ∀ (c : Ex), isOr c = true → ∀ {X : Cx} {W : WX} {r : Fr} {t : Bool} {e : Expr}, Gd S B X W C k r → mE S t c r e = true → ∃ x l p, e = .BoolOp .Or (x :: l) p ∧ Shown2 B X W C t c e
  | .orE a b, _, X, W, r, t, e, g, h => or_shown a b (fun t e h => sE a g h) (fun t e h => sE b g h) (fun t x l p h => by
      obtain ⟨_, _, _, e, h'⟩ := sD b (or_only h) g h
      exact h') h
theorem sEs : ∀ (cs : List Ex) {X : Cx} {W : WX} {r : Fr} {es : List Expr}, Gd S B X W C k r → mEs S cs r es = true → PA X es (tEs B W C cs)
  | [], X, W, r, es, g, h => by
    simp only [mEs, List.isEmpty_iff] at h
    rw [h]
    exact a_nil
  | c :: cs, X, W, r, es, g, h => by
    cases es with
    | nil => simp [mEs] at h
    | cons e l =>
      simp only [mEs, Bool.and_eq_true] at h
      exact a_cons (sE c (t := false) g h.1.2) (sEs cs g h.2) h.1.1
theorem sN : ∀ (cs : List Ex) {j : Nat} {c : Ex}, cs[j]? = some c → ∀ {X : Cx} {W : WX} {r : Fr} {x : Expr}, Gd S B X W C k r → mE S false c r x = true → PE X x (tE B W C c)
  | [], _, _, h, _, _, _, _, _, _ => by simp at h
  | d :: cs, 0, c, h, X, W, r, x, g, hx => by
    have : d = c := by simpa using h
    subst this
    exact sE d (t := false) g hx
  | d :: cs, j + 1, c, h, X, W, r, x, g, hx => sN cs (j := j) (by simpa using h) g hx
theorem sO : ∀ (c : Option Ex) {X : Cx} {W : WX} {r : Fr} {e : Option Expr}, Gd S B X W C k r → mO S c r e = true → PO X e (tO B W C c)
  | none, X, W, r, e, g, h => by
    simp only [mO, Option.isNone_iff_eq_none] at h
    rw [h]
    exact o_none
  | some c, X, W, r, e, g, h => by
    simp only [mO] at h
    split at h
    · exact o_some (sE c (t := false) g h)
    · cases h
theorem sC : ∀ (c : Option Ex) {X : Cx} {W : WX} {r : Fr} {es : List Expr}, Gd S B X W C k r → mC S c r es = true → PTs X es (tC' B W C c)
  | none, X, W, r, es, g, h => by
    simp only [mC, List.isEmpty_iff] at h
    rw [h]
    exact c_none
  | some c, X, W, r, es, g, h => by
    simp only [mC] at h
    split at h
    · exact c_some (sE c (t := true) g h)
    · cases h
theorem sI : ∀ (c : Ab.It) {X : Cx} {W : WX} {r : Fr} {tg e : Expr}, Gd S B X W C k r → mI S c r e = true → PI X tg e (tI B W C c)
  | .val c, X, W, r, tg, e, g, h => by
    simp only [mI] at h
    exact i_val g.K (sE c (t := false) g h)
  | .rng1 c, X, W, r, tg, e, g, h => by
    simp only [mI] at h
    split at h
    · simp only [Bool.and_eq_true, decide_eq_true_eq] at h
      obtain ⟨⟨⟨rfl, h1⟩, h2⟩, h3⟩ := h
      exact i_rng1 (g.gl h1) (g.bi _ range_in) (a_cons (sE c (t := false) g h3) a_nil h2) h2
    · cases h
  | .rng2 c d, X, W, r, tg, e, g, h => by
    simp only [mI] at h
    split at h
    · simp only [Bool.and_eq_true, decide_eq_true_eq] at h
      obtain ⟨⟨⟨⟨⟨rfl, h1⟩, h2⟩, h3⟩, h4⟩, h5⟩ := h
      exact i_rng2 (g.gl h1) (g.bi _ range_in) (a_cons (sE c (t := false) g h4) (a_cons (sE d (t := false) g h5) a_nil h3) h2) h2 h3
    · cases h
  | .rrng _, X, W, r, tg, e, g, h => by simp [mI] at h
  | .enum _, X, W, r, tg, e, g, h => by simp [mI] at h
  | .zip _ _, X, W, r, tg, e, g, h => by simp [mI] at h
  | .keys _, X, W, r, tg, e, g, h => by simp [mI] at h
end
end
end Sn
end
section
set_option Elab.async false
set_option linter.all false
set_option autoImplicit false
set_option maxRecDepth 100000
set_option maxHeartbeats 4000000
/-! The code of the machine against the program's text: statements. -/
namespace Sn
open PySem L2
open Ab (Val SO Sto Exc R toD toDs BM BI Ex Stm Tg Walk SR)
/-- [..] on the name's own line -/
def swapB (sc : Scope) (x : Str) (p : Pos) : Expr → Bool
  | .ListComp _ _ s q => (sc.names.lookup x == some .local) && (p.line == q.line) && !(s.names.any fun (n, k) => n == x && (k == .local || k == .cell))
  | _ => false
def noSD : Expr → Bool
  | .SetComp _ _ _ _ => false
  | .DictComp _ _ _ _ _ => false
  | _ => true
theorem swap_name {e : Expr} {x : Str} {p : Pos} {l : Nat} {env : Env} (hk : (env.blockKind == .function) = true) (h : noSD e = true) : swapsWith e (some (.Name x p)) l env = pure (swapB env.scope x p e) := by
  cases e with
  | ListComp a b s q =>
    show pure (env.blockKind == .function && env.kindOf x == some .local && p.line == q.line && !(s.names.any fun (n, k) => n == x && (k == .local || k == .cell))) = pure _
    rw [hk]
    rfl
  | SetComp _ _ _ _ => cases h
  | DictComp _ _ _ _ _ => cases h
  | _ => rfl
mutual
def mS (S : Sta) : Stm → Fr → Stmt → Bool
  | .asg t c, r, st => match st with
    | .Assign [.Name x p] v _ => noSD v && (match t with
      | .name i => decide (r.N[i]? = some x) && r.sets x && mE S false c r v && (!swapB r.sc x p v || decide (r.sc.names.lookup x = some .local))
      | _ => false)
    | .Assign [.Tuple es _ _] v _ => (match t with
      | .names is => mN r is es && noTup v && mE S false c r v
      | _ => false)
    | _ => false
  | .asgF o f c, r, st => match st with
    | .Assign [.Attribute x n _] v _ => decide (S.flds[f]? = some n) && mE S false o r x && mE S false c r v
    | _ => false
  | .asgI o i c, r, st => match st with
    | .Assign [.Subscript x y _] v _ => noSlice y && mE S false o r x && mE S false i r y && mE S false c r v
    | _ => false
  | .expr c, r, st => match st with
    | .Expr v _ => noCmp v && mE S false c r v
    | _ => false
  | .ret c, r, st => match st with
    | .Return (some v) _ => mE S false c r v
    | _ => false
  | .retN, r, st => match st with
    | .Return none _ => true
    | _ => false
  | .ifS c a b, r, st => match st with
    | .If v x y _ => mE S true c r v && mSs S a r x && mSs S b r y
    | _ => false
  | .forS t it b, r, st => match st with
    | .For g v x [] _ => noSet v && mG r t g && mI S it r v && mSs S b r x
    | _ => false
  | .forK t c b, r, st => match st with
    | .For g v x [] _ => noSet v && mG r t g && mE S false c r v && mSs S b r x
    | _ => false
  | .whl c b, r, st => match st with
    | .While v x [] _ => mE S true c r v && mSs S b r x
    | _ => false
  | .pass, _, st => match st with
    | .Pass _ => true
    | .Expr (.Constant (.str _) _ _) _ => true
    | _ => false
  | .brk, _, st => match st with
    | .Break _ => true
    | _ => false
  | .cont, _, st => match st with
    | .Continue _ => true
    | _ => false
  | .stuck, _, _ => true
  | _, _, _ => false
def mSs (S : Sta) : List Stm → Fr → List Stmt → Bool
  | [], _, l => l.isEmpty
  | c :: cs, r, l => match l with
    | st :: l => mS S c r st && mSs S cs r l
    | [] => false
end
/-- what is known where statements run -/
structure GdS (S : Sta) (B : Bs) (X : Cx) (W : WX) (C : Ab.Ctx) (k : Nat) (r : Fr) : Prop extends Gd S B X W C k r where
  ow : PassesOwn (model X.prog X.w) X.A X.env X.xe
  bk : (X.env.blockKind == .function) = true
variable {S : Sta} {B : Bs} {C : Ab.Ctx} {k : Nat}
theorem asg_ok {X : Cx} {W : WX} {r : Fr} {t : Tg} {c : Ex} {st : Stmt} (g : GdS S B X W C k r) (h : mS S (.asg t c) r st = true) : PS X st (tS B W (Ab.exec C (.asg t c))) := by
  simp only [mS] at h
  split at h
  · rename_i x p v q
    simp only [Bool.and_eq_true] at h
    obtain ⟨h0, h⟩ := h
    cases t with
    | names is => cases h
    | name i =>
      simp only [Bool.and_eq_true, decide_eq_true_eq] at h
      obtain ⟨⟨⟨h1, h2⟩, h3⟩, h4⟩ := h
      obtain ⟨l1, l2⟩ := g.sets h2
      have hN : X.N[i]? = some x := by rw [g.N]; exact h1
      have sw := swap_name (x := x) (p := p) (l := q.line) g.bk h0
      cases e : swapB r.sc x p v with
      | false =>
        refine s_set g.nd hN l1 l2 (sE c (t := false) g.toGd h3) ?_
        rw [sw, g.sc, e]
      | true =>
        rw [e] at h4
        have h4 : r.sc.names.lookup x = some .local := by simpa using h4
        cases v with
        | ListComp y gs scope q2 =>
          cases c with
          | comp m celt tg it cond ws =>
            simp only [mE, Bool.not_false, Bool.true_or, Bool.true_and] at h3
            split at h3
            · rename_i x2 gt i2 ifs a scope2 q3 heq
              cases heq
              simp only [Bool.and_eq_true, decide_eq_true_eq] at h3
              obtain ⟨⟨⟨⟨⟨⟨⟨rfl, f1⟩, f2⟩, f3⟩, f4⟩, f5⟩, f6⟩, f7⟩ := h3
              refine s_setC (parts_of g.toGd f1 f2 f3 f5 (sI it g.toGd f4) (fun g' => sC cond g' f6) fun g' => sE celt (t := false) g' f7) hN (by rw [g.sc]; exact h4) ?_
              rw [sw, g.sc, e]
            · cases h3
          | cst v => cases v <;> simp [mE, mK] at h3
          | _ => simp [mE] at h3
        | _ => cases e
  · rename_i es k2 p v q
    cases t with
    | name i => cases h
    | names is =>
      simp only [Bool.and_eq_true] at h
      obtain ⟨⟨h1, h2⟩, h3⟩ := h
      exact s_tup (xs := []) g.K (g_ok g.toGd (t := .names is) (by simpa only [mG] using h1)) (sE c (t := false) g.toGd h3) h2
  · cases h
mutual
theorem sS : ∀ (c : Stm) {X : Cx} {W : WX} {r : Fr} {st : Stmt}, GdS S B X W C k r → mS S c r st = true → PS X st (tS B W (Ab.exec C c))
  | .asg t c, X, W, r, st, g, h => asg_ok g h
  | .asgF o f c, X, W, r, st, g, h => by
    simp only [mS] at h
    split at h
    · simp only [Bool.and_eq_true, decide_eq_true_eq] at h
      obtain ⟨⟨h1, h2⟩, h3⟩ := h
      obtain ⟨e, hf⟩ := g.fld f _ h1
      rw [← e]
      exact s_fld g.K g.cl hf (sE o (t := false) g.toGd h2) (sE c (t := false) g.toGd h3)
    · cases h
  | .asgI o i c, X, W, r, st, g, h => by
    simp only [mS] at h
    split at h
    · simp only [Bool.and_eq_true] at h
      obtain ⟨⟨⟨h1, h2⟩, h3⟩, h4⟩ := h
      exact s_sub (by have := g.units; omega) (sE o (t := false) g.toGd h2) (sE i (t := false) g.toGd h3) (sE c (t := false) g.toGd h4) h1
    · cases h
  | .augN _ _ _, X, W, r, st, g, h => by simp [mS] at h
  | .augF _ _ _ _, X, W, r, st, g, h => by simp [mS] at h
  | .expr c, X, W, r, st, g, h => by
    simp only [mS] at h
    split at h
    · simp only [Bool.and_eq_true] at h
      exact s_expr (sE c (t := false) g.toGd h.2) h.1
    · cases h
  | .ret c, X, W, r, st, g, h => by
    simp only [mS] at h
    split at h
    · exact s_ret (sE c (t := false) g.toGd h)
    · cases h
  | .retN, X, W, r, st, g, h => by
    simp only [mS] at h
    split at h
    · exact s_retN
    · cases h
  | .ifS c a b, X, W, r, st, g, h => by
    simp only [mS] at h
    split at h
    · simp only [Bool.and_eq_true] at h
      exact s_if (sE c (t := true) g.toGd h.1.1) (sSs a g h.1.2) (sSs b g h.2)
    · cases h
  | .forS t it b, X, W, r, st, g, h => by
    simp only [mS] at h
    split at h
    · simp only [Bool.and_eq_true] at h
      exact s_for g.ow g.calm (sI it g.toGd h.1.2) (g_ok g.toGd h.1.1.2) (sSs b g h.2) h.1.1.1
    · cases h
  | .forK t c b, X, W, r, st, g, h => by
    simp only [mS] at h
    split at h
    · simp only [Bool.and_eq_true] at h
      exact s_forK g.ow g.calm (sE c (t := false) g.toGd h.1.2) (g_ok g.toGd h.1.1.2) (sSs b g h.2) h.1.1.1
    · cases h
  | .whl c b, X, W, r, st, g, h => by
    simp only [mS] at h
    split at h
    · simp only [Bool.and_eq_true] at h
      exact s_while g.ow (sE c (t := true) g.toGd h.1) (sSs b g h.2)
    · cases h
  | .pass, X, W, r, st, g, h => by
    simp only [mS] at h
    split at h
    · exact s_pass
    · exact s_doc
    · cases h
  | .brk, X, W, r, st, g, h => by
    simp only [mS] at h
    split at h
    · exact s_brk
    · cases h
  | .cont, X, W, r, st, g, h => by
    simp only [mS] at h
    split at h
    · exact s_cont
    · cases h
  | .stuck, X, W, r, st, g, h => s_stuck
  | .raise _ _, X, W, r, st, g, h => by simp [mS] at h
  | .tryS _ _ _ _, X, W, r, st, g, h => by simp [mS] at h
theorem sSs : ∀ (cs : List Stm) {X : Cx} {W : WX} {r : Fr} {l : List Stmt}, GdS S B X W C k r → mSs S cs r l = true → PSs X l (tS B W (Ab.execs C cs))
  | [], X, W, r, l, g, h => by
    simp only [mSs, List.isEmpty_iff] at h
    rw [h]
    exact b_nil
  | c :: cs, X, W, r, l, g, h => by
    simp only [mSs] at h
    split at h
    · simp only [Bool.and_eq_true] at h
      exact b_cons (sS c g h.1) (sSs cs g h.2)
    · cases h
end
end Sn
end
section
set_option Elab.async false
set_option linter.all false
set_option autoImplicit false
set_option maxRecDepth 100000
set_option maxHeartbeats 4000000
/-! The defs of a program, all levels at once. -/
namespace Sn
open PySem L2
open Ab (Val SO Sto Exc R toD toDs BM BI Ex Stm Tg Walk SR)
/-- a def as it is written and as the machine has it -/
structure Txt where
  x : Str
  qual : Str
  params : Arguments
  body : List Stmt
  sc : Scope
  N : List Str
  ps : List Str
  code : List Stm
def Txt.fr (D : Txt) : Fr := ⟨D.N, D.sc, fun _ => true⟩
def scopeB (N P : List Str) (sc : Scope) : Bool :=
  decide (sc.kind = .function) && !sc.isCoroutine && !sc.isGenerator && decide N.Nodup && decide (N.take P.length = P) && (P.all fun x => decide (sc.names.lookup x = some .local) || decide (sc.names.lookup x = some .cell)) && (sc.names.all fun y => !decide (y.2 = .free))
theorem scope_of {N P : List Str} {sc : Scope} (h : scopeB N P sc = true) : FnScope N P sc := by
  simp only [scopeB, Bool.and_eq_true, decide_eq_true_eq, Bool.not_eq_true', List.all_eq_true, Bool.or_eq_true, decide_eq_false_iff_not] at h
  obtain ⟨⟨⟨⟨⟨⟨h1, h2⟩, h3⟩, h4⟩, h5⟩, h6⟩, h7⟩ := h
  exact ⟨h1, h2, h3, h4, h5, h6, h7⟩
/-- all that is to be computed of a def -/
def Txt.ok (S : Sta) (D : Txt) : Bool := scopeB D.N D.ps D.sc && mSs S D.code D.fr D.body
section
variable {S : Sta} {B : Bs} {T : Ab.Tab} {P : Program} {w : World} {K : PySem.W.Frag} {mg : Str → Option Value} {base : Heap}
/-- the def at an address is the machine's f -/
def At (S : Sta) (K : PySem.W.Frag) (T : Ab.Tab) (f : Nat) (a : Addr) : Prop :=
  ∃ (D : Txt) (dvs : List V) (fd : FuncData), FunD K D.x D.qual D.params D.body D.sc dvs [] a fd ∧ Binds K fd D.ps [] ∧ D.ok S = true ∧ T.code f = some ⟨D.ps.length, D.N.length, D.code⟩
/-- .. whose last parameter may lack -/
def At1 (S : Sta) (K : PySem.W.Frag) (T : Ab.Tab) (f : Nat) (a : Addr) (y : Str) : Prop :=
  ∃ (D : Txt) (dvs : List V) (fd : FuncData), FunD K D.x D.qual D.params D.body D.sc dvs [] a fd ∧ Takes1 K fd D.ps y (.bl false) ∧ D.ok S = true ∧ T.code f = some ⟨D.ps.length, D.N.length, D.code⟩
/-- what the top has made -/
structure Wd (S : Sta) (B : Bs) (T : Ab.Tab) (K : PySem.W.Frag) (mg : Str → Option Value) : Prop where
  eqK : B.K = K
  cl : ClsOk B B.K
  fld : ∀ (i : Nat) x, S.flds[i]? = some x → B.fld i = x ∧ B.okF i = true
  bi : ∀ b ∈ builtins, mg b = none
  fn : ∀ (f : Nat) x, S.fns[f]? = some (some x) → ∃ a, mg x = some (.ref a) ∧ PySem.W.keepIn K (.ref a) = true ∧ At S K T f a
  cs : ∀ (c : Nat) x, S.cls[c]? = some x → B.okC c = true ∧ mg x = some (.ref (B.A c)) ∧ ∃ a, Mk K (B.A c) a ∧ At S K T (T.init c) a
  mt : ∀ (m : Nat) x, S.mts[m]? = some x → (∀ f, B.okF f = true → B.fld f ≠ x) ∧ ∀ c f, B.okC c = true → T.meth c m = some f → ∃ a, Meth K (B.A c) x a ∧ At S K T f a
  md : ∀ (m : Nat) x y, (m, y) ∈ S.mds → S.mts[m]? = some x → (∀ f, B.okF f = true → B.fld f ≠ x) ∧ ∀ c f, B.okC c = true → T.meth c m = some f → ∃ a, Meth K (B.A c) x a ∧ At1 S K T f a y
/-- it keeps what the machine promises, to a level -/
def Keeps (B : Bs) (T : Ab.Tab) (P : Program) (w : World) (K : PySem.W.Frag) (mg : Str → Option Value) (base : Heap) (k : Nat) (call : Nat → List Val → Sto → R Val) (f : Nat) (a : Addr) : Prop :=
  ∃ fd ps, Binds K fd ps [] ∧ FnOk P w K mg base (L2.CX P w) k a fd ps (spF B call f)
def Keeps1 (B : Bs) (T : Ab.Tab) (P : Program) (w : World) (K : PySem.W.Frag) (mg : Str → Option Value) (base : Heap) (k : Nat) (call : Nat → List Val → Sto → R Val) (f : Nat) (a : Addr) (y : Str) : Prop :=
  ∃ fd ps, Takes1 K fd ps y (.bl false) ∧ FnOk P w K mg base (L2.CX P w) k a fd ps (spF B call f)
theorem keeps_none {f : Nat} {a : Addr} {k : Nat} (h : At S K T f a) : Keeps B T P w K mg base k (fun _ _ _ => none) f a := by
  obtain ⟨D, dvs, fd, F, b, _⟩ := h
  refine ⟨fd, D.ps, b, fun vs H Q E q => ?_, fun A outer s H args us vs Q E _ _ _ _ q => ?_⟩
  · obtain ⟨_, _, _, _, _, _, o⟩ := q
    exact o.elim
  · obtain ⟨_, _, _, _, _, _, o⟩ := q
    exact o.elim
theorem callN_zero : Ab.callN T 0 = fun _ _ _ => none := rfl
theorem callN_next (k : Nat) : Ab.callN T (k + 1) = Ab.runF T (Ab.callN T k) (Ab.callN T (k - 1)) := by
  cases k with
  | zero => rfl
  | succ k => rfl
theorem run_len {call init : Nat → List Val → Sto → R Val} {f : Nat} {us : List Val} {s : Sto} {c : Ab.Fn} (hc : T.code f = some c) (h : Ab.runF T call init f us s ≠ none) : us.length = c.np := by
  unfold Ab.runF at h
  rw [hc] at h
  by_cases q : us.length = c.np
  · exact q
  · simp only [if_neg q] at h
    exact absurd rfl h
theorem start_ok {φ : List Addr} {F : Hp} {N : List Str} {us : List Val} {vs : List V} (r : RVs B φ F us vs) : REn B φ F (us.map some ++ List.replicate (N.length - us.length) none) (L2.start N vs) := by
  have hl := r.length
  refine ⟨by simp [L2.start, hl], fun i v e => ?_⟩
  by_cases c : i < us.length
  · rw [List.getElem?_append_left (by simpa using c), List.getElem?_map] at e
    cases e1 : us[i]? with
    | none => rw [e1] at e; cases e
    | some u =>
      rw [e1] at e
      cases e
      obtain ⟨y, g1, g2⟩ := r.got e1
      refine ⟨y, ?_, g2⟩
      unfold L2.start
      rw [List.getElem?_append_left (by simp; omega), List.getElem?_map, g1]
      rfl
  · rw [List.getElem?_append_right (by simpa using c), List.getElem?_replicate] at e
    split at e <;> cases e
/-- one def, from the level below -/
theorem fn_one {k f : Nat} {a : Addr} (wd : Wd S B T K mg) (D : Txt) {dvs : List V} {fd : FuncData} (F : FunD K D.x D.qual D.params D.body D.sc dvs [] a fd) (hk : D.ok S = true) (hc : T.code f = some ⟨D.ps.length, D.N.length, D.code⟩)
    (ih : ∀ f a, At S K T f a → Keeps B T P w K mg base (k + 1) (Ab.callN T k) f a) (ih1 : ∀ f a y, At1 S K T f a y → Keeps1 B T P w K mg base (k + 1) (Ab.callN T k) f a y) (ih' : ∀ f a, At S K T f a → Keeps B T P w K mg base k (Ab.callN T (k - 1)) f a) :
    FnOk P w K mg base (L2.CX P w) (k + 2) a fd D.ps (spF B (Ab.callN T (k + 1)) f) := by
  have hk2 : scopeB D.N D.ps D.sc = true ∧ mSs S D.code D.fr D.body = true := by simpa [Txt.ok] using hk
  have S1 := scope_of hk2.1
  have len : ∀ vs H Q E, spF B (Ab.callN T (k + 1)) f vs H Q E → vs.length = D.ps.length := by
    rintro vs H Q E ⟨φ, F1, s, us, rp, r, o⟩
    rw [callN_next] at o
    rw [← r.length]
    refine run_len (call := Ab.callN T k) (init := Ab.callN T (k - 1)) (s := s) hc fun e => ?_
    rw [e] at o
    exact o.elim
  refine F.ok S1 len fun cdv A outer s0 H vs Q E hr hsp => ?_
  let C : Ab.Ctx := { T := T, call := Ab.callN T k, init := Ab.callN T (k - 1) }
  have hl := len vs H Q E hsp
  obtain ⟨φ, F1, s, us, rp, r, o⟩ := hsp
  rw [callN_next] at o
  unfold Ab.runF at o
  rw [hc] at o
  have hu : us.length = D.ps.length := by rw [r.length]; exact hl
  simp only [if_pos hu] at o
  let X : Cx := cxOf (L2.CX P w) P w K mg base D.N D.qual D.sc a cdv A outer s0 H E
  have g : Gd S B X (fun cls d _ H => E cls d H) C k D.fr :=
    { K := wd.eqK.symm, calm := rfl, nd := S1.nd, N := rfl, sc := rfl, fc := fun _ _ => rfl
      tk := takes_of rfl rfl rfl rfl
      fl := fun _ _ _ _ _ h => h
      rm := hr
      cl := wd.cl
      fld := wd.fld
      bi := wd.bi
      fn := fun f x hx => by
        obtain ⟨a, h1, h2, h3⟩ := wd.fn f x hx
        exact ⟨a, h1, h2, ⟨ih f a h3⟩⟩
      cs := fun c x hx => by
        obtain ⟨h0, h1, a, h2, h3⟩ := wd.cs c x hx
        exact ⟨h0, h1, a, h2, ⟨ih' _ a h3⟩⟩
      mt := fun m x hx => by
        obtain ⟨h1, h2⟩ := wd.mt m x hx
        refine ⟨fun c hc => ?_, h1, fun c f hc hf => ?_⟩
        · have := wd.cl.cl c hc
          rw [wd.eqK] at this
          exact this
        · obtain ⟨a, h3, h4⟩ := h2 c f hc hf
          exact ⟨a, h3, ⟨ih f a h4⟩⟩
      md := fun m x y h0 hx => by
        obtain ⟨h1, h2⟩ := wd.md m x y h0 hx
        refine ⟨fun c hc => ?_, h1, fun c f hc hf => ?_⟩
        · have := wd.cl.cl c hc
          rw [wd.eqK] at this
          exact this
        · obtain ⟨a, h3, h4⟩ := h2 c f hc hf
          exact ⟨a, h3, ⟨ih1 f a y h4⟩⟩ }
  have bk : (X.env.blockKind == .function) = true := by
    show ((if D.sc.kind.isAnnotationScope then ScopeKind.function else D.sc.kind) == .function) = true
    rw [S1.kind]
    rfl
  have gs : GdS S B X (fun cls d _ H => E cls d H) C k D.fr := { toGd := g, ow := passes_of rfl, bk := bk }
  refine ⟨_, sSs D.code gs hk2.2, φ, F1, _, s, rp, start_ok r, ?_⟩
  have o' : Out B (fun cls d _ H => E cls d H) (RV B) φ F1 H (Ab.fin (Ab.execs C D.code (us.map some ++ List.replicate (D.N.length - us.length) none) s)) [] Q := by
    rw [hu]
    exact o
  revert o'
  cases Ab.execs C D.code (us.map some ++ List.replicate (D.N.length - us.length) none) s with
  | none => exact fun h => h
  | some q =>
    obtain ⟨e, en, s1⟩ := q
    cases e with
    | next => exact fun o φ' F' σ' H' x rp1 _ => o φ' F' .non H' x rp1 rfl
    | brk => exact fun o => o.elim
    | cont => exact fun o => o.elim
    | ret v => exact fun o => o
    | err x => exact fun o φ' F' σ' H' cls d x1 rp1 _ q => o φ' F' H' cls d x1 rp1 q
theorem keeps_one {k f : Nat} {a : Addr} (wd : Wd S B T K mg) (h : At S K T f a) (ih : ∀ f a, At S K T f a → Keeps B T P w K mg base (k + 1) (Ab.callN T k) f a) (ih1 : ∀ f a y, At1 S K T f a y → Keeps1 B T P w K mg base (k + 1) (Ab.callN T k) f a y) (ih' : ∀ f a, At S K T f a → Keeps B T P w K mg base k (Ab.callN T (k - 1)) f a) :
    Keeps B T P w K mg base (k + 2) (Ab.callN T (k + 1)) f a := by
  obtain ⟨D, dvs, fd, F, b, hk, hc⟩ := h
  exact ⟨fd, D.ps, b, fn_one wd D F hk hc ih ih1 ih'⟩
theorem keeps_one1 {k f : Nat} {a : Addr} {y : Str} (wd : Wd S B T K mg) (h : At1 S K T f a y) (ih : ∀ f a, At S K T f a → Keeps B T P w K mg base (k + 1) (Ab.callN T k) f a) (ih1 : ∀ f a y, At1 S K T f a y → Keeps1 B T P w K mg base (k + 1) (Ab.callN T k) f a y) (ih' : ∀ f a, At S K T f a → Keeps B T P w K mg base k (Ab.callN T (k - 1)) f a) :
    Keeps1 B T P w K mg base (k + 2) (Ab.callN T (k + 1)) f a y := by
  obtain ⟨D, dvs, fd, F, b, hk, hc⟩ := h
  exact ⟨fd, D.ps, b, fn_one wd D F hk hc ih ih1 ih'⟩
theorem keeps_none1 {f : Nat} {a : Addr} {y : Str} {k : Nat} (h : At1 S K T f a y) : Keeps1 B T P w K mg base k (fun _ _ _ => none) f a y := by
  obtain ⟨D, dvs, fd, F, b, _⟩ := h
  exact ⟨fd, D.ps, b, ⟨fun vs H Q E ⟨_, _, _, _, _, _, o⟩ => o.elim, fun A outer s H args us vs Q E _ _ _ _ ⟨_, _, _, _, _, _, o⟩ => o.elim⟩⟩
/-- all of them -/
theorem keeps_all (wd : Wd S B T K mg) : ∀ (k : Nat), (∀ f a, At S K T f a → Keeps B T P w K mg base (k + 1) (Ab.callN T k) f a) ∧ (∀ f a y, At1 S K T f a y → Keeps1 B T P w K mg base (k + 1) (Ab.callN T k) f a y) ∧ ∀ f a, At S K T f a → Keeps B T P w K mg base k (Ab.callN T (k - 1)) f a
  | 0 => ⟨fun _ _ h => keeps_none h, fun _ _ _ h => keeps_none1 h, fun _ _ h => keeps_none h⟩
  | k + 1 => ⟨fun f a h => keeps_one wd h (keeps_all wd k).1 (keeps_all wd k).2.1 (keeps_all wd k).2.2, fun f a y h => keeps_one1 wd h (keeps_all wd k).1 (keeps_all wd k).2.1 (keeps_all wd k).2.2, fun f a h => (keeps_all wd k).1 f a h⟩
/-- the law's own def -/
theorem fn_all {f : Nat} {a : Addr} (wd : Wd S B T K mg) (D : Txt) {dvs : List V} {fd : FuncData} (F : FunD K D.x D.qual D.params D.body D.sc dvs [] a fd) (hk : D.ok S = true) (hc : T.code f = some ⟨D.ps.length, D.N.length, D.code⟩) (k : Nat) :
    FnOk P w K mg base (L2.CX P w) (k + 2) a fd D.ps (spF B (Ab.callN T (k + 1)) f) := fn_one wd D F hk hc (keeps_all wd k).1 (keeps_all wd k).2.1 (keeps_all wd k).2.2
/-- what a law's def is to promise -/
def spLaw (K : PySem.W.Frag) : Sp := fun vs H Q _ => ∃ (a : Addr) (ns : List Int), vs = [.ref a] ∧ SqL K H a (ns.map V.int) ∧ ns.length ≤ 63 ∧ ∀ H', Q (.bl true) H'
/-- from the machine's run to the law's promise -/
theorem law_imp {f n : Nat} (wd : Wd S B T K mg) (h : ∀ ns : List Int, ns.length ≤ 63 → ∃ s, Ab.callN T n f [.scr ns] [] = some (.ok (.bl true), s)) : ∀ vs H Q E, spLaw K vs H Q E → spF B (Ab.callN T n) f vs H Q E := by
  rintro vs H Q E ⟨a, ns, rfl, hs, hl, q⟩
  obtain ⟨s, e⟩ := h ns hl
  refine ⟨[], H, [], [.scr ns], ⟨rfl, fun i j a h => by simp at h, fun l o h => by simp at h, fun _ _ h => h, fun l a h => by simp at h⟩, ⟨_, [], rfl, ⟨a, rfl, by rw [wd.eqK]; exact hs⟩, rfl⟩, ?_⟩
  rw [e]
  intro φ' F' x H' _ _ r
  rw [show x = _ from r]
  exact q H'
end
/-- nothing is let out -/
theorem no_out {P : Program} {w : World} {H : Hp} {s : Shared} {e : Value} {s' : Shared} : L2.CX P w [] H s (fun _ _ _ => False) e s' → False := fun h => by
  obtain ⟨_, _, _, _, _, _, _, _, _, _, _, _, z⟩ := h
  exact z.elim
/-- the row from the facts of its top -/
theorem walk {l : PySem.W.OpenLaw} {q : Program} {loose : List Str} {XP : (Str → Option Value) → Heap → Prop} {YP : World → Heap → Prop} {d : DefRec} {K : Params → PySem.W.Frag} {k : Nat} {x : Str} (hn : l.most = some 63) (hdf : d.params.defaults = []) (hr : Room (k + 2) callerA)
    (hY : ∀ (w : World) (h : Heap), YP w h → (K w.params).In h)
    (F : ∀ (w : World) (mg : Str → Option Value) (fa : Addr) (h : Heap), (K w.params).In h → h.Ns mainGlobals mg → mg d.name = some (.ref fa) → ∃ (S : Sta) (B : Bs) (T : Ab.Tab) (f : Nat) (D : Txt) (fd : FuncData),
      Wd S B T (K w.params) mg ∧ FunD (K w.params) D.x D.qual D.params D.body D.sc [] [] fa fd ∧ D.ok S = true ∧ T.code f = some ⟨D.ps.length, D.N.length, D.code⟩ ∧ D.ps = [x] ∧ (∀ (s : Shared) (u : Value), BindsTo s fd ⟨[u], []⟩ [(x, u)]) ∧
      ∀ ns : List Int, ns.length ≤ 63 → ∃ s, Ab.callN T (k + 1) f [.scr ns] [] = some (.ok (.bl true), s)) :
    PySem.W.WalkO q loose XP YP l.row.toRowW d [] (fun f vs => PySem.call f vs) :=
  L2.walk_of (n := 63) (k := k + 2) (x := x) (CX := fun w => L2.CX l.prog w) (sp := fun w => spLaw (K w.params)) hn (by decide) hdf hr hY
    (fun w mg fa h KX G hm => by
      obtain ⟨S, B, T, f, D, fd, wd, F1, hk, hc, hp, hb, hm⟩ := F w mg fa h KX G hm
      refine ⟨fd, hb, fun base _ _ => ?_⟩
      have := (fn_all (P := l.prog) (w := w) (base := base) wd D F1 hk hc k).imp (law_imp wd hm)
      rw [hp] at this
      exact this)
    (fun _ _ a ns hl _ hS => ⟨a, ns, rfl, hS, hl, fun _ => rfl⟩) fun _ _ _ _ _ z => no_out z
end Sn
end
section
set_option Elab.async false
set_option linter.all false
set_option autoImplicit false
set_option maxRecDepth 100000
set_option maxHeartbeats 4000000
/-! From the facts of a top to what SnO asks. -/
namespace Sn
open PySem L2
open Ab (Val SO Sto Exc R BM BI Ex Stm Tg)
/-- an attribute's name; behind the last one names that no program writes -/
def fldOf (l : List Str) (i : Nat) : Str := match l[i]? with
  | some x => x
  | none => ⟨#[1114112 + i]⟩
def fldsB (l : List Str) : Bool := decide l.Nodup && l.all fun x => x.cps.toList.all fun c => decide (c < 1114112)
theorem fld_inj {l : List Str} (h : fldsB l = true) : ∀ i j, fldOf l i = fldOf l j → i = j := by
  simp only [fldsB, Bool.and_eq_true, decide_eq_true_eq, List.all_eq_true] at h
  obtain ⟨nd, hg⟩ := h
  have far : ∀ (i : Nat) x, l[i]? = some x → ∀ j, x ≠ ⟨#[1114112 + j]⟩ := fun i x e j z => by
    have := hg x (List.mem_of_getElem? e) (1114112 + j) (by rw [z]; simp)
    omega
  intro i j e
  unfold fldOf at e
  cases e1 : l[i]? with
  | some x =>
    cases e2 : l[j]? with
    | some y =>
      rw [e1, e2] at e
      have e : x = y := e
      subst e
      exact (List.getElem?_inj (List.getElem?_eq_some_iff.mp e1).1 nd).mp (e1.trans e2.symm)
    | none =>
      rw [e1, e2] at e
      exact absurd e (far i x e1 j)
  | none =>
    cases e2 : l[j]? with
    | some y =>
      rw [e1, e2] at e
      exact absurd e.symm (far j y e2 i)
    | none =>
      rw [e1, e2] at e
      have e : (⟨#[1114112 + i]⟩ : Str) = ⟨#[1114112 + j]⟩ := e
      simp at e
      exact e
/-- the base of a program -/
def mkB (K : PySem.W.Frag) (As : List Addr) (fl : List Str) (h : fldsB fl = true) : Bs where
  K := K
  A := fun c => As[c]?.getD 0
  fld := fldOf fl
  inj := fld_inj h
  okC := fun c => decide (c < As.length)
  okF := fun f => decide (f < fl.length)
section
variable {K : PySem.W.Frag} {As : List Addr} {fl : List Str} {h : fldsB fl = true}
theorem mkB_cls (hc : ∀ C ∈ As, Cls K C) (hn : ∀ C ∈ As, ∀ x ∈ fl, NoAttr K C x) : ClsOk (mkB K As fl h) (mkB K As fl h).K := by
  have mem : ∀ c, (mkB K As fl h).okC c = true → (mkB K As fl h).A c ∈ As := fun c hc => by
    have hl : c < As.length := of_decide_eq_true hc
    show As[c]?.getD 0 ∈ As
    rw [List.getElem?_eq_getElem hl]
    exact List.getElem_mem hl
  refine ⟨fun c h1 => hc _ (mem c h1), fun c f h1 h2 => ?_⟩
  have hl : f < fl.length := of_decide_eq_true h2
  refine hn _ (mem c h1) _ ?_
  show fldOf fl f ∈ fl
  unfold fldOf
  rw [List.getElem?_eq_getElem hl]
  exact List.getElem_mem hl
theorem mkB_fld (i : Nat) (x : Str) (e : fl[i]? = some x) : (mkB K As fl h).fld i = x ∧ (mkB K As fl h).okF i = true := by
  refine ⟨?_, decide_eq_true (List.getElem?_eq_some_iff.mp e).1⟩
  show fldOf fl i = x
  unfold fldOf
  rw [e]
theorem mkB_nf {m : Str} (hm : m ∉ fl) : ∀ f, (mkB K As fl h).okF f = true → (mkB K As fl h).fld f ≠ m := fun f hf z => by
  have hl : f < fl.length := of_decide_eq_true hf
  refine hm ?_
  rw [← z]
  show fldOf fl f ∈ fl
  unfold fldOf
  rw [List.getElem?_eq_getElem hl]
  exact List.getElem_mem hl
/-- a def without defaults -/
theorem at_mk {S : Sta} {T : Ab.Tab} {f : Nat} {a : Addr} (D : Txt) {oc kV doc pm cdv ct : Value} {od an : Option Addr} {sl : Array (Option Value)} (l : K.lookup a = some ⟨oc, od, .func (PySem.W.fnOf D.x D.qual D.params D.body D.sc .none kV doc pm an cdv ct), sl⟩) (c : PySem.W.codeIn K cdv D.qual = true)
    (k : PySem.W.keepIn K (.ref a) = true) : FunD K D.x D.qual D.params D.body D.sc [] [] a (PySem.W.fnOf D.x D.qual D.params D.body D.sc .none kV doc pm an cdv ct) :=
  ⟨⟨oc, od, .none, kV, doc, pm, an, cdv, ct, sl, rfl, l, c, .inl ⟨rfl, rfl⟩, .inl rfl⟩, k⟩
/-- a def whose last parameter is False if it lacks -/
theorem at_mk1 {S : Sta} {T : Ab.Tab} {f : Nat} {a A2 : Addr} (D : Txt) {oc kV doc pm cdv ct oc2 : Value} {od an od2 : Option Addr} {sl sl2 : Array (Option Value)} {n : Nat} (l : K.lookup a = some ⟨oc, od, .func (PySem.W.fnOf D.x D.qual D.params D.body D.sc (.ref A2) kV doc pm an cdv ct), sl⟩) (c : PySem.W.codeIn K cdv D.qual = true)
    (k : PySem.W.keepIn K (.ref a) = true) (l2 : K.lookup A2 = some ⟨oc2, od2, .seq #[.bool false] n, sl2⟩) : FunD K D.x D.qual D.params D.body D.sc [.bl false] [] a (PySem.W.fnOf D.x D.qual D.params D.body D.sc (.ref A2) kV doc pm an cdv ct) :=
  ⟨⟨oc, od, .ref A2, kV, doc, pm, an, cdv, ct, sl, rfl, l, c, .inr ⟨List.cons_ne_nil _ _, A2, _, [.bool false], n, rfl, l2, rfl, .cons rfl .nil⟩, .inl rfl⟩, k⟩
theorem kbinds1 {x qual : Str} {params : Arguments} {body : List Stmt} {scope : Scope} {dvs : List V} {a : Addr} {fd : FuncData} {ps : List Str} {y : Str} (F : FunD K x qual params body scope dvs [] a fd) (hd : dvs ≠ [])
    (hb : ∀ (A : Addr) (kV doc pm : Value) (an : Option Addr) (cdv ct w : Value) (us its : List Value), us.length = ps.length - 1 → its.length = dvs.length →
      ∃ k, bindArgs (PySem.W.fnOf x qual params body scope (.ref A) kV doc pm an cdv ct) ⟨us, [(y, w)]⟩ = seqItems? (.ref A) >>= k ∧ k (some its.toArray) = pure (ps.zip (us ++ [w]))) : KBn K fd ps (ps.length - 1) [y] (fun us ws => us ++ ws) (fun vs zs => vs ++ zs) := by
  obtain ⟨oc, od, dV, kV, doc, pm, an, cdv, ct, osl, rfl, lk, hcd, hD, hK⟩ := F.ex
  rcases hD with ⟨e, _⟩ | ⟨_, A, o, its, m, rfl, lT, oT, rT⟩
  · exact absurd e hd
  · refine ⟨fun s us ws X l1 l2 => ?_, fun r1 r2 => r1.append r2⟩
    match ws, l2 with
    | [w], _ =>
      obtain ⟨k, e1, e2⟩ := hb A kV doc pm an cdv ct w us its l1 rT.length.symm
      refine BindsTo.of_looks fun M => ?_
      show PySem.W.Looks M s.heap (bindArgs _ ⟨us, [(y, w)]⟩) _
      rw [e1]
      exact looks_items X lT oT (.of_pure e2)
theorem vals_nil {ds : List Value} (h : Vals [] ds) : ds = [] := by cases h; rfl
theorem binds_full {x qual : Str} {params : Arguments} {body : List Stmt} {scope : Scope} {dvs : List V} {a : Addr} {fd : FuncData} {ps : List Str} (F : FunD K x qual params body scope dvs [] a fd) (hd : dvs ≠ [])
    (hb : ∀ (A : Addr) (kV doc pm : Value) (an : Option Addr) (cdv ct : Value) (us its : List Value), us.length = ps.length → its.length = dvs.length →
      ∃ k, bindArgs (PySem.W.fnOf x qual params body scope (.ref A) kV doc pm an cdv ct) ⟨us, []⟩ = seqItems? (.ref A) >>= k ∧ k (some its.toArray) = pure (ps.zip (us ++ its.drop dvs.length))) : Binds K fd ps [] := by
  obtain ⟨ds, h1, h2⟩ := F.binds1 ps.length dvs.length hd (by omega) hb
  rw [List.drop_length] at h1
  rw [vals_nil h1] at h2
  exact h2
end
end Sn
end
section
set_option Elab.async false
set_option linter.all false
set_option autoImplicit false
set_option maxRecDepth 100000
set_option maxHeartbeats 1000000
/-! A small Hoare layer over the machine. -/
namespace Lw
open Ab
/-- it comes to a value, of which Q holds -/
def Wp {α : Type} (m : R α) (Q : α → Sto → Prop) : Prop := ∃ a s, m = some (.ok a, s) ∧ Q a s
theorem wp_ok {α : Type} {a : α} {s : Sto} {Q : α → Sto → Prop} : Wp (ok a s) Q ↔ Q a s := by
  constructor
  · rintro ⟨b, t, e, q⟩
    cases e
    exact q
  · exact fun q => ⟨a, s, rfl, q⟩
theorem wp_bnd {α β : Type} {m : R α} {k : α → Sto → R β} {Q : β → Sto → Prop} : Wp (bnd m k) Q ↔ Wp m fun a s => Wp (k a s) Q := by
  constructor
  · rintro ⟨b, t, e, q⟩
    cases m with
    | none => cases e
    | some p =>
      obtain ⟨r, s⟩ := p
      cases r with
      | error x => cases e
      | ok a => exact ⟨a, s, rfl, b, t, e, q⟩
  · rintro ⟨a, s, rfl, b, t, e, q⟩
    exact ⟨b, t, e, q⟩
theorem wp_pur {α : Type} {o : Option α} {s : Sto} {Q : α → Sto → Prop} : Wp (pur s o) Q ↔ ∃ a, o = some a ∧ Q a s := by
  constructor
  · rintro ⟨b, t, e, q⟩
    cases o with
    | none => cases e
    | some a =>
      cases e
      exact ⟨_, rfl, q⟩
  · rintro ⟨a, rfl, q⟩
    exact ⟨a, s, rfl, q⟩
theorem wp_lift {α : Type} {o : Option (α × Sto)} {Q : α → Sto → Prop} : Wp (lift o) Q ↔ ∃ a s, o = some (a, s) ∧ Q a s := by
  constructor
  · rintro ⟨b, t, e, q⟩
    cases o with
    | none => cases e
    | some p =>
      cases e
      exact ⟨_, _, rfl, q⟩
  · rintro ⟨a, s, rfl, q⟩
    exact ⟨a, s, rfl, q⟩
theorem Wp.imp {α : Type} {m : R α} {Q Q' : α → Sto → Prop} (h : Wp m Q) (k : ∀ a s, Q a s → Q' a s) : Wp m Q' := by
  obtain ⟨a, s, e, q⟩ := h
  exact ⟨a, s, e, k a s q⟩
theorem Wp.bnd' {α β : Type} {m : R α} {k : α → Sto → R β} {Q : α → Sto → Prop} {Q' : β → Sto → Prop} (h : Wp m Q) (g : ∀ a s, Q a s → Wp (k a s) Q') : Wp (bnd m k) Q' := wp_bnd.mpr (h.imp g)
theorem lim_le {n : Nat} (h : n ≤ 100000) : (n ≤ LIM) = True := eq_true h
theorem lim_lt {n : Nat} (h : n < 100000) : (n < LIM) = True := eq_true h
/-- statements: how they end -/
def WpS (m : S) (Q : SR → Env → Sto → Prop) : Prop := ∃ r en s, m = some (r, en, s) ∧ Q r en s
theorem WpS.imp {m : S} {Q Q' : SR → Env → Sto → Prop} (h : WpS m Q) (k : ∀ r en s, Q r en s → Q' r en s) : WpS m Q' := by
  obtain ⟨r, en, s, e, q⟩ := h
  exact ⟨r, en, s, e, k r en s q⟩
theorem ws_now {r : SR} {en : Env} {s : Sto} {Q : SR → Env → Sto → Prop} : WpS (some (r, en, s)) Q ↔ Q r en s := by
  constructor
  · rintro ⟨r', en', s', e, q⟩
    cases e
    exact q
  · exact fun q => ⟨r, en, s, rfl, q⟩
theorem ws_sb {α : Type} {m : R α} {en : Env} {k : α → Sto → S} {Q : SR → Env → Sto → Prop} (h : Wp m fun a s => WpS (k a s) Q) : WpS (sb m en k) Q := by
  obtain ⟨a, s, rfl, q⟩ := h
  exact q
theorem ws_sq {m : S} {k : Env → Sto → S} {Q : SR → Env → Sto → Prop} (h : WpS m fun r en s => match r with
    | .next => WpS (k en s) Q
    | r => Q r en s) : WpS (sq m k) Q := by
  obtain ⟨r, en, s, rfl, q⟩ := h
  cases r with
  | next => exact q
  | _ => exact ⟨_, _, _, rfl, q⟩
variable {C : Ctx} {r : List Stm} {en : Env} {s : Sto} {Q : SR → Env → Sto → Prop}
theorem w_nil (h : Q .next en s) : WpS (execs C [] en s) Q := ⟨_, _, _, rfl, h⟩
theorem w_asg {i : Nat} {e : Ex} (h : Wp (ev C e en s) fun v s => WpS (execs C r (en.set i (some v)) s) Q) : WpS (execs C (.asg (.name i) e :: r) en s) Q := by
  obtain ⟨v, s1, e1, q⟩ := h
  simp only [execs, exec, e1, sb, bindT, Option.map_some, sq]
  exact q
theorem w_asgT {is : List Nat} {e : Ex} (h : Wp (ev C e en s) fun v s => ∃ en1, bindT (.names is) v en = some en1 ∧ WpS (execs C r en1 s) Q) : WpS (execs C (.asg (.names is) e :: r) en s) Q := by
  obtain ⟨v, s1, e1, en1, e2, q⟩ := h
  simp only [execs, exec, e1, sb, e2, Option.map_some, sq]
  exact q
theorem w_expr {e : Ex} (h : Wp (ev C e en s) fun v s => WpS (execs C r en s) Q) : WpS (execs C (.expr e :: r) en s) Q := by
  obtain ⟨v, s1, e1, q⟩ := h
  simp only [execs, exec, e1, sb, sq]
  exact q
theorem w_ret {e : Ex} (h : Wp (ev C e en s) fun v s => Q (.ret v) en s) : WpS (execs C (.ret e :: r) en s) Q := by
  obtain ⟨v, s1, e1, q⟩ := h
  simp only [execs, exec, e1, sb, sq]
  exact ⟨_, _, _, rfl, q⟩
theorem w_asgI {o i e : Ex} (h : Wp (ev C e en s) fun v s => Wp (ev C o en s) fun x s => Wp (ev C i en s) fun y s => ∃ s1, setV x y v s = some s1 ∧ WpS (execs C r en s1) Q) : WpS (execs C (.asgI o i e :: r) en s) Q := by
  obtain ⟨v, s1, e1, x, s2, e2, y, s3, e3, s4, e4, q⟩ := h
  simp only [execs, exec, e1, e2, e3, e4, sb, Option.map_some, sq]
  exact q
theorem w_asgF {o e : Ex} {f : Nat} (h : Wp (ev C e en s) fun v s => Wp (ev C o en s) fun x s => ∃ l c fs, x = .loc l ∧ s[l]? = some (.inst c fs) ∧ fs.length < 900 ∧ WpS (execs C r en (s.set l (.inst c (putF f v fs)))) Q) : WpS (execs C (.asgF o f e :: r) en s) Q := by
  obtain ⟨v, s1, e1, x, s2, e2, l, c, fs, rfl, e3, e4, q⟩ := h
  simp only [execs, exec, e1, e2, e3, e4, sb, if_true, sq]
  exact q
theorem execs_app {a b : List Stm} : ∀ {en : Env} {s : Sto}, execs C (a ++ b) en s = sq (execs C a en s) fun en s => execs C b en s := by
  induction a with
  | nil => intro en s; rfl
  | cons st a ih =>
    intro en s
    show sq (exec C st en s) (fun en s => execs C (a ++ b) en s) = sq (sq (exec C st en s) fun en s => execs C a en s) _
    cases exec C st en s with
    | none => rfl
    | some q =>
      obtain ⟨r, en1, s1⟩ := q
      cases r <;> first | rfl | exact ih
theorem w_if {c : Ex} {a b : List Stm} (h : Wp (ev C c en s) fun v s => ∃ k, v = .bl k ∧ (k = true → WpS (execs C (a ++ r) en s) Q) ∧ (k = false → WpS (execs C (b ++ r) en s) Q)) : WpS (execs C (.ifS c a b :: r) en s) Q := by
  obtain ⟨v, s1, e1, k, rfl, h1, h2⟩ := h
  cases k with
  | true =>
    have := h1 rfl
    rw [execs_app] at this
    simp only [execs, exec, e1, sb]
    exact this
  | false =>
    have := h2 rfl
    rw [execs_app] at this
    simp only [execs, exec, e1, sb]
    exact this
/-- a walk's turns, by an invariant -/
theorem forL_inv {c : Option (Nat × List Val)} {f : Val → Env → Sto → S} (I : Nat → Env → Sto → Prop) (R' : Val → Env → Sto → Prop) {vs : List Val} : ∀ (k : Nat) {en : Env} {s : Sto}, I k en s → k ≤ vs.length → (∀ i en s, I i en s → still c s = true) →
    (∀ i v en s, vs[i]? = some v → I i en s → WpS (f v en s) fun r en s => match r with
      | .next => I (i + 1) en s
      | .cont => I (i + 1) en s
      | .ret x => R' x en s
      | _ => False) → WpS (forL c f (vs.drop k) en s) fun r en s => match r with
      | .next => I vs.length en s
      | .ret x => R' x en s
      | _ => False := by
  intro k
  generalize hn : vs.length - k = n
  induction n generalizing k with
  | zero =>
    intro en s h hk hs hf
    have : k = vs.length := by omega
    subst this
    rw [List.drop_length]
    simp only [forL, hs _ _ _ h, if_true]
    exact ⟨_, _, _, rfl, h⟩
  | succ n ih =>
    intro en s h hk hs hf
    have hl : k < vs.length := by omega
    rw [List.drop_eq_getElem_cons hl]
    simp only [forL, hs _ _ _ h, if_true]
    obtain ⟨r, en1, s1, e1, q⟩ := hf k _ en s (List.getElem?_eq_getElem hl) h
    rw [e1]
    cases r with
    | next => exact ih (k + 1) (by omega) q (by omega) hs hf
    | cont => exact ih (k + 1) (by omega) q (by omega) hs hf
    | ret x => exact ⟨_, _, _, rfl, q⟩
    | brk => exact q.elim
    | err x => exact q.elim
/-- a loop: its walk, an invariant by turns -/
theorem w_for {t : Tg} {it : It} {b : List Stm} (I : Nat → Env → Sto → Prop) (h : Wp (evi C it en s) fun w s => I 0 en s ∧ (∀ i en s, I i en s → still w.2 s = true) ∧
    (∀ i v en s, w.1[i]? = some v → I i en s → ∃ en1, bindT t v en = some en1 ∧ WpS (execs C b en1 s) fun r en s => match r with
      | .next => I (i + 1) en s
      | .cont => I (i + 1) en s
      | .ret x => Q (.ret x) en s
      | _ => False) ∧ ∀ en s, I w.1.length en s → WpS (execs C r en s) Q) : WpS (execs C (.forS t it b :: r) en s) Q := by
  obtain ⟨w, s1, e1, h0, hs, hb, hr⟩ := h
  simp only [execs, exec, e1, sb]
  have := forL_inv (c := w.2) (f := fun v en s => match bindT t v en with
    | some en1 => execs C b en1 s
    | none => none) I (fun x en s => Q (.ret x) en s) (vs := w.1) 0 h0 (Nat.zero_le _) hs fun i v en s hv hi => by
      obtain ⟨en1, e2, q⟩ := hb i v en s hv hi
      simp only [e2]
      exact q
  rw [List.drop_zero] at this
  refine ws_sq (this.imp fun o en s q => ?_)
  cases o with
  | next => exact hr en s q
  | ret x => exact q
  | _ => exact q.elim
theorem w_forE {t : Tg} {it : It} {b : List Stm} {w : Walk} {s1 : Sto} (I : Nat → Env → Sto → Prop) (e1 : evi C it en s = some (.ok w, s1)) (h0 : I 0 en s1) (hs : ∀ i en s, I i en s → still w.2 s = true)
    (hb : ∀ i v en s, w.1[i]? = some v → I i en s → ∃ en1, bindT t v en = some en1 ∧ WpS (execs C b en1 s) fun r en s => match r with
      | .next => I (i + 1) en s
      | .cont => I (i + 1) en s
      | .ret x => Q (.ret x) en s
      | _ => False) (hr : ∀ en s, I w.1.length en s → WpS (execs C r en s) Q) : WpS (execs C (.forS t it b :: r) en s) Q :=
  w_for I ⟨w, s1, e1, h0, hs, hb, hr⟩
/-- a comprehension's turns -/
theorem compL_inv {c : Option (Nat × List Val)} {f : Val → Sto → R (Option Val)} (I : Nat → List Val → Sto → Prop) {vs : List Val} : ∀ (k : Nat) {s : Sto} {acc : List Val}, I k acc s → k ≤ vs.length → (∀ i acc s, I i acc s → still c s = true) →
    (∀ i v acc s, vs[i]? = some v → I i acc s → Wp (f v s) fun o s => I (i + 1) (acc ++ o.toList) s) → Wp (compL c f (vs.drop k) s) fun us s => I vs.length (acc ++ us) s := by
  intro k
  generalize hn : vs.length - k = n
  induction n generalizing k with
  | zero =>
    intro s acc h hk hs hf
    have : k = vs.length := by omega
    subst this
    rw [List.drop_length]
    simp only [compL, hs _ _ _ h, if_true]
    exact wp_ok.mpr (by rw [List.append_nil]; exact h)
  | succ n ih =>
    intro s acc h hk hs hf
    have hl : k < vs.length := by omega
    rw [List.drop_eq_getElem_cons hl]
    simp only [compL, hs _ _ _ h, if_true]
    obtain ⟨o, s1, e1, q⟩ := hf k _ acc s (List.getElem?_eq_getElem hl) h
    rw [e1]
    obtain ⟨us, s2, e2, q2⟩ := ih (k + 1) (by omega) q (by omega) hs hf
    simp only [e2]
    refine ⟨_, _, rfl, ?_⟩
    rw [List.append_assoc] at q2
    exact q2
theorem wp_comp {m : Bool} {elt : Ex} {t : Tg} {it : It} {cond : Option Ex} {own : List Nat} {Q : Val → Sto → Prop} (I : Nat → List Val → Sto → Prop) (h : Wp (evi C it en s) fun w s => w.1.length ≤ LIM ∧ I 0 [] s ∧ (∀ i acc s, I i acc s → still w.2 s = true) ∧
    (∀ i v acc s, w.1[i]? = some v → I i acc s → ∃ en1, bindT t v (wipe en own) = some en1 ∧ Wp (evc C cond en1 s) fun c s => (c = true → Wp (ev C elt en1 s) fun x s => I (i + 1) (acc ++ [x]) s) ∧ (c = false → I (i + 1) acc s)) ∧
    ∀ us s, I w.1.length us s → Q (alloc m us s).1 (alloc m us s).2) : Wp (ev C (.comp m elt t it cond own) en s) Q := by
  obtain ⟨w, s1, e1, hl, h0, hs, hb, hq⟩ := h
  have := compL_inv (c := w.2) (f := fun v s => match bindT t v (wipe en own) with
    | none => none
    | some en1 => bnd (evc C cond en1 s) fun c s => if c = true then bnd (ev C elt en1 s) fun x s => ok (some x) s else ok none s) I (vs := w.1) 0 h0 (Nat.zero_le _) hs fun i v acc s hv hi => by
      obtain ⟨en1, e2, c, s2, e3, q1, q2⟩ := hb i v acc s hv hi
      simp only [e2, e3, bnd]
      cases c with
      | true =>
        obtain ⟨x, s3, e4, q⟩ := q1 rfl
        simp only [if_true, e4]
        exact wp_ok.mpr q
      | false =>
        simp only [Bool.false_eq_true, if_false]
        exact wp_ok.mpr (by rw [show (none : Option Val).toList = [] from rfl, List.append_nil]; exact q2 rfl)
  rw [List.drop_zero] at this
  rw [ev, e1]
  show Wp (if w.1.length ≤ LIM then bnd _ _ else none) Q
  rw [if_pos hl]
  exact this.bnd' fun us s2 q => ⟨_, _, rfl, hq us s2 q⟩
theorem wp_compE {m : Bool} {elt : Ex} {t : Tg} {it : It} {cond : Option Ex} {own : List Nat} {Q : Val → Sto → Prop} {w : Walk} {s1 : Sto} (I : Nat → List Val → Sto → Prop) (e1 : evi C it en s = some (.ok w, s1)) (hl : w.1.length ≤ LIM) (h0 : I 0 [] s1) (hs : ∀ i acc s, I i acc s → still w.2 s = true)
    (hb : ∀ i v acc s, w.1[i]? = some v → I i acc s → ∃ en1, bindT t v (wipe en own) = some en1 ∧ Wp (evc C cond en1 s) fun c s => (c = true → Wp (ev C elt en1 s) fun x s => I (i + 1) (acc ++ [x]) s) ∧ (c = false → I (i + 1) acc s))
    (hq : ∀ us s, I w.1.length us s → Q (alloc m us s).1 (alloc m us s).2) : Wp (ev C (.comp m elt t it cond own) en s) Q :=
  wp_comp I ⟨w, s1, e1, hl, h0, hs, hb, hq⟩
/-- the keys of a dict -/
theorem forKeys_is {c : Sto → R Val} {f : Val → Env → Sto → S} {l : Nat} {kvs : List (AKey × Val)} {en2 : Env} {s1 s2 : Sto} (e0 : c s = some (.ok (.loc l), s1)) (hl : s[l]? = some (.dT kvs)) (e1 : c (s.set l (.dTf kvs)) = some (.ok (.loc l), s.set l (.dTf kvs))) (e2 : forL none f (kvs.map fun p => keyV p.1) en (s.set l (.dTf kvs)) = some (.next, en2, s2)) (h1 : s2[l]? = some (.dTf kvs)) :
    forKeys c f en s = some (.next, en2, s2.set l (.dT kvs)) := by
  simp only [forKeys, e0, hl, e1, if_true, e2, unlock, h1, Option.map_some]
theorem w_forK {t : Tg} {e : Ex} {b : List Stm} {l : Nat} {kvs : List (AKey × Val)} (I : Nat → Env → Sto → Prop) (e0 : ev C e en s = some (.ok (.loc l), s)) (hl : s[l]? = some (.dT kvs)) (e1 : ev C e en (s.set l (.dTf kvs)) = some (.ok (.loc l), s.set l (.dTf kvs))) (h0 : I 0 en (s.set l (.dTf kvs)))
    (hb : ∀ (i : Nat) p en s', kvs[i]? = some p → I i en s' → ∃ en1, bindT t (keyV p.1) en = some en1 ∧ WpS (execs C b en1 s') fun r en s => match r with
      | .next => I (i + 1) en s
      | _ => False) (hr : ∀ en s', I kvs.length en s' → s'[l]? = some (.dTf kvs) ∧ WpS (execs C r en (s'.set l (.dT kvs))) Q) : WpS (execs C (.forK t e b :: r) en s) Q := by
  have key := forL_inv (c := none) (f := fun v en s => match bindT t v en with
    | some en1 => execs C b en1 s
    | none => none) I (fun _ _ _ => False) (vs := kvs.map fun p => keyV p.1) 0 h0 (Nat.zero_le _) (fun _ _ _ _ => rfl) fun i v en s hv hi => by
      rw [List.getElem?_map, Option.map_eq_some_iff] at hv
      obtain ⟨p, hp, rfl⟩ := hv
      obtain ⟨en1, e2, q⟩ := hb i p en s hp hi
      simp only [e2]
      refine q.imp fun o en s z => ?_
      cases o <;> first | exact z | exact z.elim
  rw [List.drop_zero, List.length_map] at key
  obtain ⟨o, en2, s2, e2, q⟩ := key
  cases o with
  | next =>
    obtain ⟨h1, h2⟩ := hr en2 s2 q
    have := forKeys_is e0 hl e1 e2 h1
    simp only [execs, exec]
    exact ws_sq ⟨_, _, _, this, h2⟩
  | _ => exact q.elim
/-- while, by a measure -/
theorem w_whl {c : Ex} {b : List Stm} (I : Nat → Env → Sto → Prop) {m : Nat} (h0 : I m en s) (hm : m < WF) (hb : ∀ m en s, I m en s → Wp (ev C c en s) fun v s1 => (v = .bl false ∧ WpS (execs C r en s1) Q) ∨ (v = .bl true ∧ ∃ m', m = m' + 1 ∧ WpS (execs C b en s1) fun o en s => match o with
      | .next => I m' en s
      | .cont => I m' en s
      | .ret x => Q (.ret x) en s
      | _ => False)) : WpS (execs C (.whl c b :: r) en s) Q := by
  have key : ∀ (n m : Nat) (en : Env) (s : Sto), m < n → I m en s → WpS (whlL (ev C c) (execs C b) n en s) fun o en s => match o with
      | .next => WpS (execs C r en s) Q
      | .ret x => Q (.ret x) en s
      | _ => False := by
    intro n
    induction n with
    | zero => intro m en s h; omega
    | succ n ih =>
      intro m en s h hi
      obtain ⟨v, s1, e1, q⟩ := hb m en s hi
      simp only [whlL, e1, sb]
      rcases q with ⟨rfl, q⟩ | ⟨rfl, m', rfl, o, en2, s2, e2, q⟩
      · exact ⟨_, _, _, rfl, q⟩
      · simp only [e2]
        cases o with
        | next => exact ih m' en2 s2 (by omega) q
        | cont => exact ih m' en2 s2 (by omega) q
        | ret x => exact ⟨_, _, _, rfl, q⟩
        | brk => exact q.elim
        | err x => exact q.elim
  simp only [execs, exec]
  refine ws_sq ((key WF m en s hm h0).imp fun o en s q => ?_)
  cases o with
  | next => exact q
  | ret x => exact q
  | _ => exact q.elim
/-- a def's run -/
theorem wp_run {T : Tab} {k f : Nat} {vs : List Val} {c : Fn} {Q : Val → Sto → Prop} (hc : T.code f = some c) (hl : vs.length = c.np) (h : WpS (execs { T := T, call := callN T k, init := callN T (k - 1) } c.body (vs.map some ++ List.replicate (c.ns - c.np) none) s) fun r _ s => match r with
    | .next => Q .non s
    | .ret v => Q v s
    | _ => False) : Wp (callN T (k + 1) f vs s) Q := by
  have e : callN T (k + 1) = runF T (callN T k) (callN T (k - 1)) := by cases k <;> rfl
  rw [e]
  simp only [runF, hc, if_pos hl]
  obtain ⟨r, en1, s1, e1, q⟩ := h
  rw [e1]
  cases r with
  | next => exact ⟨_, _, rfl, q⟩
  | ret v => exact ⟨_, _, rfl, q⟩
  | brk => exact q.elim
  | cont => exact q.elim
  | err x => exact q.elim
/-! ### what stands -/
/-- all but L stands -/
def Frm (L : List Nat) (s s' : Sto) : Prop := s.length ≤ s'.length ∧ ∀ (i : Nat) o, s[i]? = some o → i ∉ L → s'[i]? = some o
theorem Frm.refl (L : List Nat) (s : Sto) : Frm L s s := ⟨Nat.le_refl _, fun _ _ h _ => h⟩
theorem Frm.trans {L : List Nat} {s s' s'' : Sto} (a : Frm L s s') (b : Frm L s' s'') : Frm L s s'' := ⟨Nat.le_trans a.1 b.1, fun i o h hn => b.2 i o (a.2 i o h hn) hn⟩
theorem Frm.mono {L L' : List Nat} {s s' : Sto} (a : Frm L s s') (h : ∀ i ∈ L, i ∈ L') : Frm L' s s' := ⟨a.1, fun i o e hn => a.2 i o e fun z => hn (h i z)⟩
theorem Frm.set {s : Sto} {l : Nat} {o : SO} : Frm [l] s (s.set l o) := ⟨by simp, fun i o h hn => by rw [List.getElem?_set_ne fun z => hn (by simp [z])]; exact h⟩
theorem Frm.push {s : Sto} {o : SO} : Frm [] s (s ++ [o]) := ⟨by simp, fun i o h _ => by rw [List.getElem?_append_left (List.getElem?_eq_some_iff.mp h).1]; exact h⟩
theorem at_set {s : Sto} {l : Nat} {o o' : SO} (h : s[l]? = some o') : (s.set l o)[l]? = some o := List.getElem?_set_self (List.getElem?_eq_some_iff.mp h).1
theorem at_push {s : Sto} {o : SO} : (s ++ [o])[s.length]? = some o := by simp
end Lw
end
section
set_option Elab.async false
set_option linter.all false
set_option autoImplicit false
set_option maxRecDepth 100000
set_option maxHeartbeats 1000000
/-! The draws that the laws share. -/
namespace Lw
open Ab
/-- _law_take -/
def takeC : List Stm := [(.ifS (.cmp .eq (.item (.var 0) (.cst (.int 0))) (.lst false [])) [(.asgI (.var 0) (.cst (.int 1)) (.bin .mod false (.bin .mul false (.item (.var 0) (.cst (.int 1))) (.cst (.int 48271))) (.cst (.int 2147483647)))), (.ret (.bin .mod false (.bin .fdiv false (.item (.var 0) (.cst (.int 1))) (.cst (.int 7))) (.var 1)))] []), (.asg (.name 2) (.item (.item (.var 0) (.cst (.int 0))) (.cst (.int 0)))), (.asgI (.item (.var 0) (.cst (.int 0))) (.cst (.int 0)) (.bin .fdiv false (.var 2) (.var 1))), (.ifS (.orE (.cmp .eq (.item (.item (.var 0) (.cst (.int 0))) (.cst (.int 0))) (.cst (.int 0))) (.cmp .eq (.item (.item (.var 0) (.cst (.int 0))) (.cst (.int 0))) (.cst (.int (-1))))) [(.expr (.bm .popAt (.item (.var 0) (.cst (.int 0))) [(.cst (.int 0))]))] []), (.ret (.bin .mod false (.var 2) (.var 1)))]
/-- the box of draws: a list of the numbers that are left, and the one that goes on behind them -/
def Box (s : Sto) (b j : Nat) : Prop := ∃ (xs : List Int) (st : Int), s[b]? = some (.list [.loc j, .int st]) ∧ s[j]? = some (.list (xs.map .int))
theorem Box.ne {s : Sto} {b j : Nat} (h : Box s b j) : b ≠ j := by
  obtain ⟨xs, st, h1, h2⟩ := h
  rintro rfl
  rw [h1] at h2
  cases xs with
  | nil => cases h2
  | cons x xs => simp at h2
theorem Box.frm {s s' : Sto} {b j : Nat} {L : List Nat} (h : Box s b j) (f : Frm L s s') (h1 : b ∉ L) (h2 : j ∉ L) : Box s' b j := by
  obtain ⟨xs, st, e1, e2⟩ := h
  exact ⟨xs, st, f.2 _ _ e1 h1, f.2 _ _ e2 h2⟩
/-- places -/
theorem ixN_of {n i : Nat} (h : i < n) : L2.ixN n (i : Nat) = some i := by
  unfold L2.ixN
  rw [if_pos (Int.natCast_nonneg i), if_pos (Int.ofNat_lt.mpr h), Int.toNat_natCast]
theorem atI_of {α : Type} {xs : List α} {i : Nat} {x : α} (h : xs[i]? = some x) : L2.atI xs (i : Nat) = some x := by
  unfold L2.atI
  rw [ixN_of (List.getElem?_eq_some_iff.mp h).1]
  exact h
theorem atI_zero {α : Type} {x : α} {xs : List α} : L2.atI (x :: xs) 0 = some x := atI_of (i := 0) rfl
theorem mulOk_r {i j : Int} (h : -(2 ^ 64) < j ∧ j < 2 ^ 64) : mulOk i j = true := decide_eq_true (.inr h)
theorem res_ints (s : Sto) (n : Nat) : ∀ xs : List Int, (xs.map Val.int).mapM (res s (n + 1)) = some (xs.map Val.int)
  | [] => rfl
  | x :: xs => by
    rw [List.map_cons, List.mapM_cons, res_ints s n xs]
    rfl
theorem eq_empty {s : Sto} {j : Nat} {xs : List Int} (h : s[j]? = some (.list (xs.map .int))) : eqV s (.loc j) (.lst []) = some xs.isEmpty := by
  have e1 : res s DEEP (.loc j) = some (.lst (xs.map .int)) := by
    show (match s[j]? with | some (.list vs) => (vs.mapM (res s 11)).map Val.lst | _ => none) = _
    rw [h]
    show ((xs.map Val.int).mapM (res s 11)).map Val.lst = _
    rw [res_ints s 10]
    rfl
  have e2 : res s DEEP (.lst []) = some (.lst []) := rfl
  unfold eqV
  rw [e1, e2]
  cases xs <;> rfl
theorem eq_ints {s : Sto} {i j : Int} : eqV s (.int i) (.int j) = some (i == j) := rfl
section
variable {T : Tab} {k f : Nat} {s : Sto}
theorem take_ok {b j : Nat} {many : Int} (hc : T.code f = some ⟨2, 3, takeC⟩) (hb : Box s b j) (h0 : 0 < many) (h1 : many < 1073741824) :
    Wp (callN T (k + 1) f [.loc b, .int many] s) fun v s' => ∃ r : Int, v = .int r ∧ 0 ≤ r ∧ r < many ∧ Box s' b j ∧ Frm [b, j] s s' ∧ s'.length = s.length := by
  have hne := hb.ne
  obtain ⟨xs, st, e1, e2⟩ := hb
  refine wp_run hc rfl ?_
  have m0 : ∀ x : Int, 0 ≤ x % many ∧ x % many < many := fun x => ⟨Int.emod_nonneg _ (by omega), Int.emod_lt_of_pos _ h0⟩
  have i0 : L2.atI [Val.loc j, .int st] 0 = some (.loc j) := rfl
  have i1 : L2.atI [Val.loc j, .int st] 1 = some (.int st) := rfl
  refine w_if ?_
  simp only [ev, evs, evo, evc, evi, wp_bnd, wp_ok, wp_pur, wp_lift, List.map_cons, List.map_nil, List.cons_append, List.nil_append, List.getElem?_cons_zero, List.getElem?_cons_succ, List.set_cons_zero, List.set_cons_succ, List.replicate_succ, List.replicate_zero, Nat.reduceSub, itemV, seqOf, lstOf, Option.bind_some, Option.bind_none, cmpV, binV, biV, bmV, bmTy, alloc, Option.map_some, Option.map_none, Bool.false_eq_true, if_false, if_true, Option.some.injEq, Prod.mk.injEq, Val.bl.injEq, Val.int.injEq, Val.loc.injEq, Val.str.injEq, Val.lst.injEq, Val.tup.injEq, exists_eq_left', exists_eq_left, exists_and_left, exists_and_right, and_assoc, true_and, and_true, Option.isSome_some, id_eq, Bool.not_true, Bool.not_false, optI, List.length_cons, List.length_nil, lim_le, lim_lt, Nat.zero_add, Nat.reduceAdd, Nat.reduceLeDiff, Nat.zero_le, Nat.reduceLT, e1, i0, eq_empty e2]
  refine ⟨fun h => ?_, fun h => ?_⟩
  · -- behind the numbers
    refine w_asgI ?_
    have z0 : mulOk st 48271 = true := mulOk_r (by decide)
    have z1 : (0 : Int) < 2147483647 := by decide
    simp only [ev, evs, evo, evc, evi, wp_bnd, wp_ok, wp_pur, wp_lift, List.map_cons, List.map_nil, List.cons_append, List.nil_append, List.getElem?_cons_zero, List.getElem?_cons_succ, List.set_cons_zero, List.set_cons_succ, List.replicate_succ, List.replicate_zero, Nat.reduceSub, itemV, seqOf, lstOf, Option.bind_some, Option.bind_none, cmpV, binV, biV, bmV, bmTy, alloc, Option.map_some, Option.map_none, Bool.false_eq_true, if_false, if_true, Option.some.injEq, Prod.mk.injEq, Val.bl.injEq, Val.int.injEq, Val.loc.injEq, Val.str.injEq, Val.lst.injEq, Val.tup.injEq, exists_eq_left', exists_eq_left, exists_and_left, exists_and_right, and_assoc, true_and, and_true, Option.isSome_some, id_eq, Bool.not_true, Bool.not_false, optI, List.length_cons, List.length_nil, lim_le, lim_lt, Nat.zero_add, Nat.reduceAdd, Nat.reduceLeDiff, Nat.zero_le, Nat.reduceLT, e1, i1, z0, z1]
    have z2 : L2.ixN 2 1 = some 1 := rfl
    refine ⟨s.set b (.list [.loc j, .int (st * 48271 % 2147483647)]), ?_, ?_⟩
    · simp only [setV, e1]
      rfl
    · have f1 := at_set (o := .list [.loc j, .int (st * 48271 % 2147483647)]) e1
      have f2 : (s.set b (.list [.loc j, .int (st * 48271 % 2147483647)]))[j]? = some (.list (xs.map .int)) := by rw [List.getElem?_set_ne hne]; exact e2
      refine w_ret ?_
      have z3 : L2.atI [Val.loc j, .int (st * 48271 % 2147483647)] 1 = some (.int (st * 48271 % 2147483647)) := rfl
      have z4 : (0 : Int) < 7 ∧ (7 : Int) < 1073741824 := by decide
      simp only [ev, evs, evo, evc, evi, wp_bnd, wp_ok, wp_pur, wp_lift, List.map_cons, List.map_nil, List.cons_append, List.nil_append, List.getElem?_cons_zero, List.getElem?_cons_succ, List.set_cons_zero, List.set_cons_succ, List.replicate_succ, List.replicate_zero, Nat.reduceSub, itemV, seqOf, lstOf, Option.bind_some, Option.bind_none, cmpV, binV, biV, bmV, bmTy, alloc, Option.map_some, Option.map_none, Bool.false_eq_true, if_false, if_true, Option.some.injEq, Prod.mk.injEq, Val.bl.injEq, Val.int.injEq, Val.loc.injEq, Val.str.injEq, Val.lst.injEq, Val.tup.injEq, exists_eq_left', exists_eq_left, exists_and_left, exists_and_right, and_assoc, true_and, and_true, Option.isSome_some, id_eq, Bool.not_true, Bool.not_false, optI, List.length_cons, List.length_nil, lim_le, lim_lt, Nat.zero_add, Nat.reduceAdd, Nat.reduceLeDiff, Nat.zero_le, Nat.reduceLT, f1, z3, if_pos z4, if_pos h0]
      exact ⟨(m0 _).1, (m0 _).2, ⟨xs, _, f1, f2⟩, Frm.set.mono (by simp), by simp⟩
  · cases xs with
    | nil => cases h
    | cons x xs =>
      have i2 : L2.atI (Val.int x :: xs.map Val.int) 0 = some (.int x) := atI_zero
      refine w_asg ?_
      simp only [ev, evs, evo, evc, evi, wp_bnd, wp_ok, wp_pur, wp_lift, List.map_cons, List.map_nil, List.cons_append, List.nil_append, List.getElem?_cons_zero, List.getElem?_cons_succ, List.set_cons_zero, List.set_cons_succ, List.replicate_succ, List.replicate_zero, Nat.reduceSub, itemV, seqOf, lstOf, Option.bind_some, Option.bind_none, cmpV, binV, biV, bmV, bmTy, alloc, Option.map_some, Option.map_none, Bool.false_eq_true, if_false, if_true, Option.some.injEq, Prod.mk.injEq, Val.bl.injEq, Val.int.injEq, Val.loc.injEq, Val.str.injEq, Val.lst.injEq, Val.tup.injEq, exists_eq_left', exists_eq_left, exists_and_left, exists_and_right, and_assoc, true_and, and_true, Option.isSome_some, id_eq, Bool.not_true, Bool.not_false, optI, List.length_cons, List.length_nil, lim_le, lim_lt, Nat.zero_add, Nat.reduceAdd, Nat.reduceLeDiff, Nat.zero_le, Nat.reduceLT, e1, i0, e2, i2]
      refine w_asgI ?_
      simp only [ev, evs, evo, evc, evi, wp_bnd, wp_ok, wp_pur, wp_lift, List.map_cons, List.map_nil, List.cons_append, List.nil_append, List.getElem?_cons_zero, List.getElem?_cons_succ, List.set_cons_zero, List.set_cons_succ, List.replicate_succ, List.replicate_zero, Nat.reduceSub, itemV, seqOf, lstOf, Option.bind_some, Option.bind_none, cmpV, binV, biV, bmV, bmTy, alloc, Option.map_some, Option.map_none, Bool.false_eq_true, if_false, if_true, Option.some.injEq, Prod.mk.injEq, Val.bl.injEq, Val.int.injEq, Val.loc.injEq, Val.str.injEq, Val.lst.injEq, Val.tup.injEq, exists_eq_left', exists_eq_left, exists_and_left, exists_and_right, and_assoc, true_and, and_true, Option.isSome_some, id_eq, Bool.not_true, Bool.not_false, optI, List.length_cons, List.length_nil, lim_le, lim_lt, Nat.zero_add, Nat.reduceAdd, Nat.reduceLeDiff, Nat.zero_le, Nat.reduceLT, e1, i0, if_pos (And.intro h0 h1)]
      refine ⟨s.set j (.list (Val.int (x / many) :: xs.map .int)), ?_, ?_⟩
      · simp only [setV, e2, List.map_cons]
        rw [show L2.ixN (Val.int x :: xs.map Val.int).length 0 = some 0 from ixN_of (i := 0) (by simp)]
        rfl
      · have f1 : (s.set j (.list (Val.int (x / many) :: xs.map .int)))[b]? = some (.list [.loc j, .int st]) := by rw [List.getElem?_set_ne hne.symm]; exact e1
        have f2 := at_set (o := .list (Val.int (x / many) :: xs.map .int)) e2
        have i3 : L2.atI (Val.int (x / many) :: xs.map Val.int) 0 = some (.int (x / many)) := atI_zero
        have fr : Frm [b, j] s (s.set j (.list (Val.int (x / many) :: xs.map .int))) := Frm.set.mono (by simp)
        refine w_if ?_
        have key : Wp (ev { T := T, call := callN T k, init := callN T (k - 1) } (.orE (.cmp .eq (.item (.item (.var 0) (.cst (.int 0))) (.cst (.int 0))) (.cst (.int 0))) (.cmp .eq (.item (.item (.var 0) (.cst (.int 0))) (.cst (.int 0))) (.cst (.int (-1)))))
            [some (.loc b), some (.int many), some (.int x)] (s.set j (.list (Val.int (x / many) :: xs.map .int)))) fun v s1 => s1 = s.set j (.list (Val.int (x / many) :: xs.map .int)) ∧ ∃ q, v = .bl q := by
          simp only [ev, evs, evo, evc, evi, wp_bnd, wp_ok, wp_pur, wp_lift, List.map_cons, List.map_nil, List.cons_append, List.nil_append, List.getElem?_cons_zero, List.getElem?_cons_succ, List.set_cons_zero, List.set_cons_succ, List.replicate_succ, List.replicate_zero, Nat.reduceSub, itemV, seqOf, lstOf, Option.bind_some, Option.bind_none, cmpV, binV, biV, bmV, bmTy, alloc, Option.map_some, Option.map_none, Bool.false_eq_true, if_false, if_true, Option.some.injEq, Prod.mk.injEq, Val.bl.injEq, Val.int.injEq, Val.loc.injEq, Val.str.injEq, Val.lst.injEq, Val.tup.injEq, exists_eq_left', exists_eq_left, exists_and_left, exists_and_right, and_assoc, true_and, and_true, Option.isSome_some, id_eq, Bool.not_true, Bool.not_false, optI, List.length_cons, List.length_nil, lim_le, lim_lt, Nat.zero_add, Nat.reduceAdd, Nat.reduceLeDiff, Nat.zero_le, Nat.reduceLT, f1, i0, f2, i3, eq_ints]
          by_cases c : x / many = 0
          · rw [c]
            exact wp_ok.mpr ⟨rfl, _, rfl⟩
          · have c' : (x / many == 0) = false := by simpa using c
            simp only [c', ev, evs, evo, evc, evi, wp_bnd, wp_ok, wp_pur, wp_lift, List.map_cons, List.map_nil, List.cons_append, List.nil_append, List.getElem?_cons_zero, List.getElem?_cons_succ, List.set_cons_zero, List.set_cons_succ, List.replicate_succ, List.replicate_zero, Nat.reduceSub, itemV, seqOf, lstOf, Option.bind_some, Option.bind_none, cmpV, binV, biV, bmV, bmTy, alloc, Option.map_some, Option.map_none, Bool.false_eq_true, if_false, if_true, Option.some.injEq, Prod.mk.injEq, Val.bl.injEq, Val.int.injEq, Val.loc.injEq, Val.str.injEq, Val.lst.injEq, Val.tup.injEq, exists_eq_left', exists_eq_left, exists_and_left, exists_and_right, and_assoc, true_and, and_true, Option.isSome_some, id_eq, Bool.not_true, Bool.not_false, optI, List.length_cons, List.length_nil, lim_le, lim_lt, Nat.zero_add, Nat.reduceAdd, Nat.reduceLeDiff, Nat.zero_le, Nat.reduceLT, f1, i0, f2, i3, eq_ints]
            exact ⟨_, rfl⟩
        refine key.imp ?_
        rintro v s1 ⟨rfl, q, rfl⟩
        refine ⟨q, rfl, fun _ => ?_, fun _ => ?_⟩
        · refine w_expr ?_
          have z5 : (0 : Int) ≤ 0 ∧ (0 : Int) < 1000000000 := by decide
          simp only [ev, evs, evo, evc, evi, wp_bnd, wp_ok, wp_pur, wp_lift, List.map_cons, List.map_nil, List.cons_append, List.nil_append, List.getElem?_cons_zero, List.getElem?_cons_succ, List.set_cons_zero, List.set_cons_succ, List.replicate_succ, List.replicate_zero, Nat.reduceSub, itemV, seqOf, lstOf, Option.bind_some, Option.bind_none, cmpV, binV, biV, bmV, bmTy, alloc, Option.map_some, Option.map_none, Bool.false_eq_true, if_false, if_true, Option.some.injEq, Prod.mk.injEq, Val.bl.injEq, Val.int.injEq, Val.loc.injEq, Val.str.injEq, Val.lst.injEq, Val.tup.injEq, exists_eq_left', exists_eq_left, exists_and_left, exists_and_right, and_assoc, true_and, and_true, Option.isSome_some, id_eq, Bool.not_true, Bool.not_false, optI, List.length_cons, List.length_nil, lim_le, lim_lt, Nat.zero_add, Nat.reduceAdd, Nat.reduceLeDiff, Nat.zero_le, Nat.reduceLT, f1, i0, f2, if_pos z5, Int.toNat_zero, List.eraseIdx_cons_zero]
          refine w_ret ?_
          simp only [ev, evs, evo, evc, evi, wp_bnd, wp_ok, wp_pur, wp_lift, List.map_cons, List.map_nil, List.cons_append, List.nil_append, List.getElem?_cons_zero, List.getElem?_cons_succ, List.set_cons_zero, List.set_cons_succ, List.replicate_succ, List.replicate_zero, Nat.reduceSub, itemV, seqOf, lstOf, Option.bind_some, Option.bind_none, cmpV, binV, biV, bmV, bmTy, alloc, Option.map_some, Option.map_none, Bool.false_eq_true, if_false, if_true, Option.some.injEq, Prod.mk.injEq, Val.bl.injEq, Val.int.injEq, Val.loc.injEq, Val.str.injEq, Val.lst.injEq, Val.tup.injEq, exists_eq_left', exists_eq_left, exists_and_left, exists_and_right, and_assoc, true_and, and_true, Option.isSome_some, id_eq, Bool.not_true, Bool.not_false, optI, List.length_cons, List.length_nil, lim_le, lim_lt, Nat.zero_add, Nat.reduceAdd, Nat.reduceLeDiff, Nat.zero_le, Nat.reduceLT, if_pos h0]
          refine ⟨(m0 _).1, (m0 _).2, ⟨xs, st, ?_, at_set f2⟩, fr.trans (Frm.set.mono (by simp)), by simp⟩
          rw [List.getElem?_set_ne hne.symm]
          exact f1
        · refine w_ret ?_
          simp only [ev, evs, evo, evc, evi, wp_bnd, wp_ok, wp_pur, wp_lift, List.map_cons, List.map_nil, List.cons_append, List.nil_append, List.getElem?_cons_zero, List.getElem?_cons_succ, List.set_cons_zero, List.set_cons_succ, List.replicate_succ, List.replicate_zero, Nat.reduceSub, itemV, seqOf, lstOf, Option.bind_some, Option.bind_none, cmpV, binV, biV, bmV, bmTy, alloc, Option.map_some, Option.map_none, Bool.false_eq_true, if_false, if_true, Option.some.injEq, Prod.mk.injEq, Val.bl.injEq, Val.int.injEq, Val.loc.injEq, Val.str.injEq, Val.lst.injEq, Val.tup.injEq, exists_eq_left', exists_eq_left, exists_and_left, exists_and_right, and_assoc, true_and, and_true, Option.isSome_some, id_eq, Bool.not_true, Bool.not_false, optI, List.length_cons, List.length_nil, lim_le, lim_lt, Nat.zero_add, Nat.reduceAdd, Nat.reduceLeDiff, Nat.zero_le, Nat.reduceLT, if_pos h0]
          exact ⟨(m0 _).1, (m0 _).2, ⟨x / many :: xs, st, f1, f2⟩, fr, by simp⟩
end
end Lw
end
section
set_option Elab.async false
set_option linter.all false
set_option autoImplicit false
set_option maxRecDepth 100000
set_option maxHeartbeats 1000000
/-! The draws that the laws share: the box at its beginning, the words. -/
namespace Lw
open Ab
/-- _law_begun -/
def begunC : List Stm := [(.asg (.name 1) (.cst (.int 0))), (.forS (.name 2) (.val (.var 0)) [(.asg (.name 1) (.bin .mod false (.bin .add false (.bin .add false (.bin .mul false (.var 1) (.cst (.int 48271))) (.bin .mul false (.var 2) (.cst (.int 69621)))) (.cst (.int 11))) (.cst (.int 2147483647))))]), (.ret (.lst true [(.bi .list true [(.var 0)]), (.bin .mul false (.var 1) (.bi .int false [(.cmp .gt (.bi .len false [(.var 0)]) (.cst (.int 2)))]))]))]
section
variable {T : Tab} {k f : Nat} {s : Sto}
theorem begun_ok {ns : List Int} (hc : T.code f = some ⟨1, 3, begunC⟩) : Wp (callN T (k + 1) f [.scr ns] s) fun v s' => ∃ b j, v = .loc b ∧ Box s' b j ∧ Frm [] s s' ∧ s.length ≤ b ∧ s.length ≤ j := by
  refine wp_run hc rfl ?_
  refine w_asg ?_
  simp only [ev, evs, evo, evc, evi, wp_bnd, wp_ok, wp_pur, wp_lift, List.map_cons, List.map_nil, List.cons_append, List.nil_append, List.getElem?_cons_zero, List.getElem?_cons_succ, List.set_cons_zero, List.set_cons_succ, List.replicate_succ, List.replicate_zero, Nat.reduceSub, itemV, seqOf, lstOf, Option.bind_some, Option.bind_none, cmpV, binV, biV, bmV, bmTy, alloc, Option.map_some, Option.map_none, Bool.false_eq_true, if_false, if_true, Option.some.injEq, Prod.mk.injEq, Val.bl.injEq, Val.int.injEq, Val.loc.injEq, Val.str.injEq, Val.lst.injEq, Val.tup.injEq, exists_eq_left', exists_eq_left, exists_and_left, exists_and_right, and_assoc, true_and, and_true, Option.isSome_some, id_eq, Bool.not_true, Bool.not_false, optI, List.length_cons, List.length_nil, lim_le, lim_lt, Nat.zero_add, Nat.reduceAdd, Nat.reduceLeDiff, Nat.zero_le, Nat.reduceLT]
  refine w_forE (fun _ en s' => s' = s ∧ ∃ (x : Int) (o : Option Val), en = [some (.scr ns), some (.int x), o]) (w := (ns.map .int, none)) (s1 := s) ?_ ⟨rfl, 0, none, rfl⟩ (fun _ _ _ _ => rfl) ?_ ?_
  · simp only [ev, evs, evo, evc, evi, bnd, ok, pur, lift, List.map_cons, List.map_nil, List.cons_append, List.nil_append, List.getElem?_cons_zero, List.getElem?_cons_succ, List.set_cons_zero, List.set_cons_succ, List.replicate_succ, List.replicate_zero, Nat.reduceSub, itemV, seqOf, lstOf, Option.bind_some, Option.bind_none, cmpV, binV, biV, bmV, bmTy, alloc, Option.map_some, Option.map_none, Bool.false_eq_true, if_false, if_true, optI, walkV, List.length_cons, List.length_nil, lim_le, lim_lt, Nat.zero_add, Nat.reduceAdd, Nat.reduceLeDiff, Nat.zero_le, Nat.reduceLT, Option.isSome_some]
  · rintro i v en s' hv ⟨rfl, x, o, rfl⟩
    rw [List.getElem?_map] at hv
    cases e : ns[i]? with
    | none => rw [e] at hv; cases hv
    | some n =>
      rw [e] at hv
      cases hv
      refine ⟨_, rfl, ?_⟩
      refine w_asg ?_
      have z0 : mulOk x 48271 = true := mulOk_r (by decide)
      have z1 : mulOk n 69621 = true := mulOk_r (by decide)
      have z2 : (0 : Int) < 2147483647 := by decide
      simp only [ev, evs, evo, evc, evi, wp_bnd, wp_ok, wp_pur, wp_lift, List.map_cons, List.map_nil, List.cons_append, List.nil_append, List.getElem?_cons_zero, List.getElem?_cons_succ, List.set_cons_zero, List.set_cons_succ, List.replicate_succ, List.replicate_zero, Nat.reduceSub, itemV, seqOf, lstOf, Option.bind_some, Option.bind_none, cmpV, binV, biV, bmV, bmTy, alloc, Option.map_some, Option.map_none, Bool.false_eq_true, if_false, if_true, Option.some.injEq, Prod.mk.injEq, Val.bl.injEq, Val.int.injEq, Val.loc.injEq, Val.str.injEq, Val.lst.injEq, Val.tup.injEq, exists_eq_left', exists_eq_left, exists_and_left, exists_and_right, and_assoc, true_and, and_true, Option.isSome_some, id_eq, Bool.not_true, Bool.not_false, optI, List.length_cons, List.length_nil, lim_le, lim_lt, Nat.zero_add, Nat.reduceAdd, Nat.reduceLeDiff, Nat.zero_le, Nat.reduceLT, z0, z1, if_pos z2]
      exact w_nil ⟨rfl, _, _, rfl⟩
  · rintro en s' ⟨rfl, x, o, rfl⟩
    refine w_ret ?_
    have z : ∀ q : Bool, mulOk x (if q = true then 1 else 0) = true := fun q => mulOk_r (by cases q <;> decide)
    simp only [ev, evs, evo, evc, evi, wp_bnd, wp_ok, wp_pur, wp_lift, List.map_cons, List.map_nil, List.cons_append, List.nil_append, List.getElem?_cons_zero, List.getElem?_cons_succ, List.set_cons_zero, List.set_cons_succ, List.replicate_succ, List.replicate_zero, Nat.reduceSub, itemV, seqOf, lstOf, Option.bind_some, Option.bind_none, cmpV, binV, biV, bmV, bmTy, alloc, Option.map_some, Option.map_none, Bool.false_eq_true, if_false, if_true, Option.some.injEq, Prod.mk.injEq, Val.bl.injEq, Val.int.injEq, Val.loc.injEq, Val.str.injEq, Val.lst.injEq, Val.tup.injEq, exists_eq_left', exists_eq_left, exists_and_left, exists_and_right, and_assoc, true_and, and_true, Option.isSome_some, id_eq, Bool.not_true, Bool.not_false, optI, List.length_cons, List.length_nil, lim_le, lim_lt, Nat.zero_add, Nat.reduceAdd, Nat.reduceLeDiff, Nat.zero_le, Nat.reduceLT, z]
    refine ⟨s'.length, ⟨ns, _, at_push, by rw [List.getElem?_append_left (by simp)]; exact at_push⟩, ⟨by simp, fun i o h _ => ?_⟩, by simp, Nat.le_refl _⟩
    have := (List.getElem?_eq_some_iff.mp h).1
    rw [List.getElem?_append_left (by simp; omega), List.getElem?_append_left this]
    exact h
/-- _law_words, n the number of _law_take -/
def wordsC (n : Nat) : List Stm := [(.asg (.name 1) (.cst (.str [97, 98, 99, 100, 101, 102, 103, 104, 105, 106, 107, 108, 109, 110, 111, 112, 113, 114, 115, 116, 117, 118, 119, 120, 121, 122]))), (.asg (.name 2) (.comp false (.item (.var 1) (.call n [(.var 0), (.cst (.int 26))])) (.name 7) (.rng1 (.cst (.int 6))) none [7])), (.asg (.name 3) (.call n [(.var 0), (.cst (.int 26))])), (.asg (.name 4) (.call n [(.var 0), (.cst (.int 3))])), (.ifS (.cmp .eq (.var 4) (.cst (.int 0))) [(.asg (.name 7) (.call n [(.var 0), (.cst (.int 6))])), (.asg (.name 8) (.bin .add false (.bin .add false (.var 7) (.cst (.int 1))) (.call n [(.var 0), (.bin .sub false (.cst (.int 6)) (.var 7))]))), (.asg (.name 9) (.item (.lst false [(.cst (.int 1)), (.cst (.int 3)), (.cst (.int 5)), (.cst (.int 7))]) (.call n [(.var 0), (.cst (.int 4))]))), (.asg (.name 10) (.comp false (.item (.var 1) (.bin .mod false (.bin .add false (.var 3) (.bin .mul false (.var 9) (.var 6))) (.cst (.int 26)))) (.name 6) (.rng1 (.cst (.int 14))) none [6])), (.ret (.comp false (.bm .join (.cst (.str [])) [(.bin .add false (.bin .add false (.slice false (.var 2) none (some (.var 7))) (.lst false [(.var 13)])) (.slice false (.var 2) (some (.bin .add false (.var 7) (.cst (.int 1)))) (some (.var 8))))]) (.name 13) (.val (.var 10)) none [13]))] []), (.ifS (.cmp .eq (.var 4) (.cst (.int 1))) [(.ret (.comp false (.bin .add false (.item (.var 1) (.bin .mod false (.bin .add false (.var 3) (.bin .fdiv false (.var 6) (.cst (.int 6)))) (.cst (.int 26)))) (.bm .join (.cst (.str [])) [(.slice false (.var 2) (some (.cst (.int 1))) (some (.bin .add false (.cst (.int 1)) (.bin .mod false (.var 6) (.cst (.int 6))))))])) (.name 6) (.rng1 (.cst (.int 14))) none [6]))] []), (.asg (.name 5) (.lst true [])), (.forS (.name 6) (.rng1 (.cst (.int 14))) [(.asg (.name 11) (.cst (.str []))), (.asg (.name 12) (.bin .add false (.var 6) (.cst (.int 2)))), (.whl (.cmp .gt (.var 12) (.cst (.int 1))) [(.asg (.name 11) (.bin .add false (.item (.var 1) (.bin .mod false (.bin .add false (.var 3) (.bin .mod false (.var 12) (.cst (.int 2)))) (.cst (.int 26)))) (.var 11))), (.asg (.name 12) (.bin .fdiv false (.var 12) (.cst (.int 2))))]), (.expr (.bm .append (.var 5) [(.var 11)]))]), (.ret (.var 5))]
/-- the letters -/
def letters : Txt := [97, 98, 99, 100, 101, 102, 103, 104, 105, 106, 107, 108, 109, 110, 111, 112, 113, 114, 115, 116, 117, 118, 119, 120, 121, 122]
/-- a letter by its number -/
def lt (r : Int) : Nat := letters[r.toNat]?.getD 97
theorem letter {r : Int} (h0 : 0 ≤ r) (h1 : r < 26) : L2.atI letters r = some (lt r) := by
  obtain ⟨i, rfl⟩ : ∃ i : Nat, r = (i : Nat) := ⟨r.toNat, by omega⟩
  have hi : i < letters.length := by show i < 26; omega
  refine atI_of ?_
  unfold lt
  rw [Int.toNat_natCast, List.getElem?_eq_getElem hi]
  rfl
theorem let_len : letters.length ≤ 100000 := by decide
/-- a list of texts -/
def strV (cs : List Nat) : List Val := cs.map fun c => .str [c]
theorem rng_at {n i : Nat} {v : Val} (h : (rngV 0 n)[i]? = some v) : v = .int (i : Nat) ∧ i < n := by
  unfold rngV at h
  rw [List.getElem?_map] at h
  cases e : (List.range n)[i]? with
  | none => rw [e] at h; cases h
  | some k =>
    rw [e] at h
    cases h
    have := List.getElem?_eq_some_iff.mp e
    obtain ⟨h1, h2⟩ := this
    rw [List.getElem_range] at h2
    subst h2
    exact ⟨by simp, by simpa using h1⟩
theorem join_flat : ∀ xs : List Txt, joinT [] xs = xs.flatten
  | [] => rfl
  | [x] => by simp [joinT, TL.joinL]
  | x :: y :: r => by
    have := join_flat (y :: r)
    simp only [joinT, TL.joinL, List.nil_append, List.flatten_cons] at this ⊢
    rw [this]
theorem strs_of : ∀ xs : List Txt, strsOf (xs.map .str) = some xs
  | [] => rfl
  | x :: xs => by simp [strsOf, strs_of xs]
theorem strs_strV (cs : List Nat) : strsOf (strV cs) = some (cs.map fun c => [c]) := by
  have : strV cs = (cs.map fun c => [c]).map .str := by simp [strV]
  rw [this, strs_of]
theorem flat_one (cs : List Nat) : (cs.map fun c => [c]).flatten = cs := by
  induction cs with
  | nil => rfl
  | cons c cs ih => rw [List.map_cons, List.flatten_cons, ih]; rfl
theorem cut_nat {α : Type} {xs : List α} {a b : Nat} (hb : b ≤ xs.length) (ha : a ≤ xs.length) : cut xs (some (a : Nat)) (some (b : Nat)) = (xs.take b).drop a := by
  unfold cut
  rw [HT.sIx_nat, HT.sIx_nat, Nat.min_eq_left hb, Nat.min_eq_left ha]
theorem cut_to {α : Type} {xs : List α} {b : Nat} (hb : b ≤ xs.length) : cut xs none (some (b : Nat)) = xs.take b := by
  unfold cut
  rw [HT.sIx_nat, Nat.min_eq_left hb]
  rfl
theorem cut_from {α : Type} {xs : List α} {a : Nat} (ha : a ≤ xs.length) : cut xs (some (a : Nat)) none = xs.drop a := by
  unfold cut
  rw [HT.sIx_nat, Nat.min_eq_left ha]
  show (xs.take xs.length).drop a = _
  rw [List.take_length]
/-- words as the laws draw them -/
structure WordsAt (ws : List Txt) : Prop where
  len : ws.length = 14
  nd : ws.Nodup
  ok : ∀ w ∈ ws, 1 ≤ w.length ∧ w.length ≤ 6 ∧ ∀ c ∈ w, c ∈ letters
def Words (s : Sto) (b j : Nat) (v : Val) (s' : Sto) : Prop := ∃ ws : List Txt, lstOf s' v = some (ws.map .str) ∧ WordsAt ws ∧ Box s' b j ∧ Frm [b, j] s s' ∧ ∀ l, v = .loc l → s.length ≤ l
theorem lt_in (r : Int) : lt r ∈ letters := by
  unfold lt
  cases e : letters[r.toNat]? with
  | none => show 97 ∈ letters; decide
  | some c => exact List.mem_of_getElem? e
/-- the first sort of words -/
def w0 (base : List Nat) (place size : Nat) (c : Nat) : Txt := base.take place ++ [c] ++ (base.take size).drop (place + 1)
def oth (first step : Int) : List Nat := (List.range 14).map fun k => lt ((first + step * (k : Nat)) % 26)
theorem oth_nd {first step : Int} (h0 : 0 ≤ first) (h1 : first < 26) (hs : step = 1 ∨ step = 3 ∨ step = 5 ∨ step = 7) : (oth first step).Nodup := by
  obtain ⟨i, rfl⟩ : ∃ i : Nat, first = (i : Nat) := ⟨first.toNat, by omega⟩
  have hi : i < 26 := by omega
  have all : ∀ i, i < 26 → (oth (i : Nat) 1).Nodup ∧ (oth (i : Nat) 3).Nodup ∧ (oth (i : Nat) 5).Nodup ∧ (oth (i : Nat) 7).Nodup := by decide +kernel
  obtain ⟨a, b, c, d⟩ := all i hi
  rcases hs with rfl | rfl | rfl | rfl <;> assumption
theorem nodup_map {α β : Type} {g : α → β} (hg : ∀ x y, g x = g y → x = y) : ∀ {l : List α}, l.Nodup → (l.map g).Nodup
  | [], _ => List.nodup_nil
  | x :: l, h => by
    obtain ⟨h1, h2⟩ := List.nodup_cons.mp h
    rw [List.map_cons, List.nodup_cons]
    refine ⟨fun hm => ?_, nodup_map hg h2⟩
    obtain ⟨y, hy, e⟩ := List.mem_map.mp hm
    exact h1 (hg _ _ e ▸ hy)
theorem words0 {base : List Nat} {place size : Nat} {first step : Int} (hl : base.length = 6) (hb : ∀ c ∈ base, c ∈ letters) (hp : place < size) (hz : size ≤ 6) (h0 : 0 ≤ first) (h1 : first < 26) (hs : step = 1 ∨ step = 3 ∨ step = 5 ∨ step = 7) : WordsAt ((oth first step).map (w0 base place size)) := by
  refine ⟨by simp [oth], nodup_map (fun x y e => ?_) (oth_nd h0 h1 hs), fun w hw => ?_⟩
  · simp only [w0, List.append_assoc, List.append_cancel_left_eq] at e
    exact (List.cons.inj e).1
  · obtain ⟨c, hc, rfl⟩ := List.mem_map.mp hw
    obtain ⟨k, _, rfl⟩ := List.mem_map.mp hc
    refine ⟨by simp [w0]; omega, by simp [w0]; omega, fun c hc => ?_⟩
    simp only [w0, List.mem_append, List.mem_singleton] at hc
    rcases hc with (hc | rfl) | hc
    · exact hb c (List.mem_of_mem_take hc)
    · exact lt_in _
    · exact hb c (List.mem_of_mem_take (List.mem_of_mem_drop hc))
/-- the second -/
def w1 (base : List Nat) (first : Int) (k : Nat) : Txt := lt ((first + ((k / 6 : Nat) : Int)) % 26) :: (base.take (1 + k % 6)).drop 1
theorem lt_three {first : Int} (h0 : 0 ≤ first) (h1 : first < 26) : ∀ a b : Nat, a < 3 → b < 3 → lt ((first + (a : Nat)) % 26) = lt ((first + (b : Nat)) % 26) → a = b := by
  obtain ⟨i, rfl⟩ : ∃ i : Nat, first = (i : Nat) := ⟨first.toNat, by omega⟩
  have hi : i < 26 := by omega
  have all : ∀ i, i < 26 → ∀ a, a < 3 → ∀ b, b < 3 → lt (((i : Nat) + (a : Nat) : Int) % 26) = lt (((i : Nat) + (b : Nat) : Int) % 26) → a = b := by decide +kernel
  exact fun a b ha hb => all i hi a ha b hb
theorem nodup_range {β : Type} {n : Nat} {g : Nat → β} (hg : ∀ x y, x < n → y < n → g x = g y → x = y) : ((List.range n).map g).Nodup := by
  rw [List.nodup_iff_pairwise_ne, List.pairwise_map]
  refine List.Pairwise.imp_of_mem ?_ (List.nodup_iff_pairwise_ne.mp List.nodup_range)
  intro a b ha hb hne e
  exact hne (hg a b (List.mem_range.mp ha) (List.mem_range.mp hb) e)
theorem words1 {base : List Nat} {first : Int} (hl : base.length = 6) (hb : ∀ c ∈ base, c ∈ letters) (h0 : 0 ≤ first) (h1 : first < 26) : WordsAt ((List.range 14).map (w1 base first)) := by
  refine ⟨by simp, nodup_range fun x y hx hy e => ?_, fun w hw => ?_⟩
  · obtain ⟨e1, e2⟩ := List.cons.inj e
    have a := lt_three h0 h1 (x / 6) (y / 6) (by omega) (by omega) e1
    have c := congrArg List.length e2
    simp only [List.length_drop, List.length_take, hl] at c
    omega
  · obtain ⟨k, _, rfl⟩ := List.mem_map.mp hw
    refine ⟨by simp [w1], by simp [w1]; omega, fun c hc => ?_⟩
    rcases List.mem_cons.mp hc with rfl | hc
    · exact lt_in _
    · exact hb c (List.mem_of_mem_take (List.mem_of_mem_drop hc))
/-- the third: the bits of a number behind its first one -/
def bits (first : Int) : Nat → Nat → Txt → Txt
  | 0, _, w => w
  | n + 1, k, w => if 1 < k then bits first n (k / 2) (lt ((first + ((k % 2 : Nat) : Int)) % 26) :: w) else w
def w2 (first : Int) (k : Nat) : Txt := bits first 20 (k + 2) []
theorem words2 {first : Int} (h0 : 0 ≤ first) (h1 : first < 26) : WordsAt ((List.range 14).map (w2 first)) := by
  obtain ⟨i, rfl⟩ : ∃ i : Nat, first = (i : Nat) := ⟨first.toNat, by omega⟩
  have hi : i < 26 := by omega
  have all : ∀ i, i < 26 → ((List.range 14).map (w2 (i : Nat))).Nodup ∧ ∀ w ∈ (List.range 14).map (w2 (i : Nat)), 1 ≤ w.length ∧ w.length ≤ 6 ∧ ∀ c ∈ w, c ∈ letters := by decide +kernel
  exact ⟨by simp, (all i hi).1, (all i hi).2⟩
theorem words_ok {b j n : Nat} (hc : T.code f = some ⟨1, 14, wordsC n⟩) (ht : T.code n = some ⟨2, 3, takeC⟩) (hb : Box s b j) :
    Wp (callN T (k + 2) f [.loc b] s) (Words s b j) := by
  refine wp_run hc rfl ?_
  generalize hC : ({ T := T, call := callN T (k + 1), init := callN T (k + 1 - 1) } : Ctx) = C
  have take : ∀ {s : Sto} {many : Int}, Box s b j → 0 < many → many < 1073741824 → Wp (C.call n [.loc b, .int many] s) fun v s' => ∃ r : Int, v = .int r ∧ 0 ≤ r ∧ r < many ∧ Box s' b j ∧ Frm [b, j] s s' ∧ s'.length = s.length := by
    intro s many h1 h2 h3
    rw [← hC]
    exact take_ok ht h1 h2 h3
  have item : ∀ {r : Int} {s : Sto}, 0 ≤ r → r < 26 → itemV (.str letters) (.int r) s = some (.str [lt r]) := by
    intro r s h0 h1
    show (if letters.length ≤ 100000 then (L2.atI letters r).map _ else none) = _
    rw [if_pos let_len, letter h0 h1]
    rfl
  have m26 : ∀ x : Int, 0 ≤ x % 26 ∧ x % 26 < 26 := fun x => ⟨Int.emod_nonneg _ (by decide), Int.emod_lt_of_pos _ (by decide)⟩
  have p26 : (0 : Int) < 26 := by decide
  refine w_asg ?_
  simp only [ev, evs, evo, evc, evi, wp_bnd, wp_ok, wp_pur, wp_lift, List.map_cons, List.map_nil, List.cons_append, List.nil_append, List.getElem?_cons_zero, List.getElem?_cons_succ, List.set_cons_zero, List.set_cons_succ, List.replicate_succ, List.replicate_zero, Nat.reduceSub, itemV, seqOf, lstOf, Option.bind_some, Option.bind_none, cmpV, binV, biV, bmV, bmTy, alloc, Option.map_some, Option.map_none, Bool.false_eq_true, if_false, if_true, Option.some.injEq, Prod.mk.injEq, Val.bl.injEq, Val.int.injEq, Val.loc.injEq, Val.str.injEq, Val.lst.injEq, Val.tup.injEq, exists_eq_left', exists_eq_left, exists_and_left, exists_and_right, and_assoc, true_and, and_true, Option.isSome_some, id_eq, Bool.not_true, Bool.not_false, optI, List.length_cons, List.length_nil, lim_le, lim_lt, Nat.zero_add, Nat.reduceAdd, Nat.reduceLeDiff, Nat.zero_le, Nat.reduceLT]
  refine w_asg ?_
  refine wp_compE (fun i acc s' => ∃ cs : List Nat, acc = strV cs ∧ cs.length = i ∧ (∀ c ∈ cs, c ∈ letters) ∧ Box s' b j ∧ Frm [b, j] s s') (w := (rngV 0 6, none)) (s1 := s) (by simp only [ev, evs, evo, evc, evi, bnd, ok, pur, lift, List.map_cons, List.map_nil, List.cons_append, List.nil_append, List.getElem?_cons_zero, List.getElem?_cons_succ, List.set_cons_zero, List.set_cons_succ, List.replicate_succ, List.replicate_zero, Nat.reduceSub, itemV, seqOf, lstOf, Option.bind_some, Option.bind_none, cmpV, binV, biV, bmV, bmTy, alloc, Option.map_some, Option.map_none, Bool.false_eq_true, if_false, if_true, optI, walkV, List.length_cons, List.length_nil, lim_le, lim_lt, Nat.zero_add, Nat.reduceAdd, Nat.reduceLeDiff, Nat.zero_le, Nat.reduceLT, Option.isSome_some]; rfl) (by decide) ⟨[], rfl, rfl, (fun c h => by cases h), hb, Frm.refl _ _⟩ (fun _ _ _ _ => rfl) ?_ ?_
  · rintro i v acc s1 hv ⟨cs, rfl, rfl, hcs, b1, f1⟩
    refine ⟨_, rfl, wp_ok.mpr ⟨fun _ => ?_, fun h => by cases h⟩⟩
    simp only [ev, evs, wp_bnd, wp_ok, wp_pur, List.getElem?_cons_zero, List.getElem?_cons_succ, wipe, List.replicate_succ, List.replicate_zero, Nat.reduceSub, List.map_cons, List.map_nil, List.cons_append, List.nil_append, List.set_cons_zero, List.set_cons_succ]
    refine (take (many := 26) b1 (by decide) (by decide)).imp ?_
    rintro v s2 ⟨r, rfl, h0, h1, b2, f2, _⟩
    refine ⟨_, item h0 h1, cs ++ [lt r], by simp [strV], by simp, fun c hc => ?_, b2, f1.trans f2⟩
    rcases List.mem_append.mp hc with h | h
    · exact hcs c h
    · rw [List.mem_singleton.mp h]
      exact lt_in r
  rintro us s1 ⟨base, rfl, hbl, hbs, b1, f1⟩
  have hbl : base.length = 6 := hbl
  show WpS (execs C _ [some (.loc b), some (.str letters), some (.lst (strV base)), none, none, none, none, none, none, none, none, none, none, none] s1) _
  refine w_asg ?_
  simp only [ev, evs, evo, evc, evi, wp_bnd, wp_ok, wp_pur, wp_lift, List.map_cons, List.map_nil, List.cons_append, List.nil_append, List.getElem?_cons_zero, List.getElem?_cons_succ, List.set_cons_zero, List.set_cons_succ, List.replicate_succ, List.replicate_zero, Nat.reduceSub, itemV, seqOf, lstOf, Option.bind_some, Option.bind_none, cmpV, binV, biV, bmV, bmTy, alloc, Option.map_some, Option.map_none, Bool.false_eq_true, if_false, if_true, Option.some.injEq, Prod.mk.injEq, Val.bl.injEq, Val.int.injEq, Val.loc.injEq, Val.str.injEq, Val.lst.injEq, Val.tup.injEq, exists_eq_left', exists_eq_left, exists_and_left, exists_and_right, and_assoc, true_and, and_true, Option.isSome_some, id_eq, Bool.not_true, Bool.not_false, optI, List.length_cons, List.length_nil, lim_le, lim_lt, Nat.zero_add, Nat.reduceAdd, Nat.reduceLeDiff, Nat.zero_le, Nat.reduceLT]
  refine (take (many := 26) b1 (by decide) (by decide)).imp ?_
  rintro v s2 ⟨first, rfl, hf0, hf1, b2, f2, _⟩
  refine w_asg ?_
  simp only [ev, evs, evo, evc, evi, wp_bnd, wp_ok, wp_pur, wp_lift, List.map_cons, List.map_nil, List.cons_append, List.nil_append, List.getElem?_cons_zero, List.getElem?_cons_succ, List.set_cons_zero, List.set_cons_succ, List.replicate_succ, List.replicate_zero, Nat.reduceSub, itemV, seqOf, lstOf, Option.bind_some, Option.bind_none, cmpV, binV, biV, bmV, bmTy, alloc, Option.map_some, Option.map_none, Bool.false_eq_true, if_false, if_true, Option.some.injEq, Prod.mk.injEq, Val.bl.injEq, Val.int.injEq, Val.loc.injEq, Val.str.injEq, Val.lst.injEq, Val.tup.injEq, exists_eq_left', exists_eq_left, exists_and_left, exists_and_right, and_assoc, true_and, and_true, Option.isSome_some, id_eq, Bool.not_true, Bool.not_false, optI, List.length_cons, List.length_nil, lim_le, lim_lt, Nat.zero_add, Nat.reduceAdd, Nat.reduceLeDiff, Nat.zero_le, Nat.reduceLT]
  refine (take (many := 3) b2 (by decide) (by decide)).imp ?_
  rintro v s3 ⟨sort, rfl, hs0, hs1, b3, f3, _⟩
  have f03 := (f1.trans f2).trans f3
  refine w_if ?_
  simp only [ev, evs, evo, evc, evi, wp_bnd, wp_ok, wp_pur, wp_lift, List.map_cons, List.map_nil, List.cons_append, List.nil_append, List.getElem?_cons_zero, List.getElem?_cons_succ, List.set_cons_zero, List.set_cons_succ, List.replicate_succ, List.replicate_zero, Nat.reduceSub, itemV, seqOf, lstOf, Option.bind_some, Option.bind_none, cmpV, binV, biV, bmV, bmTy, alloc, Option.map_some, Option.map_none, Bool.false_eq_true, if_false, if_true, Option.some.injEq, Prod.mk.injEq, Val.bl.injEq, Val.int.injEq, Val.loc.injEq, Val.str.injEq, Val.lst.injEq, Val.tup.injEq, exists_eq_left', exists_eq_left, exists_and_left, exists_and_right, and_assoc, true_and, and_true, Option.isSome_some, id_eq, Bool.not_true, Bool.not_false, optI, List.length_cons, List.length_nil, lim_le, lim_lt, Nat.zero_add, Nat.reduceAdd, Nat.reduceLeDiff, Nat.zero_le, Nat.reduceLT, eq_ints]
  refine ⟨fun c => ?_, fun c => ?_⟩
  · -- unlike at one place
    refine w_asg ?_
    simp only [ev, evs, evo, evc, evi, wp_bnd, wp_ok, wp_pur, wp_lift, List.map_cons, List.map_nil, List.cons_append, List.nil_append, List.getElem?_cons_zero, List.getElem?_cons_succ, List.set_cons_zero, List.set_cons_succ, List.replicate_succ, List.replicate_zero, Nat.reduceSub, itemV, seqOf, lstOf, Option.bind_some, Option.bind_none, cmpV, binV, biV, bmV, bmTy, alloc, Option.map_some, Option.map_none, Bool.false_eq_true, if_false, if_true, Option.some.injEq, Prod.mk.injEq, Val.bl.injEq, Val.int.injEq, Val.loc.injEq, Val.str.injEq, Val.lst.injEq, Val.tup.injEq, exists_eq_left', exists_eq_left, exists_and_left, exists_and_right, and_assoc, true_and, and_true, Option.isSome_some, id_eq, Bool.not_true, Bool.not_false, optI, List.length_cons, List.length_nil, lim_le, lim_lt, Nat.zero_add, Nat.reduceAdd, Nat.reduceLeDiff, Nat.zero_le, Nat.reduceLT]
    refine (take (many := 6) b3 (by decide) (by decide)).imp ?_
    rintro v s4 ⟨place, rfl, hp0, hp1, b4, f4, _⟩
    refine w_asg ?_
    simp only [ev, evs, evo, evc, evi, wp_bnd, wp_ok, wp_pur, wp_lift, List.map_cons, List.map_nil, List.cons_append, List.nil_append, List.getElem?_cons_zero, List.getElem?_cons_succ, List.set_cons_zero, List.set_cons_succ, List.replicate_succ, List.replicate_zero, Nat.reduceSub, itemV, seqOf, lstOf, Option.bind_some, Option.bind_none, cmpV, binV, biV, bmV, bmTy, alloc, Option.map_some, Option.map_none, Bool.false_eq_true, if_false, if_true, Option.some.injEq, Prod.mk.injEq, Val.bl.injEq, Val.int.injEq, Val.loc.injEq, Val.str.injEq, Val.lst.injEq, Val.tup.injEq, exists_eq_left', exists_eq_left, exists_and_left, exists_and_right, and_assoc, true_and, and_true, Option.isSome_some, id_eq, Bool.not_true, Bool.not_false, optI, List.length_cons, List.length_nil, lim_le, lim_lt, Nat.zero_add, Nat.reduceAdd, Nat.reduceLeDiff, Nat.zero_le, Nat.reduceLT]
    refine (take (many := 6 - place) b4 (by omega) (by omega)).imp ?_
    rintro v s5 ⟨q, rfl, hq0, hq1, b5, f5, _⟩
    simp only [ev, evs, evo, evc, evi, wp_bnd, wp_ok, wp_pur, wp_lift, List.map_cons, List.map_nil, List.cons_append, List.nil_append, List.getElem?_cons_zero, List.getElem?_cons_succ, List.set_cons_zero, List.set_cons_succ, List.replicate_succ, List.replicate_zero, Nat.reduceSub, itemV, seqOf, lstOf, Option.bind_some, Option.bind_none, cmpV, binV, biV, bmV, bmTy, alloc, Option.map_some, Option.map_none, Bool.false_eq_true, if_false, if_true, Option.some.injEq, Prod.mk.injEq, Val.bl.injEq, Val.int.injEq, Val.loc.injEq, Val.str.injEq, Val.lst.injEq, Val.tup.injEq, exists_eq_left', exists_eq_left, exists_and_left, exists_and_right, and_assoc, true_and, and_true, Option.isSome_some, id_eq, Bool.not_true, Bool.not_false, optI, List.length_cons, List.length_nil, lim_le, lim_lt, Nat.zero_add, Nat.reduceAdd, Nat.reduceLeDiff, Nat.zero_le, Nat.reduceLT]
    refine w_asg ?_
    simp only [ev, evs, evo, evc, evi, wp_bnd, wp_ok, wp_pur, wp_lift, List.map_cons, List.map_nil, List.cons_append, List.nil_append, List.getElem?_cons_zero, List.getElem?_cons_succ, List.set_cons_zero, List.set_cons_succ, List.replicate_succ, List.replicate_zero, Nat.reduceSub, itemV, seqOf, lstOf, Option.bind_some, Option.bind_none, cmpV, binV, biV, bmV, bmTy, alloc, Option.map_some, Option.map_none, Bool.false_eq_true, if_false, if_true, Option.some.injEq, Prod.mk.injEq, Val.bl.injEq, Val.int.injEq, Val.loc.injEq, Val.str.injEq, Val.lst.injEq, Val.tup.injEq, exists_eq_left', exists_eq_left, exists_and_left, exists_and_right, and_assoc, true_and, and_true, Option.isSome_some, id_eq, Bool.not_true, Bool.not_false, optI, List.length_cons, List.length_nil, lim_le, lim_lt, Nat.zero_add, Nat.reduceAdd, Nat.reduceLeDiff, Nat.zero_le, Nat.reduceLT]
    refine (take (many := 4) b5 (by decide) (by decide)).imp ?_
    rintro v s6 ⟨st, rfl, ht0, ht1, b6, f6, _⟩
    have hst : ∃ step : Int, L2.atI [Val.int 1, .int 3, .int 5, .int 7] st = some (.int step) ∧ (step = 1 ∨ step = 3 ∨ step = 5 ∨ step = 7) := by
      have : st = 0 ∨ st = 1 ∨ st = 2 ∨ st = 3 := by omega
      rcases this with rfl | rfl | rfl | rfl
      · exact ⟨1, rfl, .inl rfl⟩
      · exact ⟨3, rfl, .inr (.inl rfl)⟩
      · exact ⟨5, rfl, .inr (.inr (.inl rfl))⟩
      · exact ⟨7, rfl, .inr (.inr (.inr rfl))⟩
    obtain ⟨step, hst, hstep⟩ := hst
    simp only [ev, evs, evo, evc, evi, wp_bnd, wp_ok, wp_pur, wp_lift, List.map_cons, List.map_nil, List.cons_append, List.nil_append, List.getElem?_cons_zero, List.getElem?_cons_succ, List.set_cons_zero, List.set_cons_succ, List.replicate_succ, List.replicate_zero, Nat.reduceSub, itemV, seqOf, lstOf, Option.bind_some, Option.bind_none, cmpV, binV, biV, bmV, bmTy, alloc, Option.map_some, Option.map_none, Bool.false_eq_true, if_false, if_true, Option.some.injEq, Prod.mk.injEq, Val.bl.injEq, Val.int.injEq, Val.loc.injEq, Val.str.injEq, Val.lst.injEq, Val.tup.injEq, exists_eq_left', exists_eq_left, exists_and_left, exists_and_right, and_assoc, true_and, and_true, Option.isSome_some, id_eq, Bool.not_true, Bool.not_false, optI, List.length_cons, List.length_nil, lim_le, lim_lt, Nat.zero_add, Nat.reduceAdd, Nat.reduceLeDiff, Nat.zero_le, Nat.reduceLT, hst]
    obtain ⟨p, rfl⟩ : ∃ p : Nat, place = (p : Nat) := ⟨place.toNat, by omega⟩
    obtain ⟨z, hz⟩ : ∃ z : Nat, ((p : Nat) : Int) + 1 + q = (z : Nat) := ⟨((p : Int) + 1 + q).toNat, by omega⟩
    rw [hz]
    have fr6 := ((f03.trans f4).trans f5).trans f6
    refine w_asg ?_
    refine wp_compE (fun i acc s' => s' = s6 ∧ acc = strV ((List.range i).map fun k => lt ((first + step * (k : Nat)) % 26))) (w := (rngV 0 14, none)) (s1 := s6) (by simp only [ev, evs, evo, evc, evi, bnd, ok, pur, lift, List.map_cons, List.map_nil, List.cons_append, List.nil_append, List.getElem?_cons_zero, List.getElem?_cons_succ, List.set_cons_zero, List.set_cons_succ, List.replicate_succ, List.replicate_zero, Nat.reduceSub, itemV, seqOf, lstOf, Option.bind_some, Option.bind_none, cmpV, binV, biV, bmV, bmTy, alloc, Option.map_some, Option.map_none, Bool.false_eq_true, if_false, if_true, optI, walkV, List.length_cons, List.length_nil, lim_le, lim_lt, Nat.zero_add, Nat.reduceAdd, Nat.reduceLeDiff, Nat.zero_le, Nat.reduceLT, Option.isSome_some]; rfl) (by decide) ⟨rfl, rfl⟩ (fun _ _ _ _ => rfl) ?_ ?_
    · rintro i v acc s' hv ⟨rfl, rfl⟩
      obtain ⟨rfl, hi⟩ := rng_at hv
      refine ⟨_, rfl, wp_ok.mpr ⟨fun _ => ?_, fun h => by cases h⟩⟩
      have z0 : mulOk step (i : Nat) = true := mulOk_r (by omega)
      simp only [ev, evs, evo, evc, evi, wp_bnd, wp_ok, wp_pur, wp_lift, List.map_cons, List.map_nil, List.cons_append, List.nil_append, List.getElem?_cons_zero, List.getElem?_cons_succ, List.set_cons_zero, List.set_cons_succ, List.replicate_succ, List.replicate_zero, Nat.reduceSub, itemV, seqOf, lstOf, Option.bind_some, Option.bind_none, cmpV, binV, biV, bmV, bmTy, alloc, Option.map_some, Option.map_none, Bool.false_eq_true, if_false, if_true, Option.some.injEq, Prod.mk.injEq, Val.bl.injEq, Val.int.injEq, Val.loc.injEq, Val.str.injEq, Val.lst.injEq, Val.tup.injEq, exists_eq_left', exists_eq_left, exists_and_left, exists_and_right, and_assoc, true_and, and_true, Option.isSome_some, id_eq, Bool.not_true, Bool.not_false, optI, List.length_cons, List.length_nil, lim_le, lim_lt, Nat.zero_add, Nat.reduceAdd, Nat.reduceLeDiff, Nat.zero_le, Nat.reduceLT, wipe, z0, if_pos p26, let_len, letter (m26 (first + step * (i : Nat))).1 (m26 _).2]
      rw [List.range_succ]
      simp [strV]
    rintro us s7 ⟨rfl, rfl⟩
    show WpS (execs C _ [some (.loc b), some (.str letters), some (.lst (strV base)), some (.int first), some (.int sort), none, none, some (.int (p : Nat)), some (.int (z : Nat)), some (.int step), some (.lst (strV (oth first step))), none, none, none] s7) _
    refine w_ret ?_
    have lo : (oth first step).length = 14 := by simp [oth]
    refine wp_compE (fun i acc s' => s' = s7 ∧ acc = ((oth first step).take i).map fun c => .str (w0 base p z c)) (w := (strV (oth first step), none)) (s1 := s7) (by simp only [ev, evs, evo, evc, evi, bnd, ok, pur, lift, List.map_cons, List.map_nil, List.cons_append, List.nil_append, List.getElem?_cons_zero, List.getElem?_cons_succ, List.set_cons_zero, List.set_cons_succ, List.replicate_succ, List.replicate_zero, Nat.reduceSub, itemV, seqOf, lstOf, Option.bind_some, Option.bind_none, cmpV, binV, biV, bmV, bmTy, alloc, Option.map_some, Option.map_none, Bool.false_eq_true, if_false, if_true, optI, walkV, List.length_cons, List.length_nil, lim_le, lim_lt, Nat.zero_add, Nat.reduceAdd, Nat.reduceLeDiff, Nat.zero_le, Nat.reduceLT, Option.isSome_some]) (by show (strV (oth first step)).length ≤ LIM; simp [strV, lo, LIM]) ⟨rfl, rfl⟩ (fun _ _ _ _ => rfl) ?_ ?_
    · rintro i v acc s' hv ⟨rfl, rfl⟩
      have hv : (strV (oth first step))[i]? = some v := hv
      unfold strV at hv
      rw [List.getElem?_map] at hv
      cases e : (oth first step)[i]? with
      | none => rw [e] at hv; cases hv
      | some c =>
        rw [e] at hv
        cases hv
        refine ⟨_, rfl, wp_ok.mpr ⟨fun _ => ?_, fun h => by cases h⟩⟩
        have hlen : (strV base).length = 6 := by simp [strV, hbl]
        have c1 : cut (strV base) none (some ((p : Nat) : Int)) = strV (base.take p) := by rw [cut_to (by omega)]; simp [strV]
        have c2 : cut (strV base) (some ((p : Nat) + 1 : Int)) (some ((z : Nat) : Int)) = strV ((base.take z).drop (p + 1)) := by
          rw [show ((p : Nat) + 1 : Int) = ((p + 1 : Nat) : Int) by simp, cut_nat (by omega) (by omega)]
          simp [strV]
        have l1 : (strV (base.take p)).length ≤ 6 := by simp [strV]; omega
        have l2 : (strV ((base.take z).drop (p + 1))).length ≤ 6 := by simp [strV]; omega
        have s1 : strsOf (strV (base.take p) ++ [Val.str [c]] ++ strV ((base.take z).drop (p + 1))) = some ((w0 base p z c).map fun c => [c]) := by
          rw [← strs_strV]
          simp [strV, w0]
        have l3 : ((w0 base p z c).map fun c => [c]).flatten = w0 base p z c := flat_one _
        have l4 : (((w0 base p z c).map fun c => [c]).map List.length).sum + ((w0 base p z c).map fun c => [c]).length * 0 ≤ 100000 := by
          have : (w0 base p z c).length ≤ 20 := by simp [w0]; omega
          have e : (((w0 base p z c).map fun c => [c]).map List.length).sum = (w0 base p z c).length := by
            generalize w0 base p z c = w
            induction w with
            | nil => rfl
            | cons x w ih => simp at ih ⊢; omega
          rw [e]
          omega
        have d1 : (strV (base.take p)).length + 1 ≤ 100000 := by omega
        have d2 : (strV (base.take p) ++ [Val.str [c]]).length + (strV ((base.take z).drop (p + 1))).length ≤ 100000 := by simp; omega
        simp only [ev, evs, evo, evc, evi, wp_bnd, wp_ok, wp_pur, wp_lift, List.map_cons, List.map_nil, List.cons_append, List.nil_append, List.getElem?_cons_zero, List.getElem?_cons_succ, List.set_cons_zero, List.set_cons_succ, List.replicate_succ, List.replicate_zero, Nat.reduceSub, itemV, seqOf, lstOf, Option.bind_some, Option.bind_none, cmpV, binV, biV, bmV, bmTy, alloc, Option.map_some, Option.map_none, Bool.false_eq_true, if_false, if_true, Option.some.injEq, Prod.mk.injEq, Val.bl.injEq, Val.int.injEq, Val.loc.injEq, Val.str.injEq, Val.lst.injEq, Val.tup.injEq, exists_eq_left', exists_eq_left, exists_and_left, exists_and_right, and_assoc, true_and, and_true, Option.isSome_some, id_eq, Bool.not_true, Bool.not_false, optI, List.length_cons, List.length_nil, lim_le, lim_lt, Nat.zero_add, Nat.reduceAdd, Nat.reduceLeDiff, Nat.zero_le, Nat.reduceLT, wipe, sliceV, c1, c2, d1, d2, s1, l4]
        rw [join_flat, l3, List.take_add_one, e]
        simp
    rintro us s8 ⟨rfl, rfl⟩
    have hlen : (oth first step).take (strV (oth first step)).length = oth first step := by simp [strV]
    refine ⟨(oth first step).map (w0 base p z), ?_, words0 hbl hbs (by omega) (by omega) hf0 hf1 hstep, b6, fr6, fun l h => by cases h⟩
    show some _ = some _
    rw [show (strV (oth first step), (none : Option (Nat × List Val))).1 = strV (oth first step) from rfl, hlen]
    simp
  refine w_if ?_
  simp only [ev, evs, evo, evc, evi, wp_bnd, wp_ok, wp_pur, wp_lift, List.map_cons, List.map_nil, List.cons_append, List.nil_append, List.getElem?_cons_zero, List.getElem?_cons_succ, List.set_cons_zero, List.set_cons_succ, List.replicate_succ, List.replicate_zero, Nat.reduceSub, itemV, seqOf, lstOf, Option.bind_some, Option.bind_none, cmpV, binV, biV, bmV, bmTy, alloc, Option.map_some, Option.map_none, Bool.false_eq_true, if_false, if_true, Option.some.injEq, Prod.mk.injEq, Val.bl.injEq, Val.int.injEq, Val.loc.injEq, Val.str.injEq, Val.lst.injEq, Val.tup.injEq, exists_eq_left', exists_eq_left, exists_and_left, exists_and_right, and_assoc, true_and, and_true, Option.isSome_some, id_eq, Bool.not_true, Bool.not_false, optI, List.length_cons, List.length_nil, lim_le, lim_lt, Nat.zero_add, Nat.reduceAdd, Nat.reduceLeDiff, Nat.zero_le, Nat.reduceLT, eq_ints]
  refine ⟨fun c2 => ?_, fun c2 => ?_⟩
  · -- beginnings of one another
    refine w_ret ?_
    refine wp_compE (fun i acc s' => s' = s3 ∧ acc = ((List.range i).map (w1 base first)).map .str) (w := (rngV 0 14, none)) (s1 := s3) (by simp only [ev, evs, evo, evc, evi, bnd, ok, pur, lift, List.map_cons, List.map_nil, List.cons_append, List.nil_append, List.getElem?_cons_zero, List.getElem?_cons_succ, List.set_cons_zero, List.set_cons_succ, List.replicate_succ, List.replicate_zero, Nat.reduceSub, itemV, seqOf, lstOf, Option.bind_some, Option.bind_none, cmpV, binV, biV, bmV, bmTy, alloc, Option.map_some, Option.map_none, Bool.false_eq_true, if_false, if_true, optI, walkV, List.length_cons, List.length_nil, lim_le, lim_lt, Nat.zero_add, Nat.reduceAdd, Nat.reduceLeDiff, Nat.zero_le, Nat.reduceLT, Option.isSome_some]; rfl) (by decide) ⟨rfl, rfl⟩ (fun _ _ _ _ => rfl) ?_ ?_
    · rintro i v acc s' hv ⟨rfl, rfl⟩
      obtain ⟨rfl, hi⟩ := rng_at hv
      refine ⟨_, rfl, wp_ok.mpr ⟨fun _ => ?_, fun h => by cases h⟩⟩
      have p6 : (0 : Int) < 6 ∧ (6 : Int) < 1073741824 := by decide
      have p6' : (0 : Int) < 6 := by decide
      have hlen : (strV base).length = 6 := by simp [strV, hbl]
      have e6 : ((i : Nat) : Int) / 6 = ((i / 6 : Nat) : Int) := by omega
      have e7 : 1 + ((i : Nat) : Int) % 6 = ((1 + i % 6 : Nat) : Int) := by omega
      have c1 : cut (strV base) (some 1) (some (((1 + i % 6 : Nat)) : Int)) = strV ((base.take (1 + i % 6)).drop 1) := by
        rw [show (1 : Int) = ((1 : Nat) : Int) from rfl, cut_nat (by omega) (by omega)]
        simp [strV]
      have hj : (((base.take (1 + i % 6)).drop 1).map fun c => [c]).flatten = (base.take (1 + i % 6)).drop 1 := flat_one _
      have hsm : ((((base.take (1 + i % 6)).drop 1).map fun c => [c]).map List.length).sum + (((base.take (1 + i % 6)).drop 1).map fun c => [c]).length * 0 ≤ 100000 := by
        have : ((base.take (1 + i % 6)).drop 1).length ≤ 6 := by simp; omega
        have e : ∀ w : List Nat, ((w.map fun c => [c]).map List.length).sum = w.length := fun w => by
          induction w with
          | nil => rfl
          | cons x w ih => simp at ih ⊢; omega
        rw [e]
        omega
      have d1 : ((base.take (1 + i % 6)).drop 1).length ≤ 99999 := by simp; omega
      have d2 : 1 + ((base.take (1 + i % 6)).drop 1).length ≤ 100000 := by omega
      simp only [ev, evs, evo, evc, evi, wp_bnd, wp_ok, wp_pur, wp_lift, List.map_cons, List.map_nil, List.cons_append, List.nil_append, List.getElem?_cons_zero, List.getElem?_cons_succ, List.set_cons_zero, List.set_cons_succ, List.replicate_succ, List.replicate_zero, Nat.reduceSub, itemV, seqOf, lstOf, Option.bind_some, Option.bind_none, cmpV, binV, biV, bmV, bmTy, alloc, Option.map_some, Option.map_none, Bool.false_eq_true, if_false, if_true, Option.some.injEq, Prod.mk.injEq, Val.bl.injEq, Val.int.injEq, Val.loc.injEq, Val.str.injEq, Val.lst.injEq, Val.tup.injEq, exists_eq_left', exists_eq_left, exists_and_left, exists_and_right, and_assoc, true_and, and_true, Option.isSome_some, id_eq, Bool.not_true, Bool.not_false, optI, List.length_cons, List.length_nil, lim_le, lim_lt, Nat.zero_add, Nat.reduceAdd, Nat.reduceLeDiff, Nat.zero_le, Nat.reduceLT, wipe, if_pos p6, if_pos p26, if_pos p6', e6, e7, let_len, letter (m26 (first + ((i / 6 : Nat) : Int))).1 (m26 _).2, sliceV, c1, strs_strV, hsm, join_flat, hj, d2]
      rw [List.range_succ]
      simp [w1]
    rintro us s8 ⟨rfl, rfl⟩
    exact ⟨(List.range 14).map (w1 base first), rfl, words1 hbl hbs hf0 hf1, b3, f03, fun l h => by cases h⟩
  -- of two letters
  refine w_asg ?_
  simp only [ev, evs, evo, evc, evi, wp_bnd, wp_ok, wp_pur, wp_lift, List.map_cons, List.map_nil, List.cons_append, List.nil_append, List.getElem?_cons_zero, List.getElem?_cons_succ, List.set_cons_zero, List.set_cons_succ, List.replicate_succ, List.replicate_zero, Nat.reduceSub, itemV, seqOf, lstOf, Option.bind_some, Option.bind_none, cmpV, binV, biV, bmV, bmTy, alloc, Option.map_some, Option.map_none, Bool.false_eq_true, if_false, if_true, Option.some.injEq, Prod.mk.injEq, Val.bl.injEq, Val.int.injEq, Val.loc.injEq, Val.str.injEq, Val.lst.injEq, Val.tup.injEq, exists_eq_left', exists_eq_left, exists_and_left, exists_and_right, and_assoc, true_and, and_true, Option.isSome_some, id_eq, Bool.not_true, Bool.not_false, optI, List.length_cons, List.length_nil, lim_le, lim_lt, Nat.zero_add, Nat.reduceAdd, Nat.reduceLeDiff, Nat.zero_le, Nat.reduceLT]
  show WpS (execs C _ [some (.loc b), some (.str letters), some (.lst (strV base)), some (.int first), some (.int sort), some (.loc s3.length), none, none, none, none, none, none, none, none] (s3 ++ [.list []])) _
  refine w_forE (fun i en s' => ∃ o6 o11 o12 : Option Val, en = [some (.loc b), some (.str letters), some (.lst (strV base)), some (.int first), some (.int sort), some (.loc s3.length), o6, none, none, none, none, o11, o12, none] ∧ s' = s3 ++ [.list (((List.range i).map (w2 first)).map .str)])
    (w := (rngV 0 14, none)) (s1 := s3 ++ [.list []]) (by simp only [ev, evs, evo, evc, evi, bnd, ok, pur, lift, List.map_cons, List.map_nil, List.cons_append, List.nil_append, List.getElem?_cons_zero, List.getElem?_cons_succ, List.set_cons_zero, List.set_cons_succ, List.replicate_succ, List.replicate_zero, Nat.reduceSub, itemV, seqOf, lstOf, Option.bind_some, Option.bind_none, cmpV, binV, biV, bmV, bmTy, alloc, Option.map_some, Option.map_none, Bool.false_eq_true, if_false, if_true, optI, walkV, List.length_cons, List.length_nil, lim_le, lim_lt, Nat.zero_add, Nat.reduceAdd, Nat.reduceLeDiff, Nat.zero_le, Nat.reduceLT, Option.isSome_some]; rfl) ⟨none, none, none, rfl, rfl⟩ (fun _ _ _ _ => rfl) ?_ ?_
  · rintro i v en s' hv ⟨o6, o11, o12, rfl, rfl⟩
    obtain ⟨rfl, hi⟩ := rng_at hv
    have hi : i < 14 := hi
    refine ⟨_, rfl, ?_⟩
    refine w_asg ?_
    simp only [ev, evs, evo, evc, evi, wp_bnd, wp_ok, wp_pur, wp_lift, List.map_cons, List.map_nil, List.cons_append, List.nil_append, List.getElem?_cons_zero, List.getElem?_cons_succ, List.set_cons_zero, List.set_cons_succ, List.replicate_succ, List.replicate_zero, Nat.reduceSub, itemV, seqOf, lstOf, Option.bind_some, Option.bind_none, cmpV, binV, biV, bmV, bmTy, alloc, Option.map_some, Option.map_none, Bool.false_eq_true, if_false, if_true, Option.some.injEq, Prod.mk.injEq, Val.bl.injEq, Val.int.injEq, Val.loc.injEq, Val.str.injEq, Val.lst.injEq, Val.tup.injEq, exists_eq_left', exists_eq_left, exists_and_left, exists_and_right, and_assoc, true_and, and_true, Option.isSome_some, id_eq, Bool.not_true, Bool.not_false, optI, List.length_cons, List.length_nil, lim_le, lim_lt, Nat.zero_add, Nat.reduceAdd, Nat.reduceLeDiff, Nat.zero_le, Nat.reduceLT]
    refine w_asg ?_
    simp only [ev, evs, evo, evc, evi, wp_bnd, wp_ok, wp_pur, wp_lift, List.map_cons, List.map_nil, List.cons_append, List.nil_append, List.getElem?_cons_zero, List.getElem?_cons_succ, List.set_cons_zero, List.set_cons_succ, List.replicate_succ, List.replicate_zero, Nat.reduceSub, itemV, seqOf, lstOf, Option.bind_some, Option.bind_none, cmpV, binV, biV, bmV, bmTy, alloc, Option.map_some, Option.map_none, Bool.false_eq_true, if_false, if_true, Option.some.injEq, Prod.mk.injEq, Val.bl.injEq, Val.int.injEq, Val.loc.injEq, Val.str.injEq, Val.lst.injEq, Val.tup.injEq, exists_eq_left', exists_eq_left, exists_and_left, exists_and_right, and_assoc, true_and, and_true, Option.isSome_some, id_eq, Bool.not_true, Bool.not_false, optI, List.length_cons, List.length_nil, lim_le, lim_lt, Nat.zero_add, Nat.reduceAdd, Nat.reduceLeDiff, Nat.zero_le, Nat.reduceLT]
    show WpS (execs C _ [some (.loc b), some (.str letters), some (.lst (strV base)), some (.int first), some (.int sort), some (.loc s3.length), some (.int (i : Nat)), none, none, none, none, some (.str []), some (.int (((i + 2 : Nat)) : Int)), none] _) _
    refine w_whl (m := 20) (fun m en s' => ∃ (w : Txt) (q : Nat), en = [some (.loc b), some (.str letters), some (.lst (strV base)), some (.int first), some (.int sort), some (.loc s3.length), some (.int (i : Nat)), none, none, none, none, some (.str w), some (.int (q : Nat)), none] ∧ s' = s3 ++ [.list (((List.range i).map (w2 first)).map .str)] ∧
      bits first m q w = w2 first i ∧ w.length + m = 20 ∧ (m = 0 → q ≤ 1) ∧ q < 2 ^ m + 1) ⟨[], i + 2, rfl, rfl, rfl, rfl, by omega, by omega⟩ (by decide) ?_
    rintro m en s' ⟨w, q, rfl, rfl, hw, hwl, hm0, hq⟩
    simp only [ev, evs, evo, evc, evi, wp_bnd, wp_ok, wp_pur, wp_lift, List.map_cons, List.map_nil, List.cons_append, List.nil_append, List.getElem?_cons_zero, List.getElem?_cons_succ, List.set_cons_zero, List.set_cons_succ, List.replicate_succ, List.replicate_zero, Nat.reduceSub, itemV, seqOf, lstOf, Option.bind_some, Option.bind_none, cmpV, binV, biV, bmV, bmTy, alloc, Option.map_some, Option.map_none, Bool.false_eq_true, if_false, if_true, Option.some.injEq, Prod.mk.injEq, Val.bl.injEq, Val.int.injEq, Val.loc.injEq, Val.str.injEq, Val.lst.injEq, Val.tup.injEq, exists_eq_left', exists_eq_left, exists_and_left, exists_and_right, and_assoc, true_and, and_true, Option.isSome_some, id_eq, Bool.not_true, Bool.not_false, optI, List.length_cons, List.length_nil, lim_le, lim_lt, Nat.zero_add, Nat.reduceAdd, Nat.reduceLeDiff, Nat.zero_le, Nat.reduceLT]
    by_cases c3 : 1 < q
    · have c3' : decide ((1 : Int) < (q : Nat)) = true := decide_eq_true (by omega)
      refine .inr ⟨by rw [c3'], m - 1, ?_, ?_⟩
      · have : m ≠ 0 := fun z => by have := hm0 z; omega
        omega
      obtain ⟨m, rfl⟩ : ∃ m', m = m' + 1 := ⟨m - 1, by have : m ≠ 0 := fun z => (by have := hm0 z; omega); omega⟩
      refine w_asg ?_
      have p2 : (0 : Int) < 2 ∧ (2 : Int) < 1073741824 := by decide
      have p2' : (0 : Int) < 2 := by decide
      have e6 : ((q : Nat) : Int) % 2 = ((q % 2 : Nat) : Int) := by omega
      have e7 : ((q : Nat) : Int) / 2 = ((q / 2 : Nat) : Int) := by omega
      have d1 : 1 + w.length ≤ 100000 := by omega
      simp only [ev, evs, evo, evc, evi, wp_bnd, wp_ok, wp_pur, wp_lift, List.map_cons, List.map_nil, List.cons_append, List.nil_append, List.getElem?_cons_zero, List.getElem?_cons_succ, List.set_cons_zero, List.set_cons_succ, List.replicate_succ, List.replicate_zero, Nat.reduceSub, itemV, seqOf, lstOf, Option.bind_some, Option.bind_none, cmpV, binV, biV, bmV, bmTy, alloc, Option.map_some, Option.map_none, Bool.false_eq_true, if_false, if_true, Option.some.injEq, Prod.mk.injEq, Val.bl.injEq, Val.int.injEq, Val.loc.injEq, Val.str.injEq, Val.lst.injEq, Val.tup.injEq, exists_eq_left', exists_eq_left, exists_and_left, exists_and_right, and_assoc, true_and, and_true, Option.isSome_some, id_eq, Bool.not_true, Bool.not_false, optI, List.length_cons, List.length_nil, lim_le, lim_lt, Nat.zero_add, Nat.reduceAdd, Nat.reduceLeDiff, Nat.zero_le, Nat.reduceLT, if_pos p26, if_pos p2', e6, let_len, letter (m26 (first + ((q % 2 : Nat) : Int))).1 (m26 _).2, d1]
      refine w_asg ?_
      simp only [ev, evs, evo, evc, evi, wp_bnd, wp_ok, wp_pur, wp_lift, List.map_cons, List.map_nil, List.cons_append, List.nil_append, List.getElem?_cons_zero, List.getElem?_cons_succ, List.set_cons_zero, List.set_cons_succ, List.replicate_succ, List.replicate_zero, Nat.reduceSub, itemV, seqOf, lstOf, Option.bind_some, Option.bind_none, cmpV, binV, biV, bmV, bmTy, alloc, Option.map_some, Option.map_none, Bool.false_eq_true, if_false, if_true, Option.some.injEq, Prod.mk.injEq, Val.bl.injEq, Val.int.injEq, Val.loc.injEq, Val.str.injEq, Val.lst.injEq, Val.tup.injEq, exists_eq_left', exists_eq_left, exists_and_left, exists_and_right, and_assoc, true_and, and_true, Option.isSome_some, id_eq, Bool.not_true, Bool.not_false, optI, List.length_cons, List.length_nil, lim_le, lim_lt, Nat.zero_add, Nat.reduceAdd, Nat.reduceLeDiff, Nat.zero_le, Nat.reduceLT, if_pos p2, e7]
      refine w_nil ⟨_, _, rfl, rfl, ?_, by simp; omega, fun z => ?_, ?_⟩
      · rw [← hw]
        show _ = if 1 < q then _ else _
        rw [if_pos c3]
        rfl
      · subst z
        simp at hq
        omega
      · have : 2 ^ (m + 1) = 2 ^ m * 2 := Nat.pow_succ ..
        simp
        omega
    · have c3' : decide ((1 : Int) < (q : Nat)) = false := decide_eq_false (by omega)
      refine .inl ⟨by rw [c3'], ?_⟩
      have hw' : w = w2 first i := by
        rw [← hw]
        cases m with
        | zero => rfl
        | succ m =>
          show w = if 1 < q then _ else _
          rw [if_neg c3]
      refine w_expr ?_
      have e0 : (s3 ++ [SO.list (((List.range i).map (w2 first)).map .str)])[s3.length]? = some (.list (((List.range i).map (w2 first)).map .str)) := at_push
      have d1 : (((List.range i).map (w2 first)).map Val.str).length < 100000 := by simp; omega
      simp only [ev, evs, evo, evc, evi, wp_bnd, wp_ok, wp_pur, wp_lift, List.map_cons, List.map_nil, List.cons_append, List.nil_append, List.getElem?_cons_zero, List.getElem?_cons_succ, List.set_cons_zero, List.set_cons_succ, List.replicate_succ, List.replicate_zero, Nat.reduceSub, itemV, seqOf, lstOf, Option.bind_some, Option.bind_none, cmpV, binV, biV, bmV, bmTy, alloc, Option.map_some, Option.map_none, Bool.false_eq_true, if_false, if_true, Option.some.injEq, Prod.mk.injEq, Val.bl.injEq, Val.int.injEq, Val.loc.injEq, Val.str.injEq, Val.lst.injEq, Val.tup.injEq, exists_eq_left', exists_eq_left, exists_and_left, exists_and_right, and_assoc, true_and, and_true, Option.isSome_some, id_eq, Bool.not_true, Bool.not_false, optI, List.length_cons, List.length_nil, lim_le, lim_lt, Nat.zero_add, Nat.reduceAdd, Nat.reduceLeDiff, Nat.zero_le, Nat.reduceLT, e0, d1]
      refine w_nil ⟨⟨_, _, _, rfl⟩, ?_⟩
      rw [List.range_succ, hw']
      simp
  · rintro en s' ⟨o6, o11, o12, rfl, rfl⟩
    refine w_ret ?_
    simp only [ev, evs, evo, evc, evi, wp_bnd, wp_ok, wp_pur, wp_lift, List.map_cons, List.map_nil, List.cons_append, List.nil_append, List.getElem?_cons_zero, List.getElem?_cons_succ, List.set_cons_zero, List.set_cons_succ, List.replicate_succ, List.replicate_zero, Nat.reduceSub, itemV, seqOf, lstOf, Option.bind_some, Option.bind_none, cmpV, binV, biV, bmV, bmTy, alloc, Option.map_some, Option.map_none, Bool.false_eq_true, if_false, if_true, Option.some.injEq, Prod.mk.injEq, Val.bl.injEq, Val.int.injEq, Val.loc.injEq, Val.str.injEq, Val.lst.injEq, Val.tup.injEq, exists_eq_left', exists_eq_left, exists_and_left, exists_and_right, and_assoc, true_and, and_true, Option.isSome_some, id_eq, Bool.not_true, Bool.not_false, optI, List.length_cons, List.length_nil, lim_le, lim_lt, Nat.zero_add, Nat.reduceAdd, Nat.reduceLeDiff, Nat.zero_le, Nat.reduceLT]
    refine ⟨(List.range 14).map (w2 first), by show lstOf _ (.loc s3.length) = _; simp [lstOf]; rfl, words2 hf0 hf1, b3.frm Frm.push (by simp) (by simp), f03.trans (Frm.push.mono (by simp)), fun l h => ?_⟩
    cases h
    exact f03.1
end
end Lw
end
section
set_option Elab.async false
set_option linter.all false
set_option autoImplicit false
set_option maxRecDepth 100000
set_option maxHeartbeats 1000000
/-! What is alike. -/
namespace Lw
open Ab
/-- _law_alike, n its own number -/
def alikeC (n : Nat) : List Stm := [(.ifS (.isN false (.var 1)) [(.ret (.isN false (.var 0)))] []), (.ifS (.bi .isB false [(.var 1)]) [(.ret (.andE (.bi .isB false [(.var 0)]) (.cmp .eq (.var 0) (.var 1))))] []), (.ifS (.bi .isI false [(.var 1)]) [(.ret (.andE (.bi .isI false [(.var 0)]) (.andE (.notE (.bi .isB false [(.var 0)])) (.cmp .eq (.var 0) (.var 1)))))] []), (.ifS (.bi .isS false [(.var 1)]) [(.ret (.andE (.bi .isS false [(.var 0)]) (.cmp .eq (.var 0) (.var 1))))] []), (.ifS (.orE (.cmp .ne (.bi .isT false [(.var 1)]) (.bi .isT false [(.var 0)])) (.cmp .ne (.bi .isL false [(.var 1)]) (.bi .isL false [(.var 0)]))) [(.ret (.cst (.bl false)))] []), (.ifS (.cmp .ne (.bi .len false [(.var 0)]) (.bi .len false [(.var 1)])) [(.ret (.cst (.bl false)))] []), (.forS (.name 2) (.rng1 (.bi .len false [(.var 1)])) [(.ifS (.notE (.call n [(.item (.var 0) (.var 2)), (.item (.var 1) (.var 2))])) [(.ret (.cst (.bl false)))] [])]), (.ret (.cst (.bl true)))]
/-- lists of a size that is walked here -/
def smallV : Nat → Val → Bool
  | 0, _ => false
  | n + 1, .tup ds => decide (ds.length ≤ 1000000) && ds.all (smallV n)
  | n + 1, .lst ds => decide (ds.length ≤ 1000000) && ds.all (smallV n)
  | _ + 1, _ => true
theorem mapM_at {s : Sto} {n : Nat} : ∀ {xs ds : List Val} {i : Nat} {x : Val}, xs.mapM (res s n) = some ds → xs[i]? = some x → ∃ d, ds[i]? = some d ∧ res s n x = some d
  | [], _, i, x, h, e => by simp at e
  | y :: ys, ds, i, x, h, e => by
    rw [List.mapM_cons] at h
    cases e1 : res s n y with
    | none => rw [e1] at h; cases h
    | some d =>
      cases e2 : ys.mapM (res s n) with
      | none => rw [e1, e2] at h; cases h
      | some r =>
        rw [e1, e2] at h
        cases h
        cases i with
        | zero =>
          simp at e
          subst e
          exact ⟨d, rfl, e1⟩
        | succ i =>
          obtain ⟨d', h1, h2⟩ := mapM_at e2 (by simpa using e)
          exact ⟨d', by simpa using h1, h2⟩
theorem mapM_len {s : Sto} {n : Nat} : ∀ {xs ds : List Val}, xs.mapM (res s n) = some ds → xs.length = ds.length
  | [], ds, h => by cases h; rfl
  | y :: ys, ds, h => by
    rw [List.mapM_cons] at h
    cases e1 : res s n y with
    | none => rw [e1] at h; cases h
    | some d =>
      cases e2 : ys.mapM (res s n) with
      | none => rw [e1, e2] at h; cases h
      | some r =>
        rw [e1, e2] at h
        cases h
        simp [mapM_len e2]
/-- what a value that resolves to a tuple, to a list, is -/
theorem res_tup {s : Sto} {n : Nat} {x : Val} {ds : List Val} (h : res s (n + 1) x = some (.tup ds)) : ∃ xs, x = .tup xs ∧ xs.mapM (res s n) = some ds := by
  cases x with
  | tup xs =>
    simp only [res, Option.map_eq_some_iff] at h
    obtain ⟨a, e, q⟩ := h
    cases q
    exact ⟨xs, rfl, e⟩
  | lst xs =>
    simp only [res, Option.map_eq_some_iff] at h
    obtain ⟨a, e, q⟩ := h
    cases q
  | loc l =>
    simp only [res] at h
    split at h
    · simp only [Option.map_eq_some_iff] at h
      obtain ⟨a, e, q⟩ := h
      cases q
    · cases h
  | _ => simp [res] at h
theorem res_lst {s : Sto} {n : Nat} {x : Val} {ds : List Val} (h : res s (n + 1) x = some (.lst ds)) : ∃ xs, lstOf s x = some xs ∧ xs.mapM (res s n) = some ds ∧ (x = .lst xs ∨ ∃ l, x = .loc l ∧ s[l]? = some (.list xs)) := by
  cases x with
  | tup xs =>
    simp only [res, Option.map_eq_some_iff] at h
    obtain ⟨a, e, q⟩ := h
    cases q
  | lst xs =>
    simp only [res, Option.map_eq_some_iff] at h
    obtain ⟨a, e, q⟩ := h
    cases q
    exact ⟨xs, rfl, e, .inl rfl⟩
  | loc l =>
    simp only [res] at h
    split at h
    · rename_i vs e0
      simp only [Option.map_eq_some_iff] at h
      obtain ⟨a, e, q⟩ := h
      cases q
      exact ⟨vs, by simp [lstOf, e0], e, .inr ⟨l, rfl, e0⟩⟩
    · cases h
  | _ => simp [res] at h
theorem res_flat {s : Sto} {n : Nat} {x d : Val} (h : res s (n + 1) x = some d) (hf : flat d = true) : x = d := by
  cases x with
  | tup xs =>
    simp only [res, Option.map_eq_some_iff] at h
    obtain ⟨a, e, q⟩ := h
    subst q
    cases hf
  | lst xs =>
    simp only [res, Option.map_eq_some_iff] at h
    obtain ⟨a, e, q⟩ := h
    subst q
    cases hf
  | loc l =>
    simp only [res] at h
    split at h
    · simp only [Option.map_eq_some_iff] at h
      obtain ⟨a, e, q⟩ := h
      subst q
      cases hf
    · cases h
  | scr _ => simp [res] at h
  | exc _ _ => simp [res] at h
  | _ => simpa [res] using h
section
variable {T : Tab} {f : Nat} {s : Sto}
theorem alike_ok (hc : T.code f = some ⟨2, 3, alikeC f⟩) : ∀ (n k : Nat) {x y d : Val}, res s n x = some d → res s n y = some d → smallV n d = true → Wp (callN T (k + n) f [x, y] s) fun v s' => v = .bl true ∧ s' = s
  | 0, k, x, y, d, h, _, _ => by cases h
  | n + 1, k, x, y, d, hx, hy, hs => by
    show Wp (callN T ((k + n) + 1) f [x, y] s) _
    refine wp_run hc rfl ?_
    have eqi : ∀ i : Int, eqV s (.int i) (.int i) = some true := fun i => by simp [eqV, res, DEEP, pyEq, numOf]
    have eqb : ∀ i : Bool, eqV s (.bl i) (.bl i) = some true := fun i => by simp [eqV, res, DEEP, pyEq, numOf]
    have eqs : ∀ i : Txt, eqV s (.str i) (.str i) = some true := fun i => by simp [eqV, res, DEEP, pyEq]
    have eqb2 : ∀ i j : Bool, eqV s (.bl i) (.bl j) = some (i == j) := fun i j => by cases i <;> cases j <;> rfl
    have ih := alike_ok hc n
    by_cases hf : flat d = true
    · have e1 := res_flat hx hf
      have e2 := res_flat hy hf
      subst e1
      subst e2
      cases y with
      | non =>
        refine w_if ?_
        simp only [ev, evs, evo, evc, evi, wp_bnd, wp_ok, wp_pur, wp_lift, List.map_cons, List.map_nil, List.cons_append, List.nil_append, List.getElem?_cons_zero, List.getElem?_cons_succ, List.set_cons_zero, List.set_cons_succ, List.replicate_succ, List.replicate_zero, Nat.reduceSub, itemV, seqOf, lstOf, Option.bind_some, Option.bind_none, cmpV, binV, biV, bmV, bmTy, alloc, Option.map_some, Option.map_none, Bool.false_eq_true, if_false, if_true, Option.some.injEq, Prod.mk.injEq, Val.bl.injEq, Val.int.injEq, Val.loc.injEq, Val.str.injEq, Val.lst.injEq, Val.tup.injEq, exists_eq_left', exists_eq_left, exists_and_left, exists_and_right, and_assoc, true_and, and_true, Option.isSome_some, id_eq, Bool.not_true, Bool.not_false, optI, List.length_cons, List.length_nil, lim_le, lim_lt, Nat.zero_add, Nat.reduceAdd, Nat.reduceLeDiff, Nat.zero_le, Nat.reduceLT]
        refine ⟨fun _ => w_ret ?_, (fun h => by cases h)⟩
        simp only [ev, evs, evo, evc, evi, wp_bnd, wp_ok, wp_pur, wp_lift, List.map_cons, List.map_nil, List.cons_append, List.nil_append, List.getElem?_cons_zero, List.getElem?_cons_succ, List.set_cons_zero, List.set_cons_succ, List.replicate_succ, List.replicate_zero, Nat.reduceSub, itemV, seqOf, lstOf, Option.bind_some, Option.bind_none, cmpV, binV, biV, bmV, bmTy, alloc, Option.map_some, Option.map_none, Bool.false_eq_true, if_false, if_true, Option.some.injEq, Prod.mk.injEq, Val.bl.injEq, Val.int.injEq, Val.loc.injEq, Val.str.injEq, Val.lst.injEq, Val.tup.injEq, exists_eq_left', exists_eq_left, exists_and_left, exists_and_right, and_assoc, true_and, and_true, Option.isSome_some, id_eq, Bool.not_true, Bool.not_false, optI, List.length_cons, List.length_nil, lim_le, lim_lt, Nat.zero_add, Nat.reduceAdd, Nat.reduceLeDiff, Nat.zero_le, Nat.reduceLT]
      | bl b =>
        refine w_if ?_
        simp only [ev, evs, evo, evc, evi, wp_bnd, wp_ok, wp_pur, wp_lift, List.map_cons, List.map_nil, List.cons_append, List.nil_append, List.getElem?_cons_zero, List.getElem?_cons_succ, List.set_cons_zero, List.set_cons_succ, List.replicate_succ, List.replicate_zero, Nat.reduceSub, itemV, seqOf, lstOf, Option.bind_some, Option.bind_none, cmpV, binV, biV, bmV, bmTy, alloc, Option.map_some, Option.map_none, Bool.false_eq_true, if_false, if_true, Option.some.injEq, Prod.mk.injEq, Val.bl.injEq, Val.int.injEq, Val.loc.injEq, Val.str.injEq, Val.lst.injEq, Val.tup.injEq, exists_eq_left', exists_eq_left, exists_and_left, exists_and_right, and_assoc, true_and, and_true, Option.isSome_some, id_eq, Bool.not_true, Bool.not_false, optI, List.length_cons, List.length_nil, lim_le, lim_lt, Nat.zero_add, Nat.reduceAdd, Nat.reduceLeDiff, Nat.zero_le, Nat.reduceLT]
        refine ⟨(fun h => by cases h), fun _ => w_if ?_⟩
        simp only [ev, evs, evo, evc, evi, wp_bnd, wp_ok, wp_pur, wp_lift, List.map_cons, List.map_nil, List.cons_append, List.nil_append, List.getElem?_cons_zero, List.getElem?_cons_succ, List.set_cons_zero, List.set_cons_succ, List.replicate_succ, List.replicate_zero, Nat.reduceSub, itemV, seqOf, lstOf, Option.bind_some, Option.bind_none, cmpV, binV, biV, bmV, bmTy, alloc, Option.map_some, Option.map_none, Bool.false_eq_true, if_false, if_true, Option.some.injEq, Prod.mk.injEq, Val.bl.injEq, Val.int.injEq, Val.loc.injEq, Val.str.injEq, Val.lst.injEq, Val.tup.injEq, exists_eq_left', exists_eq_left, exists_and_left, exists_and_right, and_assoc, true_and, and_true, Option.isSome_some, id_eq, Bool.not_true, Bool.not_false, optI, List.length_cons, List.length_nil, lim_le, lim_lt, Nat.zero_add, Nat.reduceAdd, Nat.reduceLeDiff, Nat.zero_le, Nat.reduceLT, isKind]
        refine ⟨fun _ => w_ret ?_, (fun h => by cases h)⟩
        simp only [ev, evs, evo, evc, evi, wp_bnd, wp_ok, wp_pur, wp_lift, List.map_cons, List.map_nil, List.cons_append, List.nil_append, List.getElem?_cons_zero, List.getElem?_cons_succ, List.set_cons_zero, List.set_cons_succ, List.replicate_succ, List.replicate_zero, Nat.reduceSub, itemV, seqOf, lstOf, Option.bind_some, Option.bind_none, cmpV, binV, biV, bmV, bmTy, alloc, Option.map_some, Option.map_none, Bool.false_eq_true, if_false, if_true, Option.some.injEq, Prod.mk.injEq, Val.bl.injEq, Val.int.injEq, Val.loc.injEq, Val.str.injEq, Val.lst.injEq, Val.tup.injEq, exists_eq_left', exists_eq_left, exists_and_left, exists_and_right, and_assoc, true_and, and_true, Option.isSome_some, id_eq, Bool.not_true, Bool.not_false, optI, List.length_cons, List.length_nil, lim_le, lim_lt, Nat.zero_add, Nat.reduceAdd, Nat.reduceLeDiff, Nat.zero_le, Nat.reduceLT, isKind, eqb]
      | int b =>
        refine w_if ?_
        simp only [ev, evs, evo, evc, evi, wp_bnd, wp_ok, wp_pur, wp_lift, List.map_cons, List.map_nil, List.cons_append, List.nil_append, List.getElem?_cons_zero, List.getElem?_cons_succ, List.set_cons_zero, List.set_cons_succ, List.replicate_succ, List.replicate_zero, Nat.reduceSub, itemV, seqOf, lstOf, Option.bind_some, Option.bind_none, cmpV, binV, biV, bmV, bmTy, alloc, Option.map_some, Option.map_none, Bool.false_eq_true, if_false, if_true, Option.some.injEq, Prod.mk.injEq, Val.bl.injEq, Val.int.injEq, Val.loc.injEq, Val.str.injEq, Val.lst.injEq, Val.tup.injEq, exists_eq_left', exists_eq_left, exists_and_left, exists_and_right, and_assoc, true_and, and_true, Option.isSome_some, id_eq, Bool.not_true, Bool.not_false, optI, List.length_cons, List.length_nil, lim_le, lim_lt, Nat.zero_add, Nat.reduceAdd, Nat.reduceLeDiff, Nat.zero_le, Nat.reduceLT]
        refine ⟨(fun h => by cases h), fun _ => w_if ?_⟩
        simp only [ev, evs, evo, evc, evi, wp_bnd, wp_ok, wp_pur, wp_lift, List.map_cons, List.map_nil, List.cons_append, List.nil_append, List.getElem?_cons_zero, List.getElem?_cons_succ, List.set_cons_zero, List.set_cons_succ, List.replicate_succ, List.replicate_zero, Nat.reduceSub, itemV, seqOf, lstOf, Option.bind_some, Option.bind_none, cmpV, binV, biV, bmV, bmTy, alloc, Option.map_some, Option.map_none, Bool.false_eq_true, if_false, if_true, Option.some.injEq, Prod.mk.injEq, Val.bl.injEq, Val.int.injEq, Val.loc.injEq, Val.str.injEq, Val.lst.injEq, Val.tup.injEq, exists_eq_left', exists_eq_left, exists_and_left, exists_and_right, and_assoc, true_and, and_true, Option.isSome_some, id_eq, Bool.not_true, Bool.not_false, optI, List.length_cons, List.length_nil, lim_le, lim_lt, Nat.zero_add, Nat.reduceAdd, Nat.reduceLeDiff, Nat.zero_le, Nat.reduceLT, isKind]
        refine ⟨(fun h => by cases h), fun _ => w_if ?_⟩
        simp only [ev, evs, evo, evc, evi, wp_bnd, wp_ok, wp_pur, wp_lift, List.map_cons, List.map_nil, List.cons_append, List.nil_append, List.getElem?_cons_zero, List.getElem?_cons_succ, List.set_cons_zero, List.set_cons_succ, List.replicate_succ, List.replicate_zero, Nat.reduceSub, itemV, seqOf, lstOf, Option.bind_some, Option.bind_none, cmpV, binV, biV, bmV, bmTy, alloc, Option.map_some, Option.map_none, Bool.false_eq_true, if_false, if_true, Option.some.injEq, Prod.mk.injEq, Val.bl.injEq, Val.int.injEq, Val.loc.injEq, Val.str.injEq, Val.lst.injEq, Val.tup.injEq, exists_eq_left', exists_eq_left, exists_and_left, exists_and_right, and_assoc, true_and, and_true, Option.isSome_some, id_eq, Bool.not_true, Bool.not_false, optI, List.length_cons, List.length_nil, lim_le, lim_lt, Nat.zero_add, Nat.reduceAdd, Nat.reduceLeDiff, Nat.zero_le, Nat.reduceLT, isKind]
        refine ⟨fun _ => w_ret ?_, (fun h => by cases h)⟩
        simp only [ev, evs, evo, evc, evi, wp_bnd, wp_ok, wp_pur, wp_lift, List.map_cons, List.map_nil, List.cons_append, List.nil_append, List.getElem?_cons_zero, List.getElem?_cons_succ, List.set_cons_zero, List.set_cons_succ, List.replicate_succ, List.replicate_zero, Nat.reduceSub, itemV, seqOf, lstOf, Option.bind_some, Option.bind_none, cmpV, binV, biV, bmV, bmTy, alloc, Option.map_some, Option.map_none, Bool.false_eq_true, if_false, if_true, Option.some.injEq, Prod.mk.injEq, Val.bl.injEq, Val.int.injEq, Val.loc.injEq, Val.str.injEq, Val.lst.injEq, Val.tup.injEq, exists_eq_left', exists_eq_left, exists_and_left, exists_and_right, and_assoc, true_and, and_true, Option.isSome_some, id_eq, Bool.not_true, Bool.not_false, optI, List.length_cons, List.length_nil, lim_le, lim_lt, Nat.zero_add, Nat.reduceAdd, Nat.reduceLeDiff, Nat.zero_le, Nat.reduceLT, isKind, eqi]
      | str b =>
        refine w_if ?_
        simp only [ev, evs, evo, evc, evi, wp_bnd, wp_ok, wp_pur, wp_lift, List.map_cons, List.map_nil, List.cons_append, List.nil_append, List.getElem?_cons_zero, List.getElem?_cons_succ, List.set_cons_zero, List.set_cons_succ, List.replicate_succ, List.replicate_zero, Nat.reduceSub, itemV, seqOf, lstOf, Option.bind_some, Option.bind_none, cmpV, binV, biV, bmV, bmTy, alloc, Option.map_some, Option.map_none, Bool.false_eq_true, if_false, if_true, Option.some.injEq, Prod.mk.injEq, Val.bl.injEq, Val.int.injEq, Val.loc.injEq, Val.str.injEq, Val.lst.injEq, Val.tup.injEq, exists_eq_left', exists_eq_left, exists_and_left, exists_and_right, and_assoc, true_and, and_true, Option.isSome_some, id_eq, Bool.not_true, Bool.not_false, optI, List.length_cons, List.length_nil, lim_le, lim_lt, Nat.zero_add, Nat.reduceAdd, Nat.reduceLeDiff, Nat.zero_le, Nat.reduceLT]
        refine ⟨(fun h => by cases h), fun _ => w_if ?_⟩
        simp only [ev, evs, evo, evc, evi, wp_bnd, wp_ok, wp_pur, wp_lift, List.map_cons, List.map_nil, List.cons_append, List.nil_append, List.getElem?_cons_zero, List.getElem?_cons_succ, List.set_cons_zero, List.set_cons_succ, List.replicate_succ, List.replicate_zero, Nat.reduceSub, itemV, seqOf, lstOf, Option.bind_some, Option.bind_none, cmpV, binV, biV, bmV, bmTy, alloc, Option.map_some, Option.map_none, Bool.false_eq_true, if_false, if_true, Option.some.injEq, Prod.mk.injEq, Val.bl.injEq, Val.int.injEq, Val.loc.injEq, Val.str.injEq, Val.lst.injEq, Val.tup.injEq, exists_eq_left', exists_eq_left, exists_and_left, exists_and_right, and_assoc, true_and, and_true, Option.isSome_some, id_eq, Bool.not_true, Bool.not_false, optI, List.length_cons, List.length_nil, lim_le, lim_lt, Nat.zero_add, Nat.reduceAdd, Nat.reduceLeDiff, Nat.zero_le, Nat.reduceLT, isKind]
        refine ⟨(fun h => by cases h), fun _ => w_if ?_⟩
        simp only [ev, evs, evo, evc, evi, wp_bnd, wp_ok, wp_pur, wp_lift, List.map_cons, List.map_nil, List.cons_append, List.nil_append, List.getElem?_cons_zero, List.getElem?_cons_succ, List.set_cons_zero, List.set_cons_succ, List.replicate_succ, List.replicate_zero, Nat.reduceSub, itemV, seqOf, lstOf, Option.bind_some, Option.bind_none, cmpV, binV, biV, bmV, bmTy, alloc, Option.map_some, Option.map_none, Bool.false_eq_true, if_false, if_true, Option.some.injEq, Prod.mk.injEq, Val.bl.injEq, Val.int.injEq, Val.loc.injEq, Val.str.injEq, Val.lst.injEq, Val.tup.injEq, exists_eq_left', exists_eq_left, exists_and_left, exists_and_right, and_assoc, true_and, and_true, Option.isSome_some, id_eq, Bool.not_true, Bool.not_false, optI, List.length_cons, List.length_nil, lim_le, lim_lt, Nat.zero_add, Nat.reduceAdd, Nat.reduceLeDiff, Nat.zero_le, Nat.reduceLT, isKind]
        refine ⟨(fun h => by cases h), fun _ => w_if ?_⟩
        simp only [ev, evs, evo, evc, evi, wp_bnd, wp_ok, wp_pur, wp_lift, List.map_cons, List.map_nil, List.cons_append, List.nil_append, List.getElem?_cons_zero, List.getElem?_cons_succ, List.set_cons_zero, List.set_cons_succ, List.replicate_succ, List.replicate_zero, Nat.reduceSub, itemV, seqOf, lstOf, Option.bind_some, Option.bind_none, cmpV, binV, biV, bmV, bmTy, alloc, Option.map_some, Option.map_none, Bool.false_eq_true, if_false, if_true, Option.some.injEq, Prod.mk.injEq, Val.bl.injEq, Val.int.injEq, Val.loc.injEq, Val.str.injEq, Val.lst.injEq, Val.tup.injEq, exists_eq_left', exists_eq_left, exists_and_left, exists_and_right, and_assoc, true_and, and_true, Option.isSome_some, id_eq, Bool.not_true, Bool.not_false, optI, List.length_cons, List.length_nil, lim_le, lim_lt, Nat.zero_add, Nat.reduceAdd, Nat.reduceLeDiff, Nat.zero_le, Nat.reduceLT, isKind]
        refine ⟨fun _ => w_ret ?_, (fun h => by cases h)⟩
        simp only [ev, evs, evo, evc, evi, wp_bnd, wp_ok, wp_pur, wp_lift, List.map_cons, List.map_nil, List.cons_append, List.nil_append, List.getElem?_cons_zero, List.getElem?_cons_succ, List.set_cons_zero, List.set_cons_succ, List.replicate_succ, List.replicate_zero, Nat.reduceSub, itemV, seqOf, lstOf, Option.bind_some, Option.bind_none, cmpV, binV, biV, bmV, bmTy, alloc, Option.map_some, Option.map_none, Bool.false_eq_true, if_false, if_true, Option.some.injEq, Prod.mk.injEq, Val.bl.injEq, Val.int.injEq, Val.loc.injEq, Val.str.injEq, Val.lst.injEq, Val.tup.injEq, exists_eq_left', exists_eq_left, exists_and_left, exists_and_right, and_assoc, true_and, and_true, Option.isSome_some, id_eq, Bool.not_true, Bool.not_false, optI, List.length_cons, List.length_nil, lim_le, lim_lt, Nat.zero_add, Nat.reduceAdd, Nat.reduceLeDiff, Nat.zero_le, Nat.reduceLT, isKind, eqs]
      | _ => cases hf
    · -- what has items
      have parts : ∃ xs ys ds, seqOf s x = some xs ∧ seqOf s y = some ys ∧ xs.mapM (res s n) = some ds ∧ ys.mapM (res s n) = some ds ∧ ds.length ≤ 1000000 ∧ (∀ d ∈ ds, smallV n d = true) ∧
          (∃ t : Bool, isKind .isT s x = some t ∧ isKind .isT s y = some t ∧ isKind .isL s x = some (!t) ∧ isKind .isL s y = some (!t)) ∧ isKind .isB s y = some false ∧ isKind .isI s y = some false ∧ isKind .isS s y = some false ∧ y ≠ .non ∧
          (∀ m, biV .len m [x] s = some (.int xs.length, s)) ∧ (∀ m, biV .len m [y] s = some (.int ys.length, s)) ∧ (∀ k, itemV x (.int k) s = L2.atI xs k) ∧ ∀ k, itemV y (.int k) s = L2.atI ys k := by
        cases d with
        | tup ds =>
          obtain ⟨xs, rfl, h1⟩ := res_tup hx
          obtain ⟨ys, rfl, h2⟩ := res_tup hy
          simp only [smallV, Bool.and_eq_true, decide_eq_true_eq, List.all_eq_true] at hs
          exact ⟨xs, ys, ds, rfl, rfl, h1, h2, hs.1, hs.2, ⟨true, rfl, rfl, rfl, rfl⟩, rfl, rfl, rfl, (fun z => by cases z), fun _ => rfl, fun _ => rfl, fun _ => rfl, fun _ => rfl⟩
        | lst ds =>
          obtain ⟨xs, h0, h1, hx⟩ := res_lst hx
          obtain ⟨ys, h0', h2, hy⟩ := res_lst hy
          simp only [smallV, Bool.and_eq_true, decide_eq_true_eq, List.all_eq_true] at hs
          have kk : ∀ {z : Val} {zs : List Val}, (z = .lst zs ∨ ∃ l, z = .loc l ∧ s[l]? = some (.list zs)) → seqOf s z = some zs ∧ isKind .isT s z = some false ∧ isKind .isL s z = some true ∧ isKind .isB s z = some false ∧ isKind .isI s z = some false ∧ isKind .isS s z = some false ∧ z ≠ .non ∧ (∀ m, biV .len m [z] s = some (.int zs.length, s)) ∧ ∀ k, itemV z (.int k) s = L2.atI zs k := by
            intro z zs hz
            rcases hz with rfl | ⟨l, rfl, e⟩
            · exact ⟨rfl, rfl, rfl, rfl, rfl, rfl, (fun z => by cases z), fun _ => rfl, fun _ => rfl⟩
            · exact ⟨by simp [seqOf, lstOf, e], by simp [isKind, e], by simp [isKind, e], by simp [isKind, e], by simp [isKind, e], by simp [isKind, e], (fun z => by cases z), fun _ => by simp [biV, e], fun _ => by simp [itemV, seqOf, lstOf, e]⟩
          obtain ⟨a1, a2, a3, a4, a5, a6, a7, a8, a9⟩ := kk hx
          obtain ⟨c1, c2, c3, c4, c5, c6, c7, c8, c9⟩ := kk hy
          exact ⟨xs, ys, ds, a1, c1, h1, h2, hs.1, hs.2, ⟨false, a2, c2, a3, c3⟩, c4, c5, c6, c7, a8, c8, a9, c9⟩
        | non => exact absurd rfl hf
        | bl _ => exact absurd rfl hf
        | int _ => exact absurd rfl hf
        | str _ => exact absurd rfl hf
        | loc _ => cases n <;> simp [smallV] at hs <;> (obtain hx := hx; cases x <;> simp [res] at hx <;> (try (split at hx <;> simp at hx)))
        | scr _ => cases x <;> simp [res] at hx <;> (try (split at hx <;> simp at hx))
        | exc _ _ => cases x <;> simp [res] at hx <;> (try (split at hx <;> simp at hx))
      obtain ⟨xs, ys, ds, p1, p2, p3, p4, p5, p6, ⟨t, q1, q2, q3, q4⟩, r1, r2, r3, r4, l1, l2, i1, i2⟩ := parts
      have hl1 := mapM_len p3
      have hl2 := mapM_len p4
      have isn : ∀ C : Ctx, ev C (.isN false (.var 1)) [some x, some y, none] s = some (.ok (.bl false), s) := fun C => by
        rw [ev]
        show bnd (ok y s) _ = _
        (cases y <;> first | rfl | exact absurd rfl r4)
      have kind : ∀ (C : Ctx) (b : BI) (m : Bool) (i : Nat) (z : Val) (q : Bool) (o : Option Val), ([some x, some y, o] : Env)[i]? = some (some z) → biV b m [z] s = some (.bl q, s) → ev C (.bi b m [.var i]) [some x, some y, o] s = some (.ok (.bl q), s) := fun C b m i z q o h1 h2 => by
        simp only [ev, evs, h1, ok, bnd, h2, lift]
      have lenE : ∀ (C : Ctx) (i : Nat) (z : Val) (q : Int) (o : Option Val), ([some x, some y, o] : Env)[i]? = some (some z) → biV .len false [z] s = some (.int q, s) → ev C (.bi .len false [.var i]) [some x, some y, o] s = some (.ok (.int q), s) := fun C i z q o h1 h2 => by
        simp only [ev, evs, h1, ok, bnd, h2, lift]
      refine w_if ⟨_, _, isn _, false, rfl, fun h => (by cases h), fun _ => ?_⟩
      refine w_if ⟨_, _, kind _ .isB false 1 y false none rfl (by simp only [biV, r1, Option.map_some]), false, rfl, fun h => (by cases h), fun _ => ?_⟩
      refine w_if ⟨_, _, kind _ .isI false 1 y false none rfl (by simp only [biV, r2, Option.map_some]), false, rfl, fun h => (by cases h), fun _ => ?_⟩
      refine w_if ⟨_, _, kind _ .isS false 1 y false none rfl (by simp only [biV, r3, Option.map_some]), false, rfl, fun h => (by cases h), fun _ => ?_⟩
      have k1 := fun C => kind C .isT false 1 y t none rfl (by simp only [biV, q2, Option.map_some])
      have k2 := fun C => kind C .isT false 0 x t none rfl (by simp only [biV, q1, Option.map_some])
      have k3 := fun C => kind C .isL false 1 y (!t) none rfl (by simp only [biV, q4, Option.map_some])
      have k4 := fun C => kind C .isL false 0 x (!t) none rfl (by simp only [biV, q3, Option.map_some])
      refine w_if ⟨.bl false, s, ?_, false, rfl, fun h => (by cases h), fun _ => ?_⟩
      · simp only [List.nil_append, List.map_cons, List.map_nil, List.cons_append, List.replicate_succ, List.replicate_zero, Nat.reduceSub]
        rw [ev, ev, k1]
        simp only [bnd, k2, pur, cmpV, eqb2, Option.map_some, beq_self_eq_true, Bool.not_true, ok]
        rw [ev, k3]
        simp only [bnd, k4, pur, cmpV, eqb2, Option.map_some, beq_self_eq_true, Bool.not_true, ok]
      have n1 := fun C => lenE C 0 x xs.length none rfl (l1 false)
      have n2 := fun C => lenE C 1 y ys.length none rfl (l2 false)
      refine w_if ⟨.bl false, s, ?_, false, rfl, fun h => (by cases h), fun _ => ?_⟩
      · simp only [List.nil_append, List.map_cons, List.map_nil, List.cons_append, List.replicate_succ, List.replicate_zero, Nat.reduceSub]
        rw [ev, n1]
        simp only [bnd, n2, pur, cmpV, hl1, hl2, eqi, Option.map_some, Bool.not_true, ok]
      refine w_forE (fun i en s' => s' = s ∧ ∃ o : Option Val, en = [some x, some y, o]) (w := (rngV 0 ys.length, none)) (s1 := s) ?_ ⟨rfl, none, rfl⟩ (fun _ _ _ _ => rfl) ?_ ?_
      · simp only [List.nil_append, List.map_cons, List.map_nil, List.cons_append, List.replicate_succ, List.replicate_zero, Nat.reduceSub]
        rw [evi, n2]
        have : rngOk 0 ys.length = true := decide_eq_true (by omega)
        simp only [bnd, this, if_true, ok, Int.toNat_natCast]
      · rintro i v en s' hv ⟨rfl, o, rfl⟩
        obtain ⟨rfl, hi⟩ := rng_at hv
        refine ⟨[some x, some y, some (.int (i : Nat))], rfl, ?_⟩
        obtain ⟨xi, ex⟩ : ∃ xi, xs[i]? = some xi := ⟨_, List.getElem?_eq_getElem (by omega)⟩
        obtain ⟨yi, ey⟩ : ∃ yi, ys[i]? = some yi := ⟨_, List.getElem?_eq_getElem hi⟩
        obtain ⟨d1, g1, g2⟩ := mapM_at p3 ex
        obtain ⟨d2, g3, g4⟩ := mapM_at p4 ey
        rw [g1] at g3
        cases g3
        have sm := p6 d1 (List.mem_of_getElem? g1)
        obtain ⟨v, s1, e1, rfl, rfl⟩ := ih k g2 g4 sm
        refine w_if ⟨.bl false, s1, ?_, false, rfl, fun h => (by cases h), fun _ => w_nil ⟨rfl, _, rfl⟩⟩
        simp only [ev, evs, List.getElem?_cons_zero, List.getElem?_cons_succ, ok, bnd, pur, i1, i2, atI_of ex, atI_of ey]
        simp only [e1, Bool.not_true]
      · rintro en s' ⟨rfl, o, rfl⟩
        refine w_ret ?_
        simp only [ev, evs, evo, evc, evi, wp_bnd, wp_ok, wp_pur, wp_lift, List.map_cons, List.map_nil, List.cons_append, List.nil_append, List.getElem?_cons_zero, List.getElem?_cons_succ, List.set_cons_zero, List.set_cons_succ, List.replicate_succ, List.replicate_zero, Nat.reduceSub, itemV, seqOf, lstOf, Option.bind_some, Option.bind_none, cmpV, binV, biV, bmV, bmTy, alloc, Option.map_some, Option.map_none, Bool.false_eq_true, if_false, if_true, Option.some.injEq, Prod.mk.injEq, Val.bl.injEq, Val.int.injEq, Val.loc.injEq, Val.str.injEq, Val.lst.injEq, Val.tup.injEq, exists_eq_left', exists_eq_left, exists_and_left, exists_and_right, and_assoc, true_and, and_true, Option.isSome_some, id_eq, Bool.not_true, Bool.not_false, optI, List.length_cons, List.length_nil, lim_le, lim_lt, Nat.zero_add, Nat.reduceAdd, Nat.reduceLeDiff, Nat.zero_le, Nat.reduceLT]
end
end Lw
end
section
set_option maxRecDepth 100000
set_option maxHeartbeats 4000000
/-! ### printed by gen.py: the code -/
namespace K10
/-- House.__init__: 0 self, 1 names -/
def c0 : List Ab.Stm := [(.asgF (.var 0) 0 (.bi .list false [(.var 1)])), (.asgF (.var 0) 1 .dT), (.asgF (.var 0) 2 (.lst true []))]
/-- House.refuse: 0 self, 1 names -/
def c1 : List Ab.Stm := [(.asgF (.var 0) 0 (.bi .list false [(.var 1)]))]
/-- House.do: 0 self, 1 errand, 2 name, 3 sure, 4 at -/
def c2 : List Ab.Stm := [(.asg (.name 4) (.tup [(.var 1), (.var 2)])), (.ifS (.cmp .notin (.var 4) (.fld (.var 0) 1)) [(.ifS (.andE (.cmp .inn (.var 2) (.fld (.var 0) 0)) (.notE (.var 3))) [(.asgI (.fld (.var 0) 1) (.var 4) (.cst (.str [102, 97, 105, 108, 101, 100])))] [(.asgI (.fld (.var 0) 1) (.var 4) (.cst (.str [100, 111, 110, 101]))), (.expr (.bm .append (.fld (.var 0) 2) [(.tup [(.cst (.str [100, 111, 110, 101])), (.var 1), (.var 2)])]))])] []), (.ret (.item (.fld (.var 0) 1) (.var 4)))]
/-- House.back: 0 self, 1 errand, 2 name, 3 at -/
def c3 : List Ab.Stm := [(.asg (.name 3) (.tup [(.var 1), (.var 2)])), (.ifS (.cmp .notin (.var 3) (.fld (.var 0) 1)) [(.asgI (.fld (.var 0) 1) (.var 3) (.cst (.str [102, 97, 105, 108, 101, 100])))] [(.ifS (.andE (.cmp .eq (.item (.fld (.var 0) 1) (.var 3)) (.cst (.str [100, 111, 110, 101]))) (.cmp .notin (.tup [(.cst (.str [98, 97, 99, 107, 101, 100])), (.var 1), (.var 2)]) (.fld (.var 0) 2))) [(.expr (.bm .append (.fld (.var 0) 2) [(.tup [(.cst (.str [98, 97, 99, 107, 101, 100])), (.var 1), (.var 2)])]))] [])]), (.ret (.cst (.str [98, 97, 99, 107, 101, 100])))]
/-- House.story: 0 self -/
def c4 : List Ab.Stm := [(.ret (.bi .list true [(.fld (.var 0) 2)]))]
/-- House.holds: 0 self, 1 deed -/
def c5 : List Ab.Stm := [(.ret (.comp true (.slice false (.var 1) (some (.cst (.int 1))) none) (.name 1) (.val (.fld (.var 0) 2)) (some (.andE (.cmp .eq (.item (.var 1) (.cst (.int 0))) (.cst (.str [100, 111, 110, 101]))) (.cmp .notin (.bin .add false (.tup [(.cst (.str [98, 97, 99, 107, 101, 100]))]) (.slice false (.var 1) (some (.cst (.int 1))) none)) (.fld (.var 0) 2)))) [1]))]
/-- _law_begun: 0 _law_script, 1 _law_stirred, 2 _law_cell -/
def c6 : List Ab.Stm := [(.asg (.name 1) (.cst (.int 0))), (.forS (.name 2) (.val (.var 0)) [(.asg (.name 1) (.bin .mod false (.bin .add false (.bin .add false (.bin .mul false (.var 1) (.cst (.int 48271))) (.bin .mul false (.var 2) (.cst (.int 69621)))) (.cst (.int 11))) (.cst (.int 2147483647))))]), (.ret (.lst true [(.bi .list true [(.var 0)]), (.bin .mul false (.var 1) (.bi .int false [(.cmp .gt (.bi .len false [(.var 0)]) (.cst (.int 2)))]))]))]
/-- _law_take: 0 _law_box, 1 _law_many, 2 _law_number -/
def c7 : List Ab.Stm := [(.ifS (.cmp .eq (.item (.var 0) (.cst (.int 0))) (.lst false [])) [(.asgI (.var 0) (.cst (.int 1)) (.bin .mod false (.bin .mul false (.item (.var 0) (.cst (.int 1))) (.cst (.int 48271))) (.cst (.int 2147483647)))), (.ret (.bin .mod false (.bin .fdiv false (.item (.var 0) (.cst (.int 1))) (.cst (.int 7))) (.var 1)))] []), (.asg (.name 2) (.item (.item (.var 0) (.cst (.int 0))) (.cst (.int 0)))), (.asgI (.item (.var 0) (.cst (.int 0))) (.cst (.int 0)) (.bin .fdiv false (.var 2) (.var 1))), (.ifS (.orE (.cmp .eq (.item (.item (.var 0) (.cst (.int 0))) (.cst (.int 0))) (.cst (.int 0))) (.cmp .eq (.item (.item (.var 0) (.cst (.int 0))) (.cst (.int 0))) (.cst (.int (-1))))) [(.expr (.bm .popAt (.item (.var 0) (.cst (.int 0))) [(.cst (.int 0))]))] []), (.ret (.bin .mod false (.var 2) (.var 1)))]
/-- _law_alike: 0 _law_found, 1 _law_due, 2 _law_k -/
def c8 : List Ab.Stm := [(.ifS (.isN false (.var 1)) [(.ret (.isN false (.var 0)))] []), (.ifS (.bi .isB false [(.var 1)]) [(.ret (.andE (.bi .isB false [(.var 0)]) (.cmp .eq (.var 0) (.var 1))))] []), (.ifS (.bi .isI false [(.var 1)]) [(.ret (.andE (.bi .isI false [(.var 0)]) (.andE (.notE (.bi .isB false [(.var 0)])) (.cmp .eq (.var 0) (.var 1)))))] []), (.ifS (.bi .isS false [(.var 1)]) [(.ret (.andE (.bi .isS false [(.var 0)]) (.cmp .eq (.var 0) (.var 1))))] []), (.ifS (.orE (.cmp .ne (.bi .isT false [(.var 1)]) (.bi .isT false [(.var 0)])) (.cmp .ne (.bi .isL false [(.var 1)]) (.bi .isL false [(.var 0)]))) [(.ret (.cst (.bl false)))] []), (.ifS (.cmp .ne (.bi .len false [(.var 0)]) (.bi .len false [(.var 1)])) [(.ret (.cst (.bl false)))] []), (.forS (.name 2) (.rng1 (.bi .len false [(.var 1)])) [(.ifS (.notE (.call 8 [(.item (.var 0) (.var 2)), (.item (.var 1) (.var 2))])) [(.ret (.cst (.bl false)))] [])]), (.ret (.cst (.bl true)))]
/-- _law_words: 0 _law_box, 1 _law_letters, 2 _law_base, 3 _law_first, 4 _law_sort, 5 _law_words_here, 6 _law_k, 7 _law_place, 8 _law_size, 9 _law_step, 10 _law_others, 11 _law_word, 12 _law_number, 13 _law_letter -/
def c9 : List Ab.Stm := [(.asg (.name 1) (.cst (.str [97, 98, 99, 100, 101, 102, 103, 104, 105, 106, 107, 108, 109, 110, 111, 112, 113, 114, 115, 116, 117, 118, 119, 120, 121, 122]))), (.asg (.name 2) (.comp false (.item (.var 1) (.call 7 [(.var 0), (.cst (.int 26))])) (.name 7) (.rng1 (.cst (.int 6))) none [7])), (.asg (.name 3) (.call 7 [(.var 0), (.cst (.int 26))])), (.asg (.name 4) (.call 7 [(.var 0), (.cst (.int 3))])), (.ifS (.cmp .eq (.var 4) (.cst (.int 0))) [(.asg (.name 7) (.call 7 [(.var 0), (.cst (.int 6))])), (.asg (.name 8) (.bin .add false (.bin .add false (.var 7) (.cst (.int 1))) (.call 7 [(.var 0), (.bin .sub false (.cst (.int 6)) (.var 7))]))), (.asg (.name 9) (.item (.lst false [(.cst (.int 1)), (.cst (.int 3)), (.cst (.int 5)), (.cst (.int 7))]) (.call 7 [(.var 0), (.cst (.int 4))]))), (.asg (.name 10) (.comp false (.item (.var 1) (.bin .mod false (.bin .add false (.var 3) (.bin .mul false (.var 9) (.var 6))) (.cst (.int 26)))) (.name 6) (.rng1 (.cst (.int 14))) none [6])), (.ret (.comp false (.bm .join (.cst (.str [])) [(.bin .add false (.bin .add false (.slice false (.var 2) none (some (.var 7))) (.lst false [(.var 13)])) (.slice false (.var 2) (some (.bin .add false (.var 7) (.cst (.int 1)))) (some (.var 8))))]) (.name 13) (.val (.var 10)) none [13]))] []), (.ifS (.cmp .eq (.var 4) (.cst (.int 1))) [(.ret (.comp false (.bin .add false (.item (.var 1) (.bin .mod false (.bin .add false (.var 3) (.bin .fdiv false (.var 6) (.cst (.int 6)))) (.cst (.int 26)))) (.bm .join (.cst (.str [])) [(.slice false (.var 2) (some (.cst (.int 1))) (some (.bin .add false (.cst (.int 1)) (.bin .mod false (.var 6) (.cst (.int 6))))))])) (.name 6) (.rng1 (.cst (.int 14))) none [6]))] []), (.asg (.name 5) (.lst true [])), (.forS (.name 6) (.rng1 (.cst (.int 14))) [(.asg (.name 11) (.cst (.str []))), (.asg (.name 12) (.bin .add false (.var 6) (.cst (.int 2)))), (.whl (.cmp .gt (.var 12) (.cst (.int 1))) [(.asg (.name 11) (.bin .add false (.item (.var 1) (.bin .mod false (.bin .add false (.var 3) (.bin .mod false (.var 12) (.cst (.int 2)))) (.cst (.int 26)))) (.var 11))), (.asg (.name 12) (.bin .fdiv false (.var 12) (.cst (.int 2))))]), (.expr (.bm .append (.var 5) [(.var 11)]))]), (.ret (.var 5))]
/-- _law_deed: 0 _law_box, 1 _law_words_here, 2 _law_house, 3 _law_table, 4 _law_wide, 5 _law_number, 6 _law_name, 7 _law_kind, 8 _law_is_sure, 9 _law_handed, 10 _law_good, 11 _law_turn -/
def c10 : List Ab.Stm := [(.asg (.name 5) (.bin .add false (.cst (.int 1)) (.call 7 [(.var 0), (.item (.lst false [(.cst (.int 3)), (.cst (.int 40))]) (.var 4))]))), (.asg (.name 6) (.item (.var 1) (.call 7 [(.var 0), (.item (.lst false [(.cst (.int 5)), (.cst (.int 14))]) (.var 4))]))), (.asg (.name 7) (.call 7 [(.var 0), (.cst (.int 8))])), (.ifS (.cmp .eq (.var 7) (.cst (.int 7))) [(.asgI (.var 3) (.cst (.int 2)) (.comp false (.item (.var 1) (.call 7 [(.var 0), (.cst (.int 5))])) (.name 11) (.rng1 (.call 7 [(.var 0), (.cst (.int 4))])) none [11])), (.asg (.name 9) (.bi .list true [(.item (.var 3) (.cst (.int 2)))])), (.asg (.name 10) (.isN false (.meth 0 (.var 2) [(.var 9)]))), (.expr (.bm .append (.var 9) [(.item (.var 1) (.cst (.int 0)))])), (.expr (.bm .append (.var 9) [(.item (.var 1) (.cst (.int 1)))])), (.ret (.var 10))] []), (.ifS (.cmp .lt (.var 7) (.cst (.int 3))) [(.ifS (.andE (.cmp .eq (.bm .get2 (.item (.var 3) (.cst (.int 0))) [(.tup [(.var 5), (.var 6)]), (.cst (.str []))]) (.cst (.str [100, 111, 110, 101]))) (.cmp .notin (.tup [(.cst (.str [98, 97, 99, 107, 101, 100])), (.var 5), (.var 6)]) (.item (.var 3) (.cst (.int 1))))) [(.expr (.bm .append (.item (.var 3) (.cst (.int 1))) [(.tup [(.cst (.str [98, 97, 99, 107, 101, 100])), (.var 5), (.var 6)])]))] []), (.asgI (.item (.var 3) (.cst (.int 0))) (.tup [(.var 5), (.var 6)]) (.bm .get2 (.item (.var 3) (.cst (.int 0))) [(.tup [(.var 5), (.var 6)]), (.cst (.str [102, 97, 105, 108, 101, 100]))])), (.ret (.call 8 [(.meth 2 (.var 2) [(.var 5), (.var 6)]), (.cst (.str [98, 97, 99, 107, 101, 100]))]))] []), (.asg (.name 8) (.cmp .eq (.var 7) (.cst (.int 6)))), (.ifS (.cmp .notin (.tup [(.var 5), (.var 6)]) (.item (.var 3) (.cst (.int 0)))) [(.asgI (.item (.var 3) (.cst (.int 0))) (.tup [(.var 5), (.var 6)]) (.item (.lst false [(.cst (.str [100, 111, 110, 101])), (.cst (.str [102, 97, 105, 108, 101, 100]))]) (.bi .int false [(.andE (.cmp .inn (.var 6) (.item (.var 3) (.cst (.int 2)))) (.notE (.var 8)))]))), (.ifS (.cmp .eq (.item (.item (.var 3) (.cst (.int 0))) (.tup [(.var 5), (.var 6)])) (.cst (.str [100, 111, 110, 101]))) [(.expr (.bm .append (.item (.var 3) (.cst (.int 1))) [(.tup [(.cst (.str [100, 111, 110, 101])), (.var 5), (.var 6)])]))] [])] []), (.ifS (.var 8) [(.ret (.call 8 [(.methK 1 (.var 2) [(.var 5), (.var 6)] (.cst (.bl true))), (.item (.item (.var 3) (.cst (.int 0))) (.tup [(.var 5), (.var 6)]))]))] []), (.ret (.call 8 [(.methD 1 (.var 2) [(.var 5), (.var 6)]), (.item (.item (.var 3) (.cst (.int 0))) (.tup [(.var 5), (.var 6)]))]))]
/-- law: 0 _law_script, 1 _law_box, 2 _law_words_here, 3 _law_refused, 4 _law_handed, 5 _law_houses, 6 _law_tables, 7 _law_wide, 8 _law_many, 9 _law_turn, 10 _law_k, 11 _law_at, 12 _law_rows, 13 _law_holds, 14 _law_again, 15 _law_number, 16 _law_name, 17 _law_found, 18 _law_row -/
def c11 : List Ab.Stm := [(.asg (.name 1) (.call 6 [(.var 0)])), (.asg (.name 2) (.call 9 [(.var 1)])), (.asg (.name 3) (.comp false (.item (.var 2) (.call 7 [(.var 1), (.cst (.int 5))])) (.name 9) (.rng1 (.call 7 [(.var 1), (.cst (.int 3))])) none [9])), (.asg (.name 4) (.bi .list true [(.var 3)])), (.asg (.name 5) (.lst false [(.mk 0 [(.var 4)]), (.mk 0 [(.lst false [])])])), (.expr (.bm .append (.var 4) [(.item (.var 2) (.cst (.int 0)))])), (.expr (.bm .append (.var 4) [(.item (.var 2) (.cst (.int 2)))])), (.asg (.name 6) (.lst false [(.lst true [.dT, (.lst true []), (.var 3)]), (.lst true [.dT, (.lst true []), (.lst false [])])])), (.asg (.name 7) (.bi .int false [(.cmp .eq (.call 7 [(.var 1), (.cst (.int 6))]) (.cst (.int 1)))])), (.asg (.name 8) (.call 7 [(.var 1), (.item (.lst false [(.cst (.int 31)), (.cst (.int 121))]) (.var 7))])), (.forS (.name 9) (.rng1 (.var 8)) [(.asg (.name 11) (.bi .int false [(.cmp .eq (.call 7 [(.var 1), (.cst (.int 3))]) (.cst (.int 1)))])), (.ifS (.notE (.call 10 [(.var 1), (.var 2), (.item (.var 5) (.var 11)), (.item (.var 6) (.var 11)), (.var 7)])) [(.ret (.cst (.bl false)))] []), (.forS (.name 10) (.rng1 (.bin .mul false (.cst (.int 2)) (.bi .int false [(.orE (.cmp .eq (.var 7) (.cst (.int 0))) (.orE (.cmp .eq (.bin .mod false (.var 9) (.cst (.int 20))) (.cst (.int 19))) (.cmp .eq (.var 9) (.bin .sub false (.var 8) (.cst (.int 1))))))]))) [(.asg (.name 12) (.item (.item (.var 6) (.var 10)) (.cst (.int 1)))), (.asg (.name 13) (.comp false (.slice false (.var 18) (some (.cst (.int 1))) none) (.name 18) (.val (.var 12)) (some (.andE (.cmp .eq (.item (.var 18) (.cst (.int 0))) (.cst (.str [100, 111, 110, 101]))) (.cmp .notin (.bin .add false (.tup [(.cst (.str [98, 97, 99, 107, 101, 100]))]) (.slice false (.var 18) (some (.cst (.int 1))) none)) (.var 12)))) [18])), (.forS (.name 14) (.rng1 (.cst (.int 2))) [(.asg (.name 17) (.lst false [(.meth 3 (.item (.var 5) (.var 10)) []), (.meth 4 (.item (.var 5) (.var 10)) [])])), (.ifS (.notE (.call 8 [(.var 17), (.lst false [(.var 12), (.var 13)])])) [(.ret (.cst (.bl false)))] []), (.expr (.bm .append (.item (.var 17) (.cst (.int 0))) [(.tup [(.cst (.str [100, 111, 110, 101])), (.cst (.int 9)), (.cst (.str [122]))])])), (.expr (.bm .clear (.item (.var 17) (.cst (.int 1))) []))])])]), (.forS (.name 10) (.rng1 (.cst (.int 2))) [(.forK (.names [15, 16]) (.item (.item (.var 6) (.var 10)) (.cst (.int 0))) [(.ifS (.notE (.call 8 [(.methD 1 (.item (.var 5) (.var 10)) [(.var 15), (.var 16)]), (.item (.item (.item (.var 6) (.var 10)) (.cst (.int 0))) (.tup [(.var 15), (.var 16)]))])) [(.ret (.cst (.bl false)))] [])])]), (.ret (.cst (.bl true)))]
def tab : Ab.Tab where
  code := fun
    | 0 => some ⟨2, 2, c0⟩
    | 1 => some ⟨2, 2, c1⟩
    | 2 => some ⟨4, 5, c2⟩
    | 3 => some ⟨3, 4, c3⟩
    | 4 => some ⟨1, 1, c4⟩
    | 5 => some ⟨1, 2, c5⟩
    | 6 => some ⟨1, 3, c6⟩
    | 7 => some ⟨2, 3, c7⟩
    | 8 => some ⟨2, 3, c8⟩
    | 9 => some ⟨1, 14, c9⟩
    | 10 => some ⟨5, 12, c10⟩
    | 11 => some ⟨1, 19, c11⟩
    | _ => none
  init := fun
    | 0 => 0
    | _ => 0
  meth := fun
    | 0, 0 => some 1
    | 0, 1 => some 2
    | 0, 2 => some 3
    | 0, 3 => some 4
    | 0, 4 => some 5
    | _, _ => none
  gv := fun _ => []
end K10
end
section
set_option Elab.async false
set_option linter.all false
set_option autoImplicit false
set_option maxRecDepth 100000
set_option maxHeartbeats 1000000
/-! k10: the houses. -/
namespace K10
open Ab Lw
def done : Txt := [100, 111, 110, 101]
def failed : Txt := [102, 97, 105, 108, 101, 100]
def backed : Txt := [98, 97, 99, 107, 101, 100]
abbrev Row := Txt × Int × Txt
def rowV (r : Row) : Val := .tup [.str r.1, .int r.2.1, .str r.2.2]
def rowsV (rs : List Row) : List Val := rs.map rowV
def key (n : Int) (w : Txt) : AKey := [.inl n, .inr w]
/-- what stands in a table of first answers: texts by number and name -/
abbrev Tb := List (AKey × Val)
def TbOk (kvs : Tb) : Prop := (kvs.map (·.1)).Nodup ∧ ∀ p ∈ kvs, (∃ n w, p.1 = key n w) ∧ ∃ x, p.2 = .str x
theorem dget_mem {κ : Type} [DecidableEq κ] {kvs : List (κ × Val)} {k : κ} {v : Val} (h : dget kvs k = some v) : (k, v) ∈ kvs := by
  induction kvs with
  | nil => cases h
  | cons p r ih =>
    unfold dget at h
    split at h
    · rename_i e
      cases h
      rw [← e]
      exact List.mem_cons_self
    · exact List.mem_cons_of_mem _ (ih h)
theorem dget_none {κ : Type} [DecidableEq κ] {kvs : List (κ × Val)} {k : κ} (h : dget kvs k = none) : k ∉ kvs.map (·.1) := by
  induction kvs with
  | nil => simp
  | cons p r ih =>
    unfold dget at h
    split at h
    · cases h
    · rename_i e
      simp only [List.map_cons, List.mem_cons, not_or]
      exact ⟨fun z => e z.symm, ih h⟩
theorem dget_push {κ : Type} [DecidableEq κ] {kvs : List (κ × Val)} {k k' : κ} {v : Val} (h : dget kvs k = none) : dget (kvs ++ [(k, v)]) k' = if k = k' then some v else dget kvs k' := by
  induction kvs with
  | nil => simp [dget]
  | cons p r ih =>
    unfold dget at h
    split at h
    · cases h
    · rename_i e
      rw [List.cons_append]
      unfold dget
      split
      · rename_i e2
        rw [if_neg fun z => e (by rw [e2, z])]
      · exact ih h
theorem dput_same {κ : Type} [DecidableEq κ] {kvs : List (κ × Val)} {k : κ} {v : Val} (nd : (kvs.map (·.1)).Nodup) (h : dget kvs k = some v) : dput kvs k v = kvs := by
  unfold dput
  rw [h]
  have key : ∀ p ∈ kvs, (p.1, if p.1 = k then v else p.2) = p := by
    intro p hp
    split
    · rename_i e
      have hm := dget_mem h
      have : p.2 = v := by
        clear h
        induction kvs with
        | nil => cases hp
        | cons q r ih =>
          obtain ⟨n1, n2⟩ := List.nodup_cons.mp nd
          rcases List.mem_cons.mp hp with rfl | hp'
          · rcases List.mem_cons.mp hm with z | z
            · rw [← z]
            · exact absurd (List.mem_map.mpr ⟨_, z, e.symm⟩) n1
          · rcases List.mem_cons.mp hm with z | z
            · exact absurd (List.mem_map.mpr ⟨_, hp', by rw [e, ← z]⟩) n1
            · exact ih n2 hp' z
      rw [← this]
    · rfl
  show kvs.map _ = kvs
  rw [List.map_congr_left key, List.map_id']
theorem dput_new {κ : Type} [DecidableEq κ] {kvs : List (κ × Val)} {k : κ} {v : Val} (h : dget kvs k = none) : dput kvs k v = kvs ++ [(k, v)] := by
  unfold dput
  rw [h]
theorem TbOk.push {kvs : Tb} {n : Int} {w x : Txt} (h : TbOk kvs) (e : dget kvs (key n w) = none) : TbOk (kvs ++ [(key n w, .str x)]) := by
  refine ⟨?_, fun p hp => ?_⟩
  · rw [List.map_append, List.nodup_append]
    refine ⟨h.1, by simp, fun a ha b hb z => ?_⟩
    rw [List.mem_singleton.mp hb] at z
    exact dget_none e (show key n w ∈ _ from (show a = key n w from z) ▸ ha)
  · rcases List.mem_append.mp hp with z | z
    · exact h.2 p z
    · rw [List.mem_singleton.mp z]
      exact ⟨⟨n, w, rfl⟩, x, rfl⟩
/-- the rows as they resolve -/
theorem res_row (s : Sto) (n : Nat) (r : Row) : res s (n + 2) (rowV r) = some (rowV r) := rfl
theorem res_rows (s : Sto) (n : Nat) : ∀ rs : List Row, (rowsV rs).mapM (res s (n + 2)) = some (rowsV rs)
  | [] => rfl
  | r :: rs => by
    show (rowV r :: rowsV rs).mapM _ = _
    rw [List.mapM_cons, res_row, res_rows s n rs]
    rfl
def hasRow (rs : List Row) (r : Row) : Bool := (rowsV rs).any fun z => pyEq z (rowV r)
theorem in_rows {s : Sto} {l : Nat} {rs : List Row} (h : s[l]? = some (.list (rowsV rs))) (r : Row) : inV s (rowV r) (.loc l) = some (hasRow rs r) := by
  have e1 : res s DEEP (.loc l) = some (.lst (rowsV rs)) := by
    show (match s[l]? with | some (.list vs) => (vs.mapM (res s 11)).map Val.lst | _ => none) = _
    rw [h]
    show ((rowsV rs).mapM (res s 11)).map Val.lst = _
    rw [res_rows s 9]
    rfl
  have e2 : res s DEEP (rowV r) = some (rowV r) := rfl
  simp only [inV, h, e1, e2]
  rfl
theorem in_dict {s : Sto} {l : Nat} {kvs : Tb} {n : Int} {w : Txt} (h : s[l]? = some (.dT kvs)) : inV s (.tup [.int n, .str w]) (.loc l) = some (dget kvs (key n w)).isSome := by
  simp only [inV, h, dlook, keyOf, Option.map_some]
  rfl
/-- a house as it stands -/
structure HA (s : Sto) (h fi de : Nat) (rf : List Txt) (kvs : Tb) (rs : List Row) : Prop where
  i : s[h]? = some (.inst 0 [(0, .lst (rf.map .str)), (1, .loc fi), (2, .loc de)])
  f : s[fi]? = some (.dT kvs)
  d : s[de]? = some (.list (rowsV rs))
theorem HA.ne {s : Sto} {h fi de : Nat} {rf : List Txt} {kvs : Tb} {rs : List Row} (H : HA s h fi de rf kvs rs) : h ≠ fi ∧ h ≠ de ∧ fi ≠ de := by
  refine ⟨?_, ?_, ?_⟩
  · rintro rfl; have := H.i; rw [H.f] at this; cases this
  · rintro rfl; have := H.i; rw [H.d] at this; cases this
  · rintro rfl; have := H.f; rw [H.d] at this; cases this
theorem HA.frm {s s' : Sto} {h fi de : Nat} {rf : List Txt} {kvs : Tb} {rs : List Row} {L : List Nat} (H : HA s h fi de rf kvs rs) (f : Frm L s s') (h1 : h ∉ L) (h2 : fi ∉ L) (h3 : de ∉ L) : HA s' h fi de rf kvs rs := ⟨f.2 _ _ H.i h1, f.2 _ _ H.f h2, f.2 _ _ H.d h3⟩
/-- what do does -/
def doK (rf : List Txt) (kvs : Tb) (n : Int) (w : Txt) (sure : Bool) : Tb := match dget kvs (key n w) with
  | some _ => kvs
  | none => kvs ++ [(key n w, .str (if w ∈ rf ∧ sure = false then failed else done))]
def doR (rf : List Txt) (kvs : Tb) (rs : List Row) (n : Int) (w : Txt) (sure : Bool) : List Row := match dget kvs (key n w) with
  | some _ => rs
  | none => if w ∈ rf ∧ sure = false then rs else rs ++ [(done, n, w)]
/-- what back does -/
def bkK (kvs : Tb) (n : Int) (w : Txt) : Tb := match dget kvs (key n w) with
  | some _ => kvs
  | none => kvs ++ [(key n w, .str failed)]
def bkR (kvs : Tb) (rs : List Row) (n : Int) (w : Txt) : List Row := match dget kvs (key n w) with
  | some (.str x) => if x = done ∧ hasRow rs (backed, n, w) = false then rs ++ [(backed, n, w)] else rs
  | _ => rs
theorem str_in {s : Sto} {w : Txt} {rf : List Txt} : inV s (.str w) (.lst (rf.map .str)) = some (decide (w ∈ rf)) := by
  have e : ∀ rf : List Txt, (rf.map Val.str).mapM (res s 11) = some (rf.map Val.str) := fun rf => by
    induction rf with
    | nil => rfl
    | cons x xs ih =>
      rw [List.map_cons, List.mapM_cons, ih]
      rfl
  have e1 : res s DEEP (.lst (rf.map .str)) = some (.lst (rf.map .str)) := by
    show ((rf.map Val.str).mapM (res s 11)).map Val.lst = _
    rw [e]
    rfl
  have e2 : res s DEEP (.str w) = some (.str w) := rfl
  simp only [inV, e1, e2]
  congr 1
  induction rf with
  | nil => rfl
  | cons x xs ih =>
    simp only [List.map_cons, List.any_cons, pyEq]
    rw [ih (by
      show ((xs.map Val.str).mapM (res s 11)).map Val.lst = _
      rw [e]
      rfl)]
    by_cases c : x = w
    · subst c
      simp
    · have : (x == w) = false := by simpa using c
      rw [this]
      have c' : ¬ w = x := fun z => c z.symm
      simp [c']
section
variable {s : Sto} {k : Nat}
theorem do_ok {h fi de : Nat} {rf : List Txt} {kvs : Tb} {rs : List Row} {n : Int} {w : Txt} {sure : Bool} (H : HA s h fi de rf kvs rs) (hk : TbOk kvs) (l1 : kvs.length < 100000) (l2 : rs.length < 100000) :
    Wp (callN tab (k + 1) 2 [.loc h, .int n, .str w, .bl sure] s) fun v s' => HA s' h fi de rf (doK rf kvs n w sure) (doR rf kvs rs n w sure) ∧ dget (doK rf kvs n w sure) (key n w) = some v ∧ Frm [fi, de] s s' ∧ s'.length = s.length := by
  obtain ⟨n1, n2, n3⟩ := H.ne
  refine wp_run rfl rfl ?_
  refine w_asg ?_
  simp only [ev, evs, evo, evc, evi, wp_bnd, wp_ok, wp_pur, wp_lift, List.map_cons, List.map_nil, List.cons_append, List.nil_append, List.getElem?_cons_zero, List.getElem?_cons_succ, List.set_cons_zero, List.set_cons_succ, List.replicate_succ, List.replicate_zero, Nat.reduceSub, itemV, seqOf, lstOf, Option.bind_some, Option.bind_none, cmpV, binV, biV, bmV, bmTy, alloc, Option.map_some, Option.map_none, Bool.false_eq_true, if_false, if_true, Option.some.injEq, Prod.mk.injEq, Val.bl.injEq, Val.int.injEq, Val.loc.injEq, Val.str.injEq, Val.lst.injEq, Val.tup.injEq, exists_eq_left', exists_eq_left, exists_and_left, exists_and_right, and_assoc, true_and, and_true, Option.isSome_some, id_eq, Bool.not_true, Bool.not_false, optI, List.length_cons, List.length_nil, lim_le, lim_lt, Nat.zero_add, Nat.reduceAdd, Nat.reduceLeDiff, Nat.zero_le, Nat.reduceLT]
  have lk0 : ([(0, Val.lst (rf.map .str)), (1, .loc fi), (2, .loc de)] : List (Nat × Val)).lookup 1 = some (.loc fi) := rfl
  have lk1 : ([(0, Val.lst (rf.map .str)), (1, .loc fi), (2, .loc de)] : List (Nat × Val)).lookup 0 = some (.lst (rf.map .str)) := rfl
  have lk2 : ([(0, Val.lst (rf.map .str)), (1, .loc fi), (2, .loc de)] : List (Nat × Val)).lookup 2 = some (.loc de) := rfl
  refine w_if ?_
  simp only [ev, evs, evo, evc, evi, wp_bnd, wp_ok, wp_pur, wp_lift, List.map_cons, List.map_nil, List.cons_append, List.nil_append, List.getElem?_cons_zero, List.getElem?_cons_succ, List.set_cons_zero, List.set_cons_succ, List.replicate_succ, List.replicate_zero, Nat.reduceSub, itemV, seqOf, lstOf, Option.bind_some, Option.bind_none, cmpV, binV, biV, bmV, bmTy, alloc, Option.map_some, Option.map_none, Bool.false_eq_true, if_false, if_true, Option.some.injEq, Prod.mk.injEq, Val.bl.injEq, Val.int.injEq, Val.loc.injEq, Val.str.injEq, Val.lst.injEq, Val.tup.injEq, exists_eq_left', exists_eq_left, exists_and_left, exists_and_right, and_assoc, true_and, and_true, Option.isSome_some, id_eq, Bool.not_true, Bool.not_false, optI, List.length_cons, List.length_nil, lim_le, lim_lt, Nat.zero_add, Nat.reduceAdd, Nat.reduceLeDiff, Nat.zero_le, Nat.reduceLT, H.i, lk0, in_dict H.f]
  cases e : dget kvs (key n w) with
  | some v =>
    refine ⟨fun z => (by cases z), fun _ => w_ret ?_⟩
    have dl : dlook s (.loc fi) (.tup [.int n, .str w]) = some (some v) := by
      simp only [dlook, H.f, keyOf, Option.map_some]
      exact congrArg some e
    simp only [ev, evs, evo, evc, evi, wp_bnd, wp_ok, wp_pur, wp_lift, List.map_cons, List.map_nil, List.cons_append, List.nil_append, List.getElem?_cons_zero, List.getElem?_cons_succ, List.set_cons_zero, List.set_cons_succ, List.replicate_succ, List.replicate_zero, Nat.reduceSub, itemV, seqOf, lstOf, Option.bind_some, Option.bind_none, cmpV, binV, biV, bmV, bmTy, alloc, Option.map_some, Option.map_none, Bool.false_eq_true, if_false, if_true, Option.some.injEq, Prod.mk.injEq, Val.bl.injEq, Val.int.injEq, Val.loc.injEq, Val.str.injEq, Val.lst.injEq, Val.tup.injEq, exists_eq_left', exists_eq_left, exists_and_left, exists_and_right, and_assoc, true_and, and_true, Option.isSome_some, id_eq, Bool.not_true, Bool.not_false, optI, List.length_cons, List.length_nil, lim_le, lim_lt, Nat.zero_add, Nat.reduceAdd, Nat.reduceLeDiff, Nat.zero_le, Nat.reduceLT, H.i, lk0, H.f, dl]
    have g1 : doK rf kvs n w sure = kvs := by simp only [doK, e]
    have g2 : doR rf kvs rs n w sure = rs := by simp only [doR, e]
    rw [g1, g2]
    exact ⟨H, e, Frm.refl _ _⟩
  | none =>
    refine ⟨fun _ => ?_, fun z => (by cases z)⟩
    refine w_if ?_
    have test : Wp (ev { T := tab, call := callN tab k, init := callN tab (k - 1) } (.andE (.cmp .inn (.var 2) (.fld (.var 0) 0)) (.notE (.var 3))) [some (.loc h), some (.int n), some (.str w), some (.bl sure), some (.tup [.int n, .str w])] s) fun v s' => v = .bl (decide (w ∈ rf ∧ sure = false)) ∧ s' = s := by
      simp only [ev, evs, evo, evc, evi, wp_bnd, wp_ok, wp_pur, wp_lift, List.map_cons, List.map_nil, List.cons_append, List.nil_append, List.getElem?_cons_zero, List.getElem?_cons_succ, List.set_cons_zero, List.set_cons_succ, List.replicate_succ, List.replicate_zero, Nat.reduceSub, itemV, seqOf, lstOf, Option.bind_some, Option.bind_none, cmpV, binV, biV, bmV, bmTy, alloc, Option.map_some, Option.map_none, Bool.false_eq_true, if_false, if_true, Option.some.injEq, Prod.mk.injEq, Val.bl.injEq, Val.int.injEq, Val.loc.injEq, Val.str.injEq, Val.lst.injEq, Val.tup.injEq, exists_eq_left', exists_eq_left, exists_and_left, exists_and_right, and_assoc, true_and, and_true, Option.isSome_some, id_eq, Bool.not_true, Bool.not_false, optI, List.length_cons, List.length_nil, lim_le, lim_lt, Nat.zero_add, Nat.reduceAdd, Nat.reduceLeDiff, Nat.zero_le, Nat.reduceLT, H.i, lk1, str_in]
      by_cases c : w ∈ rf
      · simp only [c, decide_true, ev, evs, evo, evc, evi, wp_bnd, wp_ok, wp_pur, wp_lift, List.map_cons, List.map_nil, List.cons_append, List.nil_append, List.getElem?_cons_zero, List.getElem?_cons_succ, List.set_cons_zero, List.set_cons_succ, List.replicate_succ, List.replicate_zero, Nat.reduceSub, itemV, seqOf, lstOf, Option.bind_some, Option.bind_none, cmpV, binV, biV, bmV, bmTy, alloc, Option.map_some, Option.map_none, Bool.false_eq_true, if_false, if_true, Option.some.injEq, Prod.mk.injEq, Val.bl.injEq, Val.int.injEq, Val.loc.injEq, Val.str.injEq, Val.lst.injEq, Val.tup.injEq, exists_eq_left', exists_eq_left, exists_and_left, exists_and_right, and_assoc, true_and, and_true, Option.isSome_some, id_eq, Bool.not_true, Bool.not_false, optI, List.length_cons, List.length_nil, lim_le, lim_lt, Nat.zero_add, Nat.reduceAdd, Nat.reduceLeDiff, Nat.zero_le, Nat.reduceLT]
        cases sure <;> simp
      · simp only [c, decide_false, ev, evs, evo, evc, evi, wp_bnd, wp_ok, wp_pur, wp_lift, List.map_cons, List.map_nil, List.cons_append, List.nil_append, List.getElem?_cons_zero, List.getElem?_cons_succ, List.set_cons_zero, List.set_cons_succ, List.replicate_succ, List.replicate_zero, Nat.reduceSub, itemV, seqOf, lstOf, Option.bind_some, Option.bind_none, cmpV, binV, biV, bmV, bmTy, alloc, Option.map_some, Option.map_none, Bool.false_eq_true, if_false, if_true, Option.some.injEq, Prod.mk.injEq, Val.bl.injEq, Val.int.injEq, Val.loc.injEq, Val.str.injEq, Val.lst.injEq, Val.tup.injEq, exists_eq_left', exists_eq_left, exists_and_left, exists_and_right, and_assoc, true_and, and_true, Option.isSome_some, id_eq, Bool.not_true, Bool.not_false, optI, List.length_cons, List.length_nil, lim_le, lim_lt, Nat.zero_add, Nat.reduceAdd, Nat.reduceLeDiff, Nat.zero_le, Nat.reduceLT]
        simp
    refine test.imp ?_
    rintro v s' ⟨rfl, rfl⟩
    refine ⟨_, rfl, fun c => ?_, fun c => ?_⟩
    · have c := of_decide_eq_true c
      have g1 : doK rf kvs n w sure = kvs ++ [(key n w, .str failed)] := by simp only [doK, e, if_pos c]
      have g2 : doR rf kvs rs n w sure = rs := by simp only [doR, e, if_pos c]
      rw [g1, g2]
      refine w_asgI ?_
      simp only [ev, evs, evo, evc, evi, wp_bnd, wp_ok, wp_pur, wp_lift, List.map_cons, List.map_nil, List.cons_append, List.nil_append, List.getElem?_cons_zero, List.getElem?_cons_succ, List.set_cons_zero, List.set_cons_succ, List.replicate_succ, List.replicate_zero, Nat.reduceSub, itemV, seqOf, lstOf, Option.bind_some, Option.bind_none, cmpV, binV, biV, bmV, bmTy, alloc, Option.map_some, Option.map_none, Bool.false_eq_true, if_false, if_true, Option.some.injEq, Prod.mk.injEq, Val.bl.injEq, Val.int.injEq, Val.loc.injEq, Val.str.injEq, Val.lst.injEq, Val.tup.injEq, exists_eq_left', exists_eq_left, exists_and_left, exists_and_right, and_assoc, true_and, and_true, Option.isSome_some, id_eq, Bool.not_true, Bool.not_false, optI, List.length_cons, List.length_nil, lim_le, lim_lt, Nat.zero_add, Nat.reduceAdd, Nat.reduceLeDiff, Nat.zero_le, Nat.reduceLT, H.i, lk0]
      have sv : setV (.loc fi) (.tup [.int n, .str w]) (.str failed) s' = some (s'.set fi (.dT (kvs ++ [(key n w, .str failed)]))) := by
        simp only [setV, H.f, l1, lim_lt, if_true, keyOf, Option.map_some]
        rw [show dput kvs [Sum.inl n, Sum.inr w] (Val.str failed) = _ from dput_new e]
        rfl
      refine ⟨_, sv, ?_⟩
      have f1 : Frm [fi, de] s' (s'.set fi (.dT (kvs ++ [(key n w, .str failed)]))) := Frm.set.mono (by simp)
      have i1 := f1.2 _ _ H.i (by simp; exact ⟨n1, n2⟩)
      have i2 : (s'.set fi (.dT (kvs ++ [(key n w, .str failed)])))[fi]? = _ := at_set H.f
      have i3 : (s'.set fi (.dT (kvs ++ [(key n w, .str failed)])))[de]? = some (.list (rowsV rs)) := by rw [List.getElem?_set_ne n3]; exact H.d
      refine w_ret ?_
      have dg : dget (kvs ++ [(key n w, Val.str failed)]) (key n w) = some (.str failed) := by rw [dget_push e, if_pos rfl]
      have dl : dlook (s'.set fi (.dT (kvs ++ [(key n w, .str failed)]))) (.loc fi) (.tup [.int n, .str w]) = some (some (.str failed)) := by
        simp only [dlook, i2, keyOf, Option.map_some]
        exact congrArg some dg
      simp only [ev, evs, evo, evc, evi, wp_bnd, wp_ok, wp_pur, wp_lift, List.map_cons, List.map_nil, List.cons_append, List.nil_append, List.getElem?_cons_zero, List.getElem?_cons_succ, List.set_cons_zero, List.set_cons_succ, List.replicate_succ, List.replicate_zero, Nat.reduceSub, itemV, seqOf, lstOf, Option.bind_some, Option.bind_none, cmpV, binV, biV, bmV, bmTy, alloc, Option.map_some, Option.map_none, Bool.false_eq_true, if_false, if_true, Option.some.injEq, Prod.mk.injEq, Val.bl.injEq, Val.int.injEq, Val.loc.injEq, Val.str.injEq, Val.lst.injEq, Val.tup.injEq, exists_eq_left', exists_eq_left, exists_and_left, exists_and_right, and_assoc, true_and, and_true, Option.isSome_some, id_eq, Bool.not_true, Bool.not_false, optI, List.length_cons, List.length_nil, lim_le, lim_lt, Nat.zero_add, Nat.reduceAdd, Nat.reduceLeDiff, Nat.zero_le, Nat.reduceLT, i1, lk0, i2, dl]
      exact ⟨⟨i1, i2, i3⟩, dg, f1, by simp⟩
    · have c := of_decide_eq_false c
      have g1 : doK rf kvs n w sure = kvs ++ [(key n w, .str done)] := by simp only [doK, e, if_neg c]
      have g2 : doR rf kvs rs n w sure = rs ++ [(done, n, w)] := by simp only [doR, e, if_neg c]
      rw [g1, g2]
      refine w_asgI ?_
      simp only [ev, evs, evo, evc, evi, wp_bnd, wp_ok, wp_pur, wp_lift, List.map_cons, List.map_nil, List.cons_append, List.nil_append, List.getElem?_cons_zero, List.getElem?_cons_succ, List.set_cons_zero, List.set_cons_succ, List.replicate_succ, List.replicate_zero, Nat.reduceSub, itemV, seqOf, lstOf, Option.bind_some, Option.bind_none, cmpV, binV, biV, bmV, bmTy, alloc, Option.map_some, Option.map_none, Bool.false_eq_true, if_false, if_true, Option.some.injEq, Prod.mk.injEq, Val.bl.injEq, Val.int.injEq, Val.loc.injEq, Val.str.injEq, Val.lst.injEq, Val.tup.injEq, exists_eq_left', exists_eq_left, exists_and_left, exists_and_right, and_assoc, true_and, and_true, Option.isSome_some, id_eq, Bool.not_true, Bool.not_false, optI, List.length_cons, List.length_nil, lim_le, lim_lt, Nat.zero_add, Nat.reduceAdd, Nat.reduceLeDiff, Nat.zero_le, Nat.reduceLT, H.i, lk0]
      have sv : setV (.loc fi) (.tup [.int n, .str w]) (.str done) s' = some (s'.set fi (.dT (kvs ++ [(key n w, .str done)]))) := by
        simp only [setV, H.f, l1, lim_lt, if_true, keyOf, Option.map_some]
        rw [show dput kvs [Sum.inl n, Sum.inr w] (Val.str done) = _ from dput_new e]
        rfl
      refine ⟨_, sv, ?_⟩
      have f1 : Frm [fi, de] s' (s'.set fi (.dT (kvs ++ [(key n w, .str done)]))) := Frm.set.mono (by simp)
      have i1 := f1.2 _ _ H.i (by simp; exact ⟨n1, n2⟩)
      have i2 : (s'.set fi (.dT (kvs ++ [(key n w, .str done)])))[fi]? = _ := at_set H.f
      have i3 : (s'.set fi (.dT (kvs ++ [(key n w, .str done)])))[de]? = some (.list (rowsV rs)) := by rw [List.getElem?_set_ne n3]; exact H.d
      generalize hs1 : s'.set fi (.dT (kvs ++ [(key n w, .str done)])) = s1 at f1 i1 i2 i3
      have hl : s1.length = s'.length := by rw [← hs1]; simp
      refine w_expr ?_
      have lr : (rowsV rs).length < 100000 := by simp [rowsV]; exact l2
      simp only [ev, evs, evo, evc, evi, wp_bnd, wp_ok, wp_pur, wp_lift, List.map_cons, List.map_nil, List.cons_append, List.nil_append, List.getElem?_cons_zero, List.getElem?_cons_succ, List.set_cons_zero, List.set_cons_succ, List.replicate_succ, List.replicate_zero, Nat.reduceSub, itemV, seqOf, lstOf, Option.bind_some, Option.bind_none, cmpV, binV, biV, bmV, bmTy, alloc, Option.map_some, Option.map_none, Bool.false_eq_true, if_false, if_true, Option.some.injEq, Prod.mk.injEq, Val.bl.injEq, Val.int.injEq, Val.loc.injEq, Val.str.injEq, Val.lst.injEq, Val.tup.injEq, exists_eq_left', exists_eq_left, exists_and_left, exists_and_right, and_assoc, true_and, and_true, Option.isSome_some, id_eq, Bool.not_true, Bool.not_false, optI, List.length_cons, List.length_nil, lim_le, lim_lt, Nat.zero_add, Nat.reduceAdd, Nat.reduceLeDiff, Nat.zero_le, Nat.reduceLT, i1, lk2, i3, lr]
      have f2 : Frm [fi, de] s1 (s1.set de (.list (rowsV rs ++ [.tup [.str done, .int n, .str w]]))) := Frm.set.mono (by simp)
      have j1 := f2.2 _ _ i1 (by simp; exact ⟨n1, n2⟩)
      have j2 : (s1.set de (.list (rowsV rs ++ [.tup [.str done, .int n, .str w]])))[fi]? = some (.dT (kvs ++ [(key n w, .str done)])) := by rw [List.getElem?_set_ne n3.symm]; exact i2
      have j3 : (s1.set de (.list (rowsV rs ++ [.tup [.str done, .int n, .str w]])))[de]? = _ := at_set i3
      refine w_ret ?_
      have dg : dget (kvs ++ [(key n w, Val.str done)]) (key n w) = some (.str done) := by rw [dget_push e, if_pos rfl]
      have dl : dlook (s1.set de (.list (rowsV rs ++ [.tup [.str done, .int n, .str w]]))) (.loc fi) (.tup [.int n, .str w]) = some (some (.str done)) := by
        simp only [dlook, j2, keyOf, Option.map_some]
        exact congrArg some dg
      show Wp (ev _ (.item (.fld (.var 0) 1) (.var 4)) [some (.loc h), some (.int n), some (.str w), some (.bl sure), some (.tup [.int n, .str w])] (s1.set de (.list (rowsV rs ++ [.tup [.str done, .int n, .str w]])))) _
      simp only [ev, evs, evo, evc, evi, wp_bnd, wp_ok, wp_pur, wp_lift, List.map_cons, List.map_nil, List.cons_append, List.nil_append, List.getElem?_cons_zero, List.getElem?_cons_succ, List.set_cons_zero, List.set_cons_succ, List.replicate_succ, List.replicate_zero, Nat.reduceSub, itemV, seqOf, lstOf, Option.bind_some, Option.bind_none, cmpV, binV, biV, bmV, bmTy, alloc, Option.map_some, Option.map_none, Bool.false_eq_true, if_false, if_true, Option.some.injEq, Prod.mk.injEq, Val.bl.injEq, Val.int.injEq, Val.loc.injEq, Val.str.injEq, Val.lst.injEq, Val.tup.injEq, exists_eq_left', exists_eq_left, exists_and_left, exists_and_right, and_assoc, true_and, and_true, Option.isSome_some, id_eq, Bool.not_true, Bool.not_false, optI, List.length_cons, List.length_nil, lim_le, lim_lt, Nat.zero_add, Nat.reduceAdd, Nat.reduceLeDiff, Nat.zero_le, Nat.reduceLT, j1, lk0, j2, dl]
      exact ⟨⟨j1, j2, by rw [j3]; simp [rowsV, rowV]⟩, dg, f1.trans f2, by simp [hl]⟩
theorem lkF {rf : List Txt} {fi de : Nat} : ([(0, Val.lst (rf.map .str)), (1, .loc fi), (2, .loc de)] : List (Nat × Val)).lookup 1 = some (.loc fi) := rfl
theorem lkR {rf : List Txt} {fi de : Nat} : ([(0, Val.lst (rf.map .str)), (1, .loc fi), (2, .loc de)] : List (Nat × Val)).lookup 0 = some (.lst (rf.map .str)) := rfl
theorem lkD {rf : List Txt} {fi de : Nat} : ([(0, Val.lst (rf.map .str)), (1, .loc fi), (2, .loc de)] : List (Nat × Val)).lookup 2 = some (.loc de) := rfl
theorem eq_strs {s : Sto} {x y : Txt} : eqV s (.str x) (.str y) = some (decide (x = y)) := by
  have : eqV s (.str x) (.str y) = some (x == y) := rfl
  rw [this]
  by_cases c : x = y <;> simp [c]
theorem back_ok {h fi de : Nat} {rf : List Txt} {kvs : Tb} {rs : List Row} {n : Int} {w : Txt} (H : HA s h fi de rf kvs rs) (hk : TbOk kvs) (l1 : kvs.length < 100000) (l2 : rs.length < 100000) :
    Wp (callN tab (k + 1) 3 [.loc h, .int n, .str w] s) fun v s' => HA s' h fi de rf (bkK kvs n w) (bkR kvs rs n w) ∧ v = .str backed ∧ Frm [fi, de] s s' ∧ s'.length = s.length := by
  obtain ⟨n1, n2, n3⟩ := H.ne
  refine wp_run rfl rfl ?_
  refine w_asg ?_
  simp only [ev, evs, evo, evc, evi, wp_bnd, wp_ok, wp_pur, wp_lift, List.map_cons, List.map_nil, List.cons_append, List.nil_append, List.getElem?_cons_zero, List.getElem?_cons_succ, List.set_cons_zero, List.set_cons_succ, List.replicate_succ, List.replicate_zero, Nat.reduceSub, itemV, seqOf, lstOf, Option.bind_some, Option.bind_none, cmpV, binV, biV, bmV, bmTy, alloc, Option.map_some, Option.map_none, Bool.false_eq_true, if_false, if_true, Option.some.injEq, Prod.mk.injEq, Val.bl.injEq, Val.int.injEq, Val.loc.injEq, Val.str.injEq, Val.lst.injEq, Val.tup.injEq, exists_eq_left', exists_eq_left, exists_and_left, exists_and_right, and_assoc, true_and, and_true, Option.isSome_some, id_eq, Bool.not_true, Bool.not_false, optI, List.length_cons, List.length_nil, lim_le, lim_lt, Nat.zero_add, Nat.reduceAdd, Nat.reduceLeDiff, Nat.zero_le, Nat.reduceLT]
  refine w_if ?_
  simp only [ev, evs, evo, evc, evi, wp_bnd, wp_ok, wp_pur, wp_lift, List.map_cons, List.map_nil, List.cons_append, List.nil_append, List.getElem?_cons_zero, List.getElem?_cons_succ, List.set_cons_zero, List.set_cons_succ, List.replicate_succ, List.replicate_zero, Nat.reduceSub, itemV, seqOf, lstOf, Option.bind_some, Option.bind_none, cmpV, binV, biV, bmV, bmTy, alloc, Option.map_some, Option.map_none, Bool.false_eq_true, if_false, if_true, Option.some.injEq, Prod.mk.injEq, Val.bl.injEq, Val.int.injEq, Val.loc.injEq, Val.str.injEq, Val.lst.injEq, Val.tup.injEq, exists_eq_left', exists_eq_left, exists_and_left, exists_and_right, and_assoc, true_and, and_true, Option.isSome_some, id_eq, Bool.not_true, Bool.not_false, optI, List.length_cons, List.length_nil, lim_le, lim_lt, Nat.zero_add, Nat.reduceAdd, Nat.reduceLeDiff, Nat.zero_le, Nat.reduceLT, H.i, lkF, in_dict H.f]
  cases e : dget kvs (key n w) with
  | none =>
    refine ⟨fun _ => ?_, fun z => (by cases z)⟩
    have g1 : bkK kvs n w = kvs ++ [(key n w, .str failed)] := by simp only [bkK, e]
    have g2 : bkR kvs rs n w = rs := by simp only [bkR, e]
    rw [g1, g2]
    refine w_asgI ?_
    simp only [ev, evs, evo, evc, evi, wp_bnd, wp_ok, wp_pur, wp_lift, List.map_cons, List.map_nil, List.cons_append, List.nil_append, List.getElem?_cons_zero, List.getElem?_cons_succ, List.set_cons_zero, List.set_cons_succ, List.replicate_succ, List.replicate_zero, Nat.reduceSub, itemV, seqOf, lstOf, Option.bind_some, Option.bind_none, cmpV, binV, biV, bmV, bmTy, alloc, Option.map_some, Option.map_none, Bool.false_eq_true, if_false, if_true, Option.some.injEq, Prod.mk.injEq, Val.bl.injEq, Val.int.injEq, Val.loc.injEq, Val.str.injEq, Val.lst.injEq, Val.tup.injEq, exists_eq_left', exists_eq_left, exists_and_left, exists_and_right, and_assoc, true_and, and_true, Option.isSome_some, id_eq, Bool.not_true, Bool.not_false, optI, List.length_cons, List.length_nil, lim_le, lim_lt, Nat.zero_add, Nat.reduceAdd, Nat.reduceLeDiff, Nat.zero_le, Nat.reduceLT, H.i, lkF]
    have sv : setV (.loc fi) (.tup [.int n, .str w]) (.str failed) s = some (s.set fi (.dT (kvs ++ [(key n w, .str failed)]))) := by
      simp only [setV, H.f, l1, lim_lt, if_true, keyOf, Option.map_some]
      rw [show dput kvs [Sum.inl n, Sum.inr w] (Val.str failed) = _ from dput_new e]
      rfl
    refine ⟨_, sv, ?_⟩
    have f1 : Frm [fi, de] s (s.set fi (.dT (kvs ++ [(key n w, .str failed)]))) := Frm.set.mono (by simp)
    have i1 := f1.2 _ _ H.i (by simp; exact ⟨n1, n2⟩)
    have i3 : (s.set fi (.dT (kvs ++ [(key n w, .str failed)])))[de]? = some (.list (rowsV rs)) := by rw [List.getElem?_set_ne n3]; exact H.d
    refine w_ret ?_
    simp only [ev, evs, evo, evc, evi, wp_bnd, wp_ok, wp_pur, wp_lift, List.map_cons, List.map_nil, List.cons_append, List.nil_append, List.getElem?_cons_zero, List.getElem?_cons_succ, List.set_cons_zero, List.set_cons_succ, List.replicate_succ, List.replicate_zero, Nat.reduceSub, itemV, seqOf, lstOf, Option.bind_some, Option.bind_none, cmpV, binV, biV, bmV, bmTy, alloc, Option.map_some, Option.map_none, Bool.false_eq_true, if_false, if_true, Option.some.injEq, Prod.mk.injEq, Val.bl.injEq, Val.int.injEq, Val.loc.injEq, Val.str.injEq, Val.lst.injEq, Val.tup.injEq, exists_eq_left', exists_eq_left, exists_and_left, exists_and_right, and_assoc, true_and, and_true, Option.isSome_some, id_eq, Bool.not_true, Bool.not_false, optI, List.length_cons, List.length_nil, lim_le, lim_lt, Nat.zero_add, Nat.reduceAdd, Nat.reduceLeDiff, Nat.zero_le, Nat.reduceLT]
    exact ⟨⟨i1, at_set H.f, i3⟩, rfl, f1, by simp⟩
  | some v =>
    refine ⟨fun z => (by cases z), fun _ => ?_⟩
    obtain ⟨x, rfl⟩ := (hk.2 _ (dget_mem e)).2
    have g1 : bkK kvs n w = kvs := by simp only [bkK, e]
    rw [g1]
    have dl : dlook s (.loc fi) (.tup [.int n, .str w]) = some (some (.str x)) := by
      simp only [dlook, H.f, keyOf, Option.map_some]
      exact congrArg some e
    have test : Wp (ev { T := tab, call := callN tab k, init := callN tab (k - 1) } (.andE (.cmp .eq (.item (.fld (.var 0) 1) (.var 3)) (.cst (.str [100, 111, 110, 101]))) (.cmp .notin (.tup [(.cst (.str [98, 97, 99, 107, 101, 100])), (.var 1), (.var 2)]) (.fld (.var 0) 2))) [some (.loc h), some (.int n), some (.str w), some (.tup [.int n, .str w])] s) fun v s' => v = .bl (decide (x = done ∧ hasRow rs (backed, n, w) = false)) ∧ s' = s := by
      have hr : inV s (.tup [.str backed, .int n, .str w]) (.loc de) = some (hasRow rs (backed, n, w)) := in_rows H.d (backed, n, w)
      unfold backed at hr
      simp only [ev, evs, evo, evc, evi, wp_bnd, wp_ok, wp_pur, wp_lift, List.map_cons, List.map_nil, List.cons_append, List.nil_append, List.getElem?_cons_zero, List.getElem?_cons_succ, List.set_cons_zero, List.set_cons_succ, List.replicate_succ, List.replicate_zero, Nat.reduceSub, itemV, seqOf, lstOf, Option.bind_some, Option.bind_none, cmpV, binV, biV, bmV, bmTy, alloc, Option.map_some, Option.map_none, Bool.false_eq_true, if_false, if_true, Option.some.injEq, Prod.mk.injEq, Val.bl.injEq, Val.int.injEq, Val.loc.injEq, Val.str.injEq, Val.lst.injEq, Val.tup.injEq, exists_eq_left', exists_eq_left, exists_and_left, exists_and_right, and_assoc, true_and, and_true, Option.isSome_some, id_eq, Bool.not_true, Bool.not_false, optI, List.length_cons, List.length_nil, lim_le, lim_lt, Nat.zero_add, Nat.reduceAdd, Nat.reduceLeDiff, Nat.zero_le, Nat.reduceLT, H.i, lkF, H.f, dl, eq_strs]
      by_cases c : x = done
      · have c' : decide (x = [100, 111, 110, 101]) = true := decide_eq_true c
        simp only [c', ev, evs, evo, evc, evi, wp_bnd, wp_ok, wp_pur, wp_lift, List.map_cons, List.map_nil, List.cons_append, List.nil_append, List.getElem?_cons_zero, List.getElem?_cons_succ, List.set_cons_zero, List.set_cons_succ, List.replicate_succ, List.replicate_zero, Nat.reduceSub, itemV, seqOf, lstOf, Option.bind_some, Option.bind_none, cmpV, binV, biV, bmV, bmTy, alloc, Option.map_some, Option.map_none, Bool.false_eq_true, if_false, if_true, Option.some.injEq, Prod.mk.injEq, Val.bl.injEq, Val.int.injEq, Val.loc.injEq, Val.str.injEq, Val.lst.injEq, Val.tup.injEq, exists_eq_left', exists_eq_left, exists_and_left, exists_and_right, and_assoc, true_and, and_true, Option.isSome_some, id_eq, Bool.not_true, Bool.not_false, optI, List.length_cons, List.length_nil, lim_le, lim_lt, Nat.zero_add, Nat.reduceAdd, Nat.reduceLeDiff, Nat.zero_le, Nat.reduceLT, H.i, lkD, hr]
        unfold backed
        cases hasRow rs ([98, 97, 99, 107, 101, 100], n, w) <;> simp [c]
      · have c' : decide (x = [100, 111, 110, 101]) = false := decide_eq_false c
        simp only [c', ev, evs, evo, evc, evi, wp_bnd, wp_ok, wp_pur, wp_lift, List.map_cons, List.map_nil, List.cons_append, List.nil_append, List.getElem?_cons_zero, List.getElem?_cons_succ, List.set_cons_zero, List.set_cons_succ, List.replicate_succ, List.replicate_zero, Nat.reduceSub, itemV, seqOf, lstOf, Option.bind_some, Option.bind_none, cmpV, binV, biV, bmV, bmTy, alloc, Option.map_some, Option.map_none, Bool.false_eq_true, if_false, if_true, Option.some.injEq, Prod.mk.injEq, Val.bl.injEq, Val.int.injEq, Val.loc.injEq, Val.str.injEq, Val.lst.injEq, Val.tup.injEq, exists_eq_left', exists_eq_left, exists_and_left, exists_and_right, and_assoc, true_and, and_true, Option.isSome_some, id_eq, Bool.not_true, Bool.not_false, optI, List.length_cons, List.length_nil, lim_le, lim_lt, Nat.zero_add, Nat.reduceAdd, Nat.reduceLeDiff, Nat.zero_le, Nat.reduceLT]
        simp [c]
    refine w_if (test.imp ?_)
    rintro v s' ⟨rfl, rfl⟩
    refine ⟨_, rfl, fun c => ?_, fun c => ?_⟩
    · have c := of_decide_eq_true c
      have g2 : bkR kvs rs n w = rs ++ [(backed, n, w)] := by simp only [bkR, e, if_pos c]
      rw [g2]
      have lr : (rowsV rs).length < 100000 := by simp [rowsV]; exact l2
      refine w_expr ?_
      simp only [ev, evs, evo, evc, evi, wp_bnd, wp_ok, wp_pur, wp_lift, List.map_cons, List.map_nil, List.cons_append, List.nil_append, List.getElem?_cons_zero, List.getElem?_cons_succ, List.set_cons_zero, List.set_cons_succ, List.replicate_succ, List.replicate_zero, Nat.reduceSub, itemV, seqOf, lstOf, Option.bind_some, Option.bind_none, cmpV, binV, biV, bmV, bmTy, alloc, Option.map_some, Option.map_none, Bool.false_eq_true, if_false, if_true, Option.some.injEq, Prod.mk.injEq, Val.bl.injEq, Val.int.injEq, Val.loc.injEq, Val.str.injEq, Val.lst.injEq, Val.tup.injEq, exists_eq_left', exists_eq_left, exists_and_left, exists_and_right, and_assoc, true_and, and_true, Option.isSome_some, id_eq, Bool.not_true, Bool.not_false, optI, List.length_cons, List.length_nil, lim_le, lim_lt, Nat.zero_add, Nat.reduceAdd, Nat.reduceLeDiff, Nat.zero_le, Nat.reduceLT, H.i, lkD, H.d, lr]
      have f2 : Frm [fi, de] s' (s'.set de (.list (rowsV rs ++ [.tup [.str backed, .int n, .str w]]))) := Frm.set.mono (by simp)
      have j1 := f2.2 _ _ H.i (by simp; exact ⟨n1, n2⟩)
      have j2 : (s'.set de (.list (rowsV rs ++ [.tup [.str backed, .int n, .str w]])))[fi]? = some (.dT kvs) := by rw [List.getElem?_set_ne n3.symm]; exact H.f
      have j3 : (s'.set de (.list (rowsV rs ++ [.tup [.str backed, .int n, .str w]])))[de]? = _ := at_set H.d
      refine w_ret ?_
      simp only [ev, evs, evo, evc, evi, wp_bnd, wp_ok, wp_pur, wp_lift, List.map_cons, List.map_nil, List.cons_append, List.nil_append, List.getElem?_cons_zero, List.getElem?_cons_succ, List.set_cons_zero, List.set_cons_succ, List.replicate_succ, List.replicate_zero, Nat.reduceSub, itemV, seqOf, lstOf, Option.bind_some, Option.bind_none, cmpV, binV, biV, bmV, bmTy, alloc, Option.map_some, Option.map_none, Bool.false_eq_true, if_false, if_true, Option.some.injEq, Prod.mk.injEq, Val.bl.injEq, Val.int.injEq, Val.loc.injEq, Val.str.injEq, Val.lst.injEq, Val.tup.injEq, exists_eq_left', exists_eq_left, exists_and_left, exists_and_right, and_assoc, true_and, and_true, Option.isSome_some, id_eq, Bool.not_true, Bool.not_false, optI, List.length_cons, List.length_nil, lim_le, lim_lt, Nat.zero_add, Nat.reduceAdd, Nat.reduceLeDiff, Nat.zero_le, Nat.reduceLT]
      exact ⟨⟨j1, j2, by rw [show [98, 97, 99, 107, 101, 100] = backed from rfl, j3]; simp [rowsV, rowV]⟩, rfl, f2, by simp⟩
    · have c := of_decide_eq_false c
      have g2 : bkR kvs rs n w = rs := by simp only [bkR, e, if_neg c]
      rw [g2]
      refine w_ret ?_
      simp only [ev, evs, evo, evc, evi, wp_bnd, wp_ok, wp_pur, wp_lift, List.map_cons, List.map_nil, List.cons_append, List.nil_append, List.getElem?_cons_zero, List.getElem?_cons_succ, List.set_cons_zero, List.set_cons_succ, List.replicate_succ, List.replicate_zero, Nat.reduceSub, itemV, seqOf, lstOf, Option.bind_some, Option.bind_none, cmpV, binV, biV, bmV, bmTy, alloc, Option.map_some, Option.map_none, Bool.false_eq_true, if_false, if_true, Option.some.injEq, Prod.mk.injEq, Val.bl.injEq, Val.int.injEq, Val.loc.injEq, Val.str.injEq, Val.lst.injEq, Val.tup.injEq, exists_eq_left', exists_eq_left, exists_and_left, exists_and_right, and_assoc, true_and, and_true, Option.isSome_some, id_eq, Bool.not_true, Bool.not_false, optI, List.length_cons, List.length_nil, lim_le, lim_lt, Nat.zero_add, Nat.reduceAdd, Nat.reduceLeDiff, Nat.zero_le, Nat.reduceLT]
      exact ⟨H, rfl, Frm.refl _ _⟩
theorem story_ok {h fi de : Nat} {rf : List Txt} {kvs : Tb} {rs : List Row} (H : HA s h fi de rf kvs rs) :
    Wp (callN tab (k + 1) 4 [.loc h] s) fun v s' => v = .loc s.length ∧ s' = s ++ [.list (rowsV rs)] := by
  refine wp_run rfl rfl ?_
  refine w_ret ?_
  simp only [ev, evs, evo, evc, evi, wp_bnd, wp_ok, wp_pur, wp_lift, List.map_cons, List.map_nil, List.cons_append, List.nil_append, List.getElem?_cons_zero, List.getElem?_cons_succ, List.set_cons_zero, List.set_cons_succ, List.replicate_succ, List.replicate_zero, Nat.reduceSub, itemV, seqOf, lstOf, Option.bind_some, Option.bind_none, cmpV, binV, biV, bmV, bmTy, alloc, Option.map_some, Option.map_none, Bool.false_eq_true, if_false, if_true, Option.some.injEq, Prod.mk.injEq, Val.bl.injEq, Val.int.injEq, Val.loc.injEq, Val.str.injEq, Val.lst.injEq, Val.tup.injEq, exists_eq_left', exists_eq_left, exists_and_left, exists_and_right, and_assoc, true_and, and_true, Option.isSome_some, id_eq, Bool.not_true, Bool.not_false, optI, List.length_cons, List.length_nil, lim_le, lim_lt, Nat.zero_add, Nat.reduceAdd, Nat.reduceLeDiff, Nat.zero_le, Nat.reduceLT, H.i, lkD, H.d]
/-- what was done and not taken back -/
def holdsV (rs : List Row) : List Val := (rs.filter fun r => decide (r.1 = done) && !hasRow rs (backed, r.2)).map fun r => .tup [.int r.2.1, .str r.2.2]
def holdsV' (rs xs : List Row) : List Val := (xs.filter fun r => decide (r.1 = done) && !hasRow rs (backed, r.2)).map fun r => .tup [.int r.2.1, .str r.2.2]
theorem refuse_ok {h fi de l : Nat} {rf rf' : List Txt} {kvs : Tb} {rs : List Row} (H : HA s h fi de rf kvs rs) (hl : s[l]? = some (.list (rf'.map .str))) :
    Wp (callN tab (k + 1) 1 [.loc h, .loc l] s) fun v s' => v = .non ∧ HA s' h fi de rf' kvs rs ∧ Frm [h] s s' ∧ s'.length = s.length := by
  obtain ⟨n1, n2, n3⟩ := H.ne
  refine wp_run rfl rfl ?_
  refine w_asgF ?_
  simp only [ev, evs, evo, evc, evi, wp_bnd, wp_ok, wp_pur, wp_lift, List.map_cons, List.map_nil, List.cons_append, List.nil_append, List.getElem?_cons_zero, List.getElem?_cons_succ, List.set_cons_zero, List.set_cons_succ, List.replicate_succ, List.replicate_zero, Nat.reduceSub, itemV, seqOf, lstOf, Option.bind_some, Option.bind_none, cmpV, binV, biV, bmV, bmTy, alloc, Option.map_some, Option.map_none, Bool.false_eq_true, if_false, if_true, Option.some.injEq, Prod.mk.injEq, Val.bl.injEq, Val.int.injEq, Val.loc.injEq, Val.str.injEq, Val.lst.injEq, Val.tup.injEq, exists_eq_left', exists_eq_left, exists_and_left, exists_and_right, and_assoc, true_and, and_true, Option.isSome_some, id_eq, Bool.not_true, Bool.not_false, optI, List.length_cons, List.length_nil, lim_le, lim_lt, Nat.zero_add, Nat.reduceAdd, Nat.reduceLeDiff, Nat.zero_le, Nat.reduceLT, hl, H.i]
  refine ⟨_, _, rfl, by simp, w_nil ⟨⟨at_set H.i, ?_, ?_⟩, Frm.set, by simp⟩⟩
  · rw [List.getElem?_set_ne n1]; exact H.f
  · rw [List.getElem?_set_ne n2]; exact H.d
theorem bi_list {x : Val} {vs : List Val} {m : Bool} (hx : lstOf s x = some vs) : biV .list m [x] s = some (alloc m vs s) := by
  cases x with
  | lst ws =>
    cases hx
    rfl
  | loc l =>
    show (seqOf s (.loc l)).map _ = _
    rw [show seqOf s (.loc l) = lstOf s (.loc l) from rfl, hx]
    rfl
  | _ => cases hx
/-- a house is made -/
theorem init_ok {x : Val} {rf : List Txt} {h : Nat} (hx : lstOf s x = some (rf.map .str)) (hh : s[h]? = some (.inst 0 [])) :
    Wp (callN tab (k + 1) 0 [.loc h, x] s) fun v s' => v = .non ∧ HA s' h s.length (s.length + 1) rf [] [] ∧ Frm [h] s s' ∧ s'.length = s.length + 2 := by
  have hl := (List.getElem?_eq_some_iff.mp hh).1
  refine wp_run rfl rfl ?_
  refine w_asgF ⟨.lst (rf.map .str), s, ?_, ?_⟩
  · simp only [ev, evs, List.map_cons, List.map_nil, List.cons_append, List.getElem?_cons_succ, List.getElem?_cons_zero, bnd, ok, bi_list hx, lift, alloc, Bool.false_eq_true, if_false]
  simp only [ev, evs, evo, evc, evi, wp_bnd, wp_ok, wp_pur, wp_lift, List.map_cons, List.map_nil, List.cons_append, List.nil_append, List.getElem?_cons_zero, List.getElem?_cons_succ, List.set_cons_zero, List.set_cons_succ, List.replicate_succ, List.replicate_zero, Nat.reduceSub, itemV, seqOf, lstOf, Option.bind_some, Option.bind_none, cmpV, binV, biV, bmV, bmTy, alloc, Option.map_some, Option.map_none, Bool.false_eq_true, if_false, if_true, Option.some.injEq, Prod.mk.injEq, Val.bl.injEq, Val.int.injEq, Val.loc.injEq, Val.str.injEq, Val.lst.injEq, Val.tup.injEq, exists_eq_left', exists_eq_left, exists_and_left, exists_and_right, and_assoc, true_and, and_true, Option.isSome_some, id_eq, Bool.not_true, Bool.not_false, optI, List.length_cons, List.length_nil, lim_le, lim_lt, Nat.zero_add, Nat.reduceAdd, Nat.reduceLeDiff, Nat.zero_le, Nat.reduceLT, hh]
  refine ⟨_, _, rfl, by simp, ?_⟩
  refine w_asgF ?_
  have e1 : (s.set h (.inst 0 (putF 0 (.lst (rf.map .str)) [])) ++ [SO.dT []])[h]? = some (.inst 0 [(0, Val.lst (rf.map .str))]) := by
    rw [List.getElem?_append_left (by simp; exact hl)]
    exact at_set hh
  have f1 : Frm [h] s (s.set h (.inst 0 (putF 0 (.lst (rf.map .str)) [])) ++ [SO.dT []]) := Frm.set.trans (Frm.push.mono (by simp))
  have l1 : (s.set h (.inst 0 (putF 0 (.lst (rf.map .str)) []))).length = s.length := by simp
  have d1 : (s.set h (.inst 0 (putF 0 (.lst (rf.map .str)) [])) ++ [SO.dT []])[s.length]? = some (.dT []) := by rw [← l1]; exact at_push
  have l2 : (s.set h (.inst 0 (putF 0 (.lst (rf.map .str)) [])) ++ [SO.dT []]).length = s.length + 1 := by simp
  simp only [ev, wp_ok, List.getElem?_cons_zero, l1]
  refine ⟨h, 0, [(0, .lst (rf.map .str))], rfl, e1, by simp, ?_⟩
  generalize s.set h (.inst 0 (putF 0 (.lst (rf.map .str)) [])) ++ [SO.dT []] = s1 at e1 f1 d1 l2
  refine w_asgF ?_
  have e2 : (s1.set h (.inst 0 (putF 1 (.loc s.length) [(0, .lst (rf.map .str))])))[h]? = some (.inst 0 [(0, .lst (rf.map .str)), (1, .loc s.length)]) := at_set e1
  have f2 : Frm [h] s (s1.set h (.inst 0 (putF 1 (.loc s.length) [(0, .lst (rf.map .str))]))) := f1.trans Frm.set
  have d2 : (s1.set h (.inst 0 (putF 1 (.loc s.length) [(0, .lst (rf.map .str))])))[s.length]? = some (.dT []) := by rw [List.getElem?_set_ne (by omega)]; exact d1
  have l3 : (s1.set h (.inst 0 (putF 1 (.loc s.length) [(0, .lst (rf.map .str))]))).length = s.length + 1 := by rw [List.length_set, l2]
  generalize s1.set h (.inst 0 (putF 1 (.loc s.length) [(0, .lst (rf.map .str))])) = s2 at e2 f2 d2 l3
  refine ⟨.loc s2.length, s2 ++ [.list []], rfl, .loc h, s2 ++ [.list []], rfl, h, 0, [(0, .lst (rf.map .str)), (1, .loc s.length)], rfl, ?_, by simp, ?_⟩
  · exact Frm.push.2 _ _ e2 (by simp)
  · refine w_nil ⟨⟨?_, ?_, ?_⟩, (f2.trans (Frm.push.mono (by simp))).trans Frm.set, by simp [l3]⟩
    · have := at_set (o := .inst 0 (putF 2 (.loc s2.length) [(0, .lst (rf.map .str)), (1, .loc s.length)])) (Frm.push (o := .list []) |>.2 _ _ e2 (by simp))
      rw [this, l3]
      rfl
    · rw [List.getElem?_set_ne (by omega)]
      exact Frm.push.2 _ _ d2 (by simp)
    · rw [List.getElem?_set_ne (by omega), ← l3]
      exact at_push
/-- story and holds as the comprehension goes -/
theorem holds_go {C : Ctx} {l : Nat} {rs : List Row} {en : Env} {m : Bool} {i : Nat} {e : Ex} {Q : Val → Sto → Prop} (he : ev C e en s = some (.ok (.loc l), s)) (hl : s[l]? = some (.list (rowsV rs))) (hn : rs.length ≤ 100000) (hi : i < en.length)
    (hv : ∀ x, ev C e ((wipe en [i]).set i (some x)) s = some (.ok (.loc l), s)) (q : Q (alloc m (holdsV rs) s).1 (alloc m (holdsV rs) s).2) :
    Wp (ev C (.comp m (.slice false (.var i) (some (.cst (.int 1))) none) (.name i) (.val e) (some (.andE (.cmp .eq (.item (.var i) (.cst (.int 0))) (.cst (.str [100, 111, 110, 101]))) (.cmp .notin (.bin .add false (.tup [(.cst (.str [98, 97, 99, 107, 101, 100]))]) (.slice false (.var i) (some (.cst (.int 1))) none)) e))) [i]) en s) Q := by
  have st : still (some (l, rowsV rs)) s = true := by
    have : ∀ rs : List Row, Val.beqs (rowsV rs) (rowsV rs) = true := fun rs => by
      induction rs with
      | nil => rfl
      | cons r rs ih =>
        show (Val.beq (rowV r) (rowV r) && Val.beqs (rowsV rs) (rowsV rs)) = true
        rw [ih]
        simp [rowV, Val.beq, Val.beqs]
    simp only [still, hl, this]
  refine wp_compE (fun j acc s' => s' = s ∧ acc = holdsV' rs (rs.take j)) (w := (rowsV rs, some (l, rowsV rs))) (s1 := s) ?_ (by show (rowsV rs).length ≤ LIM; simp only [rowsV, List.length_map]; exact hn) ⟨rfl, rfl⟩ (fun j acc s' h => by rw [h.1]; exact st) ?_ ?_
  · simp only [evi, he, bnd, pur, walkV, hl, ok]
  · rintro j v acc s' hv' ⟨rfl, rfl⟩
    have hv' : (rowsV rs)[j]? = some v := hv'
    unfold rowsV at hv'
    rw [List.getElem?_map] at hv'
    cases er : rs[j]? with
    | none => rw [er] at hv'; cases hv'
    | some r =>
      rw [er] at hv'
      cases hv'
      refine ⟨_, rfl, ?_⟩
      have hx := hv (rowV r)
      have gi : ((wipe en [i]).set i (some (rowV r)))[i]? = some (some (rowV r)) := List.getElem?_set_self (by simp [wipe]; exact hi)
      generalize (wipe en [i]).set i (some (rowV r)) = en1 at hx gi
      have it : itemV (rowV r) (.int 0) s' = some (.str r.1) := rfl
      have sl : sliceV false (rowV r) (some 1) none s' = some (.tup [.int r.2.1, .str r.2.2], s') := rfl
      have bn : binV .add false (.tup [.str backed]) (.tup [.int r.2.1, .str r.2.2]) s' = some (rowV (backed, r.2), s') := rfl
      have elt : ev C (.slice false (.var i) (some (.cst (.int 1))) none) en1 s' = some (.ok (.tup [.int r.2.1, .str r.2.2]), s') := by
        simp only [ev, evo, gi, bnd, ok, sl, lift]
      have c1 : ev C (.cmp .eq (.item (.var i) (.cst (.int 0))) (.cst (.str [100, 111, 110, 101]))) en1 s' = some (.ok (.bl (decide (r.1 = done))), s') := by
        simp only [ev, gi, bnd, ok, it, pur, cmpV, eq_strs, Option.map_some]
        rfl
      have c2 : ev C (.cmp .notin (.bin .add false (.tup [(.cst (.str [98, 97, 99, 107, 101, 100]))]) (.slice false (.var i) (some (.cst (.int 1))) none)) e) en1 s' = some (.ok (.bl (!hasRow rs (backed, r.2))), s') := by
        have t1 : ev C (.tup [(.cst (.str [98, 97, 99, 107, 101, 100]))]) en1 s' = some (.ok (.tup [.str backed]), s') := by
          simp only [ev, evs, bnd, ok]
          rfl
        rw [ev, ev, t1]
        simp only [bnd, elt, bn, lift, ok, hx, pur, cmpV, in_rows hl, Option.map_some]
      refine ⟨decide (r.1 = done) && !hasRow rs (backed, r.2), s', ?_, fun z => ⟨_, s', elt, rfl, ?_⟩, fun z => ⟨rfl, ?_⟩⟩
      · rw [evc, ev, c1]
        simp only [bnd]
        cases decide (r.1 = done) with
        | true => simp only [c2, bnd, ok, Bool.true_and]
        | false => simp only [bnd, ok, Bool.false_and]
      · unfold holdsV'
        rw [List.take_add_one, er]
        simp only [Option.toList_some, List.filter_append, List.map_append]
        rw [List.filter_cons, if_pos z]
        rfl
      · unfold holdsV'
        rw [List.take_add_one, er]
        simp only [Option.toList_some, List.filter_append, List.map_append]
        rw [List.filter_cons, if_neg (by rw [z]; exact Bool.false_ne_true)]
        simp
  · rintro us s' ⟨rfl, rfl⟩
    have : holdsV' rs (rs.take (rowsV rs).length) = holdsV rs := by
      rw [show (rowsV rs).length = rs.length by simp [rowsV], List.take_length]
      rfl
    show _
    rw [show ((rowsV rs, some (l, rowsV rs)) : Walk).1 = rowsV rs from rfl, this]
    exact q
theorem holds_ok {h fi de : Nat} {rf : List Txt} {kvs : Tb} {rs : List Row} (H : HA s h fi de rf kvs rs) (hn : rs.length ≤ 100000) :
    Wp (callN tab (k + 1) 5 [.loc h] s) fun v s' => v = .loc s.length ∧ s' = s ++ [.list (holdsV rs)] := by
  refine wp_run rfl rfl ?_
  refine w_ret ?_
  have fe : ∀ (C : Ctx) (o : Option Val), ev C (.fld (.var 0) 2) [some (.loc h), o] s = some (.ok (.loc de), s) := fun C o => by
    simp only [ev, List.getElem?_cons_zero, ok, bnd, H.i, lkD, pur]
  exact holds_go (fe _ _) H.d hn (by simp) (fun x => fe _ _) ⟨rfl, rfl⟩
end
end K10
end
section
set_option Elab.async false
set_option linter.all false
set_option autoImplicit false
set_option maxRecDepth 100000
set_option maxHeartbeats 1000000
/-! k10: a deed. -/
namespace K10
open Ab Lw
/-- a table as it stands -/
structure TA (s : Sto) (t te tr : Nat) (rf : List Txt) (kvs : Tb) (rs : List Row) : Prop where
  i : s[t]? = some (.list [.loc te, .loc tr, .lst (rf.map .str)])
  f : s[te]? = some (.dT kvs)
  d : s[tr]? = some (.list (rowsV rs))
theorem TA.frm {s s' : Sto} {t te tr : Nat} {rf : List Txt} {kvs : Tb} {rs : List Row} {L : List Nat} (H : TA s t te tr rf kvs rs) (f : Frm L s s') (h1 : t ∉ L) (h2 : te ∉ L) (h3 : tr ∉ L) : TA s' t te tr rf kvs rs := ⟨f.2 _ _ H.i h1, f.2 _ _ H.f h2, f.2 _ _ H.d h3⟩
/-- a list of words: nowhere among the places L -/
structure WL (s : Sto) (W : Val) (ws : List Txt) (L : List Nat) : Prop where
  at_ : lstOf s W = some (ws.map .str)
  len : ws.length = 14
  far : ∀ l, W = .loc l → l ∉ L
theorem WL.frm {s s' : Sto} {W : Val} {ws : List Txt} {L L' : List Nat} (h : WL s W ws L) (f : Frm L' s s') (hs : ∀ i ∈ L', i ∈ L) : WL s' W ws L := by
  refine ⟨?_, h.len, h.far⟩
  cases W with
  | lst _ => exact h.at_
  | loc l =>
    have := h.at_
    simp only [lstOf] at this ⊢
    cases e : s[l]? with
    | none => simp [e] at this
    | some o =>
      rw [e] at this
      simp only [f.2 _ _ e fun z => h.far l rfl (hs _ z)]
      exact this
  | _ => exact h.at_
theorem WL.item {s : Sto} {W : Val} {ws : List Txt} {L : List Nat} (h : WL s W ws L) {r : Int} (h0 : 0 ≤ r) (h1 : r < 14) : ∃ w, w ∈ ws ∧ itemV W (.int r) s = some (.str w) := by
  obtain ⟨i, rfl⟩ : ∃ i : Nat, r = (i : Nat) := ⟨r.toNat, by omega⟩
  obtain ⟨w, hw⟩ : ∃ w, ws[i]? = some w := ⟨_, List.getElem?_eq_getElem (by have := h.len; omega)⟩
  refine ⟨w, List.mem_of_getElem? hw, ?_⟩
  have e : L2.atI (ws.map Val.str) (i : Nat) = some (.str w) := atI_of (by rw [List.getElem?_map, hw]; rfl)
  cases W with
  | lst vs =>
    have := h.at_
    cases this
    exact e
  | loc l =>
    show (seqOf s (.loc l)).bind _ = _
    rw [show seqOf s (.loc l) = lstOf s (.loc l) from rfl, h.at_]
    exact e
  | _ => cases h.at_
section
variable {s : Sto} {k : Nat}
theorem tk {s : Sto} {b j : Nat} {many : Int} (hb : Box s b j) (h0 : 0 < many) (h1 : many < 1073741824) : Wp (callN tab (k + 1) 7 [.loc b, .int many] s) fun v s' => ∃ r : Int, v = .int r ∧ 0 ≤ r ∧ r < many ∧ Box s' b j ∧ Frm [b, j] s s' ∧ s'.length = s.length := take_ok rfl hb h0 h1
/-- a draw among things -/
theorem wp_pick {C : Ctx} {iw ib n : Nat} {X : Ex} {W : Val} {b : Nat} {m : Int} {en : Env} {Q P : Val → Sto → Prop} (gW : en[iw]? = some (some W)) (gb : en[ib]? = some (some (.loc b))) (ee : ev C X en s = some (.ok (.int m), s)) (hd : Wp (C.call n [.loc b, .int m] s) P)
    (q : ∀ v s', P v s' → ∃ w, itemV W v s' = some w ∧ Q w s') : Wp (ev C (.item (.var iw) (.call n [.var ib, X])) en s) Q := by
  simp only [ev, evs, gW, gb, ee, wp_bnd, wp_ok, wp_pur]
  refine ⟨_, _, rfl, ?_⟩
  exact hd.imp q
theorem wp_draw {C : Ctx} {ib n : Nat} {X : Ex} {b : Nat} {m : Int} {en : Env} {Q : Val → Sto → Prop} (gb : en[ib]? = some (some (.loc b))) (ee : ev C X en s = some (.ok (.int m), s)) (hd : Wp (C.call n [.loc b, .int m] s) Q) : Wp (ev C (.call n [.var ib, X]) en s) Q := by
  simp only [ev, evs, gb, ee, wp_bnd, wp_ok]
  exact ⟨_, _, rfl, hd⟩
/-- a drawn list of words -/
theorem draw_ok {C : Ctx} {b j : Nat} {iw ib it : Nat} {W : Val} {ws : List Txt} {L : List Nat} {en : Env} {Q : Val → Sto → Prop} {e : Ex} (hC : C.call = callN tab (k + 1)) (hb : Box s b j) (hw : WL s W ws L) (hl : ∀ i ∈ [b, j], i ∈ L)
    (he : Wp (ev C e en s) fun v s' => ∃ m : Int, v = .int m ∧ 0 ≤ m ∧ m < 100 ∧ Box s' b j ∧ Frm [b, j] s s' ∧ s'.length = s.length) (hn : it < en.length) (e1 : iw ≠ it) (e2 : ib ≠ it) (g1 : en[iw]? = some (some W)) (g2 : en[ib]? = some (some (.loc b)))
    (q : ∀ (xs : List Txt) (s' : Sto), xs.length < 100 → Box s' b j → Frm [b, j] s s' → s'.length = s.length → Q (.lst (xs.map .str)) s') :
    Wp (ev C (.comp false (.item (.var iw) (.call 7 [(.var ib), (.cst (.int 5))])) (.name it) (.rng1 e) none [it]) en s) Q := by
  obtain ⟨v, s1, ee, m, rfl, hm0, hm1, b1, f1, l1⟩ := he
  refine wp_compE (fun i acc s' => ∃ xs : List Txt, acc = xs.map .str ∧ xs.length = i ∧ Box s' b j ∧ Frm [b, j] s s' ∧ s'.length = s.length) (w := (rngV 0 m.toNat, none)) (s1 := s1) ?_ ?_ ⟨[], rfl, rfl, b1, f1, l1⟩ (fun _ _ _ _ => rfl) ?_ ?_
  · have : rngOk 0 m = true := decide_eq_true (by omega)
    simp only [evi, ee, bnd, this, if_true, ok]
  · show (rngV 0 m.toNat).length ≤ LIM
    simp only [rngV, List.length_map, List.length_range]
    exact of_eq_true (lim_le (by omega))
  · rintro i v acc s2 hv ⟨xs, rfl, rfl, b2, f2, l2⟩
    refine ⟨_, rfl, wp_ok.mpr ⟨fun _ => ?_, fun h => by cases h⟩⟩
    have n1 : ((wipe en [it]).set it (some v))[iw]? = some (some W) := by
      rw [List.getElem?_set_ne (fun z => e1 z.symm)]
      show ((wipe en []).set it none)[iw]? = _
      rw [List.getElem?_set_ne (fun z => e1 z.symm)]
      exact g1
    have n2 : ((wipe en [it]).set it (some v))[ib]? = some (some (.loc b)) := by
      rw [List.getElem?_set_ne (fun z => e2 z.symm)]
      show ((wipe en []).set it none)[ib]? = _
      rw [List.getElem?_set_ne (fun z => e2 z.symm)]
      exact g2
    have hw2 := hw.frm f2 hl
    simp only [ev, evs, n1, n2, wp_bnd, wp_ok, wp_pur, hC]
    refine (tk (k := k) (many := 5) b2 (by decide) (by decide)).imp ?_
    rintro v s3 ⟨r, rfl, h0, h1, b3, f3, l3⟩
    obtain ⟨w, _, hi⟩ := (hw2.frm f3 hl).item h0 (by omega)
    exact ⟨_, hi, xs ++ [w], by simp, by simp, b3, f2.trans f3, by omega⟩
  · rintro us s2 ⟨xs, rfl, hx, b2, f2, l2⟩
    refine q xs s2 ?_ b2 f2 l2
    have : (rngV 0 m.toNat).length = m.toNat := by simp [rngV]
    rw [hx, this]
    omega
/-- all of a deed's things -/
structure StD (s : Sto) (b j h fi de t te tr : Nat) (W : Val) (ws : List Txt) (rf : List Txt) (kvs : Tb) (rs : List Row) : Prop where
  box : Box s b j
  wl : WL s W ws [b, j, h, fi, de, t, te, tr]
  ha : HA s h fi de rf kvs rs
  ta : TA s t te tr rf kvs rs
theorem StD.draw {s s' : Sto} {b j h fi de t te tr : Nat} {W : Val} {ws rf : List Txt} {kvs : Tb} {rs : List Row} (x : StD s b j h fi de t te tr W ws rf kvs rs) (nd : [b, j, h, fi, de, t, te, tr].Nodup) (b' : Box s' b j) (f : Frm [b, j] s s') : StD s' b j h fi de t te tr W ws rf kvs rs := by
  simp only [List.nodup_cons, List.mem_cons, not_or, List.not_mem_nil, not_false_eq_true, and_true, List.nodup_nil] at nd
  obtain ⟨⟨a1, a2, a3, a4, a5, a6, a7⟩, ⟨c1, c2, c3, c4, c5, c6⟩, _⟩ := nd
  exact ⟨b', x.wl.frm f (by simp), x.ha.frm f (by simp; exact ⟨fun z => a2 z.symm, fun z => c1 z.symm⟩) (by simp; exact ⟨fun z => a3 z.symm, fun z => c2 z.symm⟩) (by simp; exact ⟨fun z => a4 z.symm, fun z => c3 z.symm⟩),
    x.ta.frm f (by simp; exact ⟨fun z => a5 z.symm, fun z => c4 z.symm⟩) (by simp; exact ⟨fun z => a6 z.symm, fun z => c5 z.symm⟩) (by simp; exact ⟨fun z => a7 z.symm, fun z => c6 z.symm⟩)⟩
/-- what a deed leaves -/
def DeedQ (s : Sto) (b j h fi de t te tr : Nat) (W : Val) (ws : List Txt) (kvs : Tb) (rs : List Row) (v : Val) (s' : Sto) : Prop := v = .bl true ∧ ∃ rf' kvs' rs', StD s' b j h fi de t te tr W ws rf' kvs' rs' ∧ TbOk kvs' ∧ kvs'.length ≤ kvs.length + 1 ∧ rs'.length ≤ rs.length + 1 ∧ Frm [b, j, h, fi, de, t, te, tr] s s'
theorem alike_str {s : Sto} {x : Txt} (n : Nat) : Wp (callN tab (n + 2) 8 [.str x, .str x] s) fun v s' => v = .bl true ∧ s' = s := alike_ok rfl 2 n (d := .str x) rfl rfl rfl
theorem Frm.drop {l : Nat} {L : List Nat} {s s' : Sto} (f : Frm (l :: L) s s') (h : s.length ≤ l) : Frm L s s' := ⟨f.1, fun i o e hn => f.2 i o e fun z => by
  rcases List.mem_cons.mp z with y | y
  · have := (List.getElem?_eq_some_iff.mp e).1
    omega
  · exact hn y⟩
/-- another list is refused -/
theorem deed7 {C : Ctx} {b j h fi de t te tr : Nat} {W : Val} {ws rf : List Txt} {kvs : Tb} {rs : List Row} {o4 o5 o6 o7 : Option Val} (hcall : C.call = callN tab (k + 1)) (hT : C.T = tab) (x : StD s b j h fi de t te tr W ws rf kvs rs) (nd : [b, j, h, fi, de, t, te, tr].Nodup) (hk : TbOk kvs) {r : List Stm} :
    WpS (execs C ([(.asgI (.var 3) (.cst (.int 2)) (.comp false (.item (.var 1) (.call 7 [(.var 0), (.cst (.int 5))])) (.name 11) (.rng1 (.call 7 [(.var 0), (.cst (.int 4))])) none [11])), (.asg (.name 9) (.bi .list true [(.item (.var 3) (.cst (.int 2)))])), (.asg (.name 10) (.isN false (.meth 0 (.var 2) [(.var 9)]))), (.expr (.bm .append (.var 9) [(.item (.var 1) (.cst (.int 0)))])), (.expr (.bm .append (.var 9) [(.item (.var 1) (.cst (.int 1)))])), (.ret (.var 10))] ++ r)
      [some (.loc b), some W, some (.loc h), some (.loc t), o4, o5, o6, o7, none, none, none, none] s) fun o _ s' => match o with
      | .ret v => DeedQ s b j h fi de t te tr W ws kvs rs v s'
      | _ => False := by
  have nd' := nd
  simp only [List.nodup_cons, List.mem_cons, not_or, List.not_mem_nil, not_false_eq_true, and_true, List.nodup_nil] at nd'
  obtain ⟨⟨a1, a2, a3, a4, a5, a6, a7⟩, ⟨c1, c2, c3, c4, c5, c6⟩, ⟨d1, d2, d3, d4, d5⟩, ⟨g1, g2, g3, g4⟩, ⟨i1, i2, i3⟩, ⟨k1, k2⟩, m1⟩ := nd'
  refine w_asgI ?_
  refine draw_ok (k := k) (b := b) (j := j) (L := [b, j, h, fi, de, t, te, tr]) (W := W) (ws := ws) hcall x.box x.wl (by simp) ?_ (by simp) (by decide) (by decide) rfl rfl ?_
  · refine wp_draw (b := b) (m := 4) rfl (by simp only [ev, ok]) ?_
    rw [hcall]
    refine (tk x.box (by decide) (by decide)).imp ?_
    rintro v s' ⟨r, rfl, h0, h1, b', f', l'⟩
    exact ⟨r, rfl, h0, by omega, b', f', l'⟩
  intro xs s1 hx b1 f1 _
  have x1 := x.draw nd b1 f1
  simp only [ev, wp_ok, List.getElem?_cons_succ, List.getElem?_cons_zero]
  have sv : setV (.loc t) (.int 2) (.lst (xs.map .str)) s1 = some (s1.set t (.list [.loc te, .loc tr, .lst (xs.map .str)])) := by
    simp only [setV, x1.ta.i]
    rfl
  refine ⟨_, sv, ?_⟩
  have f2 : Frm [t] s1 (s1.set t (.list [.loc te, .loc tr, .lst (xs.map .str)])) := Frm.set
  have t2 : (s1.set t (.list [.loc te, .loc tr, .lst (xs.map .str)]))[t]? = _ := at_set x1.ta.i
  have b2 := b1.frm f2 (by simp; exact a5) (by simp; exact c4)
  have w2 := x1.wl.frm f2 (by simp)
  have h2 := x1.ha.frm f2 (by simp; exact d3) (by simp; exact g2) (by simp; exact i1)
  have e2 := f2.2 _ _ x1.ta.f (by simp; exact fun z => k1 z.symm)
  have r2 := f2.2 _ _ x1.ta.d (by simp; exact fun z => k2 z.symm)
  have ll2 : (s1.set t (.list [.loc te, .loc tr, .lst (xs.map .str)])).length = s1.length := by simp
  generalize s1.set t (.list [.loc te, .loc tr, .lst (xs.map .str)]) = s2 at f2 t2 b2 w2 h2 e2 r2 ll2
  refine w_asg ⟨.loc s2.length, s2 ++ [.list (xs.map .str)], ?_, ?_⟩
  · have : L2.atI [Val.loc te, .loc tr, .lst (xs.map .str)] 2 = some (.lst (xs.map .str)) := rfl
    simp only [ev, evs, List.getElem?_cons_succ, List.getElem?_cons_zero, bnd, ok, pur, itemV, seqOf, lstOf, t2, Option.bind_some, this]
    rfl
  have f3 : Frm [] s2 (s2 ++ [.list (xs.map .str)]) := Frm.push
  have p3 : (s2 ++ [.list (xs.map .str)])[s2.length]? = some (.list (xs.map .str)) := at_push
  have b3 := b2.frm f3 (by simp) (by simp)
  have w3 := w2.frm f3 (by simp)
  have h3 := h2.frm f3 (by simp) (by simp) (by simp)
  have t3 := f3.2 _ _ t2 (by simp)
  have e3 := f3.2 _ _ e2 (by simp)
  have r3 := f3.2 _ _ r2 (by simp)
  generalize s2 ++ [.list (xs.map .str)] = s3 at f3 p3 b3 w3 h3 t3 e3 r3
  have lt2 : ∀ {l : Nat} {o : SO}, s2[l]? = some o → l < s2.length := fun e => (List.getElem?_eq_some_iff.mp e).1
  obtain ⟨xs0, st0, q1, q2⟩ := b2
  have hb2 := lt2 q1
  have hj2 := lt2 q2
  have hh2 := lt2 h2.i
  have hf2 := lt2 h2.f
  have hd2 := lt2 h2.d
  have ht2 := lt2 t2
  have he2 := lt2 e2
  have hr2 := lt2 r2
  refine w_asg ?_
  show Wp (ev C (.isN false (.meth 0 (.var 2) [(.var 9)])) [some (.loc b), some W, some (.loc h), some (.loc t), o4, o5, o6, o7, none, some (.loc s2.length), none, none] s3) _
  have mt : C.T.meth 0 0 = some 1 := by rw [hT]; rfl
  simp only [ev, evs, wp_bnd, wp_ok, List.getElem?_cons_succ, List.getElem?_cons_zero, h3.i, mt, hcall]
  refine (refuse_ok h3 p3).imp ?_
  rintro v s4 ⟨rfl, h4, f4, _⟩
  have b4 := b3.frm f4 (by simp; exact a2) (by simp; exact c1)
  have w4 := w3.frm f4 (by simp)
  have p4 := f4.2 _ _ p3 (by simp; omega)
  have t4 := f4.2 _ _ t3 (by simp; exact fun z => d3 z.symm)
  have e4 := f4.2 _ _ e3 (by simp; exact fun z => d4 z.symm)
  have r4 := f4.2 _ _ r3 (by simp; exact fun z => d5 z.symm)
  simp only [wp_ok]
  have farW : ∀ l, W = .loc l → l ≠ s2.length := by
    rintro l rfl z
    have := w2.at_
    simp only [lstOf] at this
    split at this
    · rename_i e
      have := lt2 e
      omega
    · cases this
  have app : ∀ {s : Sto} {ys : List Val} {en : Env} {i : Int} {r : List Stm} {Q : SR → Env → Sto → Prop}, WL s W ws [b, j, h, fi, de, t, te, tr] → 0 ≤ i → i < 14 → en[9]? = some (some (.loc s2.length)) → en[1]? = some (some W) → s[s2.length]? = some (.list ys) → ys.length < 1000 →
      (∀ y, WpS (execs C r en (s.set s2.length (.list (ys ++ [y])))) Q) → WpS (execs C (.expr (.bm .append (.var 9) [(.item (.var 1) (.cst (.int i)))]) :: r) en s) Q := by
    intro s ys en i r Q hw h0 h1 g9 gW hs hl q
    obtain ⟨y, _, hy⟩ := hw.item h0 h1
    have hl' : ys.length < LIM := Nat.lt_of_lt_of_le hl (by decide)
    refine w_expr ?_
    have ty : bmTy .append (.loc s2.length) s = true := by simp [bmTy, lstOf, hs]
    have bv : bmV .append (.loc s2.length) [.str y] s = some (.non, s.set s2.length (.list (ys ++ [.str y]))) := by
      simp only [bmV, hs, hl', if_true]
    simp only [ev, evs, g9, gW, wp_bnd, wp_ok, wp_pur, ty, if_true]
    refine ⟨_, hy, ?_⟩
    rw [bv]
    exact wp_lift.mpr ⟨_, _, rfl, q _⟩
  show WpS (execs C (.expr (.bm .append (.var 9) [(.item (.var 1) (.cst (.int 0)))]) :: .expr (.bm .append (.var 9) [(.item (.var 1) (.cst (.int 1)))]) :: .ret (.var 10) :: r) [some (.loc b), some W, some (.loc h), some (.loc t), o4, o5, o6, o7, none, some (.loc s2.length), some (.bl true), none] s4) _
  have lx : (xs.map Val.str).length < 100 := by simpa using hx
  refine app w4 (by decide) (by decide) rfl rfl p4 (by omega) fun y => ?_
  have f5 : Frm [s2.length] s4 (s4.set s2.length (.list (xs.map .str ++ [y]))) := Frm.set
  have p5 : (s4.set s2.length (.list (xs.map .str ++ [y])))[s2.length]? = _ := at_set p4
  have w5 : WL (s4.set s2.length (.list (xs.map .str ++ [y]))) W ws [b, j, h, fi, de, t, te, tr] := by
    have : WL s4 W ws [s2.length, b, j, h, fi, de, t, te, tr] := ⟨w4.at_, w4.len, fun l hl z => by
      rcases List.mem_cons.mp z with z | z
      · exact farW l hl z
      · exact w4.far l hl z⟩
    have q := this.frm f5 (by simp)
    exact ⟨q.at_, q.len, w4.far⟩
  generalize s4.set s2.length (.list (xs.map .str ++ [y])) = s5 at f5 p5 w5
  refine app w5 (by decide) (by decide) rfl rfl p5 (by simp; omega) fun y2 => ?_
  have f6 : Frm [s2.length] s4 (s5.set s2.length (.list (xs.map .str ++ [y] ++ [y2]))) := f5.trans Frm.set
  have w6 : WL (s5.set s2.length (.list (xs.map .str ++ [y] ++ [y2]))) W ws [b, j, h, fi, de, t, te, tr] := by
    have : WL s5 W ws [s2.length, b, j, h, fi, de, t, te, tr] := ⟨w5.at_, w5.len, fun l hl z => by
      rcases List.mem_cons.mp z with z | z
      · exact farW l hl z
      · exact w5.far l hl z⟩
    have q := this.frm (Frm.set (l := s2.length) (o := .list (xs.map .str ++ [y] ++ [y2]))) (by simp)
    exact ⟨q.at_, q.len, w5.far⟩
  generalize s5.set s2.length (.list (xs.map .str ++ [y] ++ [y2])) = s6 at f6 w6
  refine w_ret (wp_ok.mpr ?_)
  refine ⟨rfl, xs, kvs, rs, ⟨b4.frm f6 (by simp; omega) (by simp; omega), w6, h4.frm f6 (by simp; omega) (by simp; omega) (by simp; omega), ⟨f6.2 _ _ t4 (by simp; omega), f6.2 _ _ e4 (by simp; omega), f6.2 _ _ r4 (by simp; omega)⟩⟩, hk, by omega, by omega, ?_⟩
  have hs2 : s.length ≤ s2.length := by rw [ll2]; exact f1.1
  have big : Frm (s2.length :: [b, j, h, fi, de, t, te, tr]) s s6 := ((((f1.mono (by simp)).trans (f2.mono (by simp))).trans (f3.mono (by simp))).trans (f4.mono (by simp))).trans (f6.mono (by simp))
  exact Frm.drop big hs2
section
variable {C : Ctx} {en : Env} {t te tr : Nat} {rf : List Txt} {kvs : Tb} {rs : List Row} {n : Int} {w : Txt}
theorem ev_bi1 {b : BI} {m : Bool} {e : Ex} {v u : Val} {s' : Sto} (h : ev C e en s = some (.ok v, s)) (hv : biV b m [v] s = some (u, s')) : ev C (.bi b m [e]) en s = some (.ok u, s') := by
  simp only [ev, evs, h, bnd, ok, hv, lift]
theorem evs_one {e : Ex} {v : Val} {s' : Sto} (h : ev C e en s = some (.ok v, s')) : evs C [e] en s = some (.ok [v], s') := by
  simp only [evs, h, bnd, ok]
theorem ev_bm2 {b : BM} {o a c : Ex} {x y z v : Val} {s' : Sto} (h1 : ev C o en s = some (.ok x, s)) (ty : bmTy b x s = true) (h2 : ev C a en s = some (.ok y, s)) (h3 : ev C c en s = some (.ok z, s)) (h4 : bmV b x [y, z] s = some (v, s')) : ev C (.bm b o [a, c]) en s = some (.ok v, s') := by
  simp only [ev, evs, h1, h2, h3, bnd, ok, ty, if_true, h4, lift]
theorem ev_bm1 {b : BM} {o a : Ex} {x y v : Val} {s' : Sto} (h1 : ev C o en s = some (.ok x, s)) (ty : bmTy b x s = true) (h2 : ev C a en s = some (.ok y, s)) (h4 : bmV b x [y] s = some (v, s')) : ev C (.bm b o [a]) en s = some (.ok v, s') := by
  simp only [ev, evs, h1, h2, bnd, ok, ty, if_true, h4, lift]
theorem ev_te (A : TA s t te tr rf kvs rs) (g : en[3]? = some (some (.loc t))) : ev C (.item (.var 3) (.cst (.int 0))) en s = some (.ok (.loc te), s) := by
  have : L2.atI [Val.loc te, .loc tr, .lst (rf.map .str)] 0 = some (.loc te) := rfl
  simp only [ev, g, ok, bnd, pur, itemV, seqOf, lstOf, A.i, Option.bind_some, this]
theorem ev_tr (A : TA s t te tr rf kvs rs) (g : en[3]? = some (some (.loc t))) : ev C (.item (.var 3) (.cst (.int 1))) en s = some (.ok (.loc tr), s) := by
  have : L2.atI [Val.loc te, .loc tr, .lst (rf.map .str)] 1 = some (.loc tr) := rfl
  simp only [ev, g, ok, bnd, pur, itemV, seqOf, lstOf, A.i, Option.bind_some, this]
theorem ev_rf (A : TA s t te tr rf kvs rs) (g : en[3]? = some (some (.loc t))) : ev C (.item (.var 3) (.cst (.int 2))) en s = some (.ok (.lst (rf.map .str)), s) := by
  have : L2.atI [Val.loc te, .loc tr, .lst (rf.map .str)] 2 = some (.lst (rf.map .str)) := rfl
  simp only [ev, g, ok, bnd, pur, itemV, seqOf, lstOf, A.i, Option.bind_some, this]
theorem ev_key (g5 : en[5]? = some (some (.int n))) (g6 : en[6]? = some (some (.str w))) : ev C (.tup [.var 5, .var 6]) en s = some (.ok (.tup [.int n, .str w]), s) := by
  simp only [ev, evs, g5, g6, ok, bnd, List.length_cons, List.length_nil, lim_le, Nat.reduceLeDiff, Nat.zero_add, Nat.reduceAdd, if_true]
theorem ev_row {kd : Txt} (g5 : en[5]? = some (some (.int n))) (g6 : en[6]? = some (some (.str w))) : ev C (.tup [.cst (.str kd), .var 5, .var 6]) en s = some (.ok (rowV (kd, n, w)), s) := by
  simp only [ev, evs, g5, g6, ok, bnd, List.length_cons, List.length_nil, lim_le, Nat.reduceLeDiff, Nat.zero_add, Nat.reduceAdd, if_true]
  rfl
theorem look_te (A : TA s t te tr rf kvs rs) : dlook s (.loc te) (.tup [.int n, .str w]) = some (dget kvs (key n w)) := by
  simp only [dlook, A.f, keyOf, Option.map_some]
  rfl
theorem ev_get {z : Val} (A : TA s t te tr rf kvs rs) (g : en[3]? = some (some (.loc t))) (g5 : en[5]? = some (some (.int n))) (g6 : en[6]? = some (some (.str w))) : ev C (.bm .get2 (.item (.var 3) (.cst (.int 0))) [.tup [.var 5, .var 6], .cst z]) en s = some (.ok ((dget kvs (key n w)).getD z), s) := by
  have ty : bmTy .get2 (.loc te) s = true := by simp [bmTy, A.f]
  refine ev_bm2 (ev_te A g) ty (ev_key g5 g6) (z := z) (by simp only [ev, ok]) ?_
  simp only [bmV, look_te A, Option.map_some]
/-- a row more -/
theorem w_row {kd : Txt} {r : List Stm} {Q : SR → Env → Sto → Prop} (A : TA s t te tr rf kvs rs) (g : en[3]? = some (some (.loc t))) (g5 : en[5]? = some (some (.int n))) (g6 : en[6]? = some (some (.str w))) (hl : rs.length < 100000)
    (q : WpS (execs C r en (s.set tr (.list (rowsV (rs ++ [(kd, n, w)]))))) Q) : WpS (execs C (.expr (.bm .append (.item (.var 3) (.cst (.int 1))) [.tup [.cst (.str kd), .var 5, .var 6]]) :: r) en s) Q := by
  refine w_expr ⟨.non, s.set tr (.list (rowsV (rs ++ [(kd, n, w)]))), ?_, q⟩
  have ty : bmTy .append (.loc tr) s = true := by simp [bmTy, lstOf, A.d]
  have hl' : (rowsV rs).length < LIM := by simp only [rowsV, List.length_map]; exact of_eq_true (lim_lt hl)
  refine ev_bm1 (ev_tr A g) ty (ev_row g5 g6) ?_
  simp only [bmV, A.d, hl', if_true]
  simp [rowsV]
theorem TA.row {rs' : List Row} (A : TA s t te tr rf kvs rs) : TA (s.set tr (.list (rowsV rs'))) t te tr rf kvs rs' ∧ Frm [tr] s (s.set tr (.list (rowsV rs'))) := by
  have n1 : tr ≠ t := by
    rintro rfl
    have := A.i
    rw [A.d] at this
    cases rs with
    | nil => cases this
    | cons r rs => simp [rowsV, rowV] at this
  have n2 : tr ≠ te := by
    rintro rfl
    have := A.f
    rw [A.d] at this
    cases this
  exact ⟨⟨by rw [List.getElem?_set_ne n1]; exact A.i, by rw [List.getElem?_set_ne n2]; exact A.f, at_set A.d⟩, Frm.set⟩
theorem TA.put {kvs' : Tb} (A : TA s t te tr rf kvs rs) : TA (s.set te (.dT kvs')) t te tr rf kvs' rs ∧ Frm [te] s (s.set te (.dT kvs')) := by
  have n1 : te ≠ t := by
    rintro rfl
    have := A.i
    rw [A.f] at this
    cases this
  have n2 : te ≠ tr := by
    rintro rfl
    have := A.f
    rw [A.d] at this
    cases this
  exact ⟨⟨by rw [List.getElem?_set_ne n1]; exact A.i, at_set A.f, by rw [List.getElem?_set_ne n2]; exact A.d⟩, Frm.set⟩
theorem set_te {v : Val} (A : TA s t te tr rf kvs rs) (hl : kvs.length < 100000) : setV (.loc te) (.tup [.int n, .str w]) v s = some (s.set te (.dT (dput kvs (key n w) v))) := by
  simp only [setV, A.f, hl, lim_lt, if_true, keyOf, Option.map_some]
  rfl
end
theorem bkR_len {kvs : Tb} {rs : List Row} {n : Int} {w : Txt} : (bkR kvs rs n w).length ≤ rs.length + 1 := by
  unfold bkR
  split
  · split <;> simp
  · omega
theorem bkK_len {kvs : Tb} {n : Int} {w : Txt} : (bkK kvs n w).length ≤ kvs.length + 1 := by
  unfold bkK
  split <;> simp
theorem bkK_ok {kvs : Tb} {n : Int} {w : Txt} (hk : TbOk kvs) : TbOk (bkK kvs n w) := by
  unfold bkK
  split
  · exact hk
  · exact hk.push ‹_›
theorem bkK_put {kvs : Tb} {n : Int} {w : Txt} (hk : TbOk kvs) : dput kvs (key n w) ((dget kvs (key n w)).getD (.str failed)) = bkK kvs n w := by
  unfold bkK
  cases e : dget kvs (key n w) with
  | none => exact dput_new e
  | some v => exact dput_same hk.1 e
/-- a step is taken back -/
theorem deedB {C : Ctx} {b j h fi de t te tr : Nat} {W : Val} {ws rf : List Txt} {kvs : Tb} {rs : List Row} {n : Int} {w : Txt} {o4 o7 o8 o9 o10 o11 : Option Val} (hcall : C.call = callN tab (k + 2)) (hT : C.T = tab) (x : StD s b j h fi de t te tr W ws rf kvs rs) (nd : [b, j, h, fi, de, t, te, tr].Nodup) (hk : TbOk kvs) (l1 : kvs.length < 50000) (l2 : rs.length < 50000) {r : List Stm} :
    WpS (execs C ([(.ifS (.andE (.cmp .eq (.bm .get2 (.item (.var 3) (.cst (.int 0))) [(.tup [(.var 5), (.var 6)]), (.cst (.str []))]) (.cst (.str [100, 111, 110, 101]))) (.cmp .notin (.tup [(.cst (.str [98, 97, 99, 107, 101, 100])), (.var 5), (.var 6)]) (.item (.var 3) (.cst (.int 1))))) [(.expr (.bm .append (.item (.var 3) (.cst (.int 1))) [(.tup [(.cst (.str [98, 97, 99, 107, 101, 100])), (.var 5), (.var 6)])]))] []), (.asgI (.item (.var 3) (.cst (.int 0))) (.tup [(.var 5), (.var 6)]) (.bm .get2 (.item (.var 3) (.cst (.int 0))) [(.tup [(.var 5), (.var 6)]), (.cst (.str [102, 97, 105, 108, 101, 100]))])), (.ret (.call 8 [(.meth 2 (.var 2) [(.var 5), (.var 6)]), (.cst (.str [98, 97, 99, 107, 101, 100]))]))] ++ r)
      [some (.loc b), some W, some (.loc h), some (.loc t), o4, some (.int n), some (.str w), o7, o8, o9, o10, o11] s) fun o _ s' => match o with
      | .ret v => DeedQ s b j h fi de t te tr W ws kvs rs v s'
      | _ => False := by
  have nd' := nd
  simp only [List.nodup_cons, List.mem_cons, not_or, List.not_mem_nil, not_false_eq_true, and_true, List.nodup_nil] at nd'
  obtain ⟨⟨a1, a2, a3, a4, a5, a6, a7⟩, ⟨c1, c2, c3, c4, c5, c6⟩, ⟨d1, d2, d3, d4, d5⟩, ⟨g1, g2, g3, g4⟩, ⟨i1, i2, i3⟩, ⟨k1, k2⟩, m1⟩ := nd'
  -- the row
  have mid : ∀ {r' : List Stm} {Q : SR → Env → Sto → Prop}, (∀ s1, StD s1 b j h fi de t te tr W ws rf kvs rs → TA s1 t te tr rf kvs rs → True → True) → (∀ s1, Box s1 b j → WL s1 W ws [b, j, h, fi, de, t, te, tr] → HA s1 h fi de rf kvs rs → TA s1 t te tr rf kvs (bkR kvs rs n w) → Frm [b, j, h, fi, de, t, te, tr] s s1 →
      WpS (execs C r' [some (.loc b), some W, some (.loc h), some (.loc t), o4, some (.int n), some (.str w), o7, o8, o9, o10, o11] s1) Q) →
      WpS (execs C (.ifS (.andE (.cmp .eq (.bm .get2 (.item (.var 3) (.cst (.int 0))) [(.tup [(.var 5), (.var 6)]), (.cst (.str []))]) (.cst (.str [100, 111, 110, 101]))) (.cmp .notin (.tup [(.cst (.str [98, 97, 99, 107, 101, 100])), (.var 5), (.var 6)]) (.item (.var 3) (.cst (.int 1))))) [(.expr (.bm .append (.item (.var 3) (.cst (.int 1))) [(.tup [(.cst (.str [98, 97, 99, 107, 101, 100])), (.var 5), (.var 6)])]))] [] :: r')
        [some (.loc b), some W, some (.loc h), some (.loc t), o4, some (.int n), some (.str w), o7, o8, o9, o10, o11] s) Q := by
    intro r' Q _ q
    generalize hen : ([some (.loc b), some W, some (.loc h), some (.loc t), o4, some (.int n), some (.str w), o7, o8, o9, o10, o11] : Env) = en at q ⊢
    have e3 : en[3]? = some (some (.loc t)) := by rw [← hen]; rfl
    have e5 : en[5]? = some (some (.int n)) := by rw [← hen]; rfl
    have e6 : en[6]? = some (some (.str w)) := by rw [← hen]; rfl
    have gt : (dget kvs (key n w)).getD (.str []) = .str (match dget kvs (key n w) with | some (.str y) => y | _ => []) := by
      cases e : dget kvs (key n w) with
      | none => rfl
      | some v =>
        obtain ⟨y, rfl⟩ := (hk.2 _ (dget_mem e)).2
        rfl
    have c1' : ∀ q : Txt, ev C (.cmp .eq (.bm .get2 (.item (.var 3) (.cst (.int 0))) [(.tup [(.var 5), (.var 6)]), (.cst (.str []))]) (.cst (.str q))) en s = some (.ok (.bl (decide ((match dget kvs (key n w) with | some (.str y) => y | _ => []) = q))), s) := fun q => by
      rw [ev, ev_get x.ta e3 e5 e6, gt]
      simp only [bnd, ev, ok, pur, cmpV, eq_strs, Option.map_some]
    have c2' : ev C (.cmp .notin (.tup [(.cst (.str backed)), (.var 5), (.var 6)]) (.item (.var 3) (.cst (.int 1)))) en s = some (.ok (.bl (!hasRow rs (backed, n, w))), s) := by
      rw [ev, ev_row e5 e6]
      simp only [bnd]
      rw [ev_tr x.ta e3]
      simp only [bnd, pur, cmpV, in_rows x.ta.d, Option.map_some, ok]
    refine w_if ⟨.bl (decide ((match dget kvs (key n w) with | some (.str y) => y | _ => []) = done) && !hasRow rs (backed, n, w)), s, ?_, _, rfl, fun z => ?_, fun z => ?_⟩
    · rw [ev, show ([100, 111, 110, 101] : Txt) = done from rfl, c1', show ([98, 97, 99, 107, 101, 100] : Txt) = backed from rfl]
      simp only [bnd]
      cases decide ((match dget kvs (key n w) with | some (.str y) => y | _ => []) = done) with
      | true => simp only [c2', bnd, ok, Bool.true_and]
      | false => simp only [ok, Bool.false_and]
    · have hr : bkR kvs rs n w = rs ++ [(backed, n, w)] := by
        simp only [Bool.and_eq_true, decide_eq_true_eq, Bool.not_eq_true'] at z
        unfold bkR
        cases e : dget kvs (key n w) with
        | none => rw [e] at z; exact absurd z.1 (by decide)
        | some v =>
          obtain ⟨y, rfl⟩ := (hk.2 _ (dget_mem e)).2
          rw [e] at z
          simp only [if_pos z]
      refine w_row (kd := backed) x.ta e3 e5 e6 (by omega) ?_
      obtain ⟨A1, f1⟩ := x.ta.row (rs' := rs ++ [(backed, n, w)])
      rw [← hr] at A1 f1 ⊢
      exact q _ (x.box.frm f1 (by simp; exact a7) (by simp; exact c6)) (x.wl.frm f1 (by simp)) (x.ha.frm f1 (by simp; exact d5) (by simp; exact g4) (by simp; exact i3)) A1 (f1.mono (by simp))
    · have hr : bkR kvs rs n w = rs := by
        unfold bkR
        cases e : dget kvs (key n w) with
        | none => rfl
        | some v =>
          obtain ⟨y, rfl⟩ := (hk.2 _ (dget_mem e)).2
          rw [e] at z
          by_cases c : y = done ∧ hasRow rs (backed, n, w) = false
          · obtain ⟨ca, cb⟩ := c
            simp [ca, cb] at z
          · simp only [if_neg c]
      have A1 : TA s t te tr rf kvs (bkR kvs rs n w) := by rw [hr]; exact x.ta
      exact q s x.box x.wl x.ha A1 (Frm.refl _ _)
  refine mid (fun _ _ _ _ => trivial) ?_
  intro s1 b1 w1 h1 A1 f1
  refine w_asgI ⟨_, s1, ev_get A1 rfl rfl rfl, _, s1, ev_te A1 rfl, _, s1, ev_key rfl rfl, _, set_te A1 (by omega), ?_⟩
  rw [show ([102, 97, 105, 108, 101, 100] : Txt) = failed from rfl, bkK_put hk]
  obtain ⟨A2, f2⟩ := A1.put (kvs' := bkK kvs n w)
  have b2 := b1.frm f2 (by simp; exact a6) (by simp; exact c5)
  have w2 := w1.frm f2 (by simp)
  have h2 := h1.frm f2 (by simp; exact d4) (by simp; exact g3) (by simp; exact i2)
  generalize s1.set te (.dT (bkK kvs n w)) = s2 at A2 f2 b2 w2 h2
  refine w_ret ?_
  have mt : C.T.meth 0 2 = some 3 := by rw [hT]; rfl
  have i0 : ([some (.loc b), some W, some (.loc h), some (.loc t), o4, some (.int n), some (.str w), o7, o8, o9, o10, o11] : Env)[2]? = some (some (.loc h)) := rfl
  have i5 : ([some (.loc b), some W, some (.loc h), some (.loc t), o4, some (.int n), some (.str w), o7, o8, o9, o10, o11] : Env)[5]? = some (some (.int n)) := rfl
  have i6 : ([some (.loc b), some W, some (.loc h), some (.loc t), o4, some (.int n), some (.str w), o7, o8, o9, o10, o11] : Env)[6]? = some (some (.str w)) := rfl
  simp only [ev, evs, wp_bnd, wp_ok, i0, i5, i6, h2.i, mt, hcall]
  refine (back_ok h2 hk (by omega) (by omega)).imp ?_
  rintro v s3 ⟨h3, rfl, f3, _⟩
  refine (alike_str k).imp ?_
  rintro v s4 ⟨rfl, rfl⟩
  refine ⟨rfl, rf, bkK kvs n w, bkR kvs rs n w, ⟨b2.frm f3 (by simp; exact ⟨a3, a4⟩) (by simp; exact ⟨c2, c3⟩), w2.frm f3 (by simp), h3, A2.frm f3 (by simp; exact ⟨fun z => g2 z.symm, fun z => i1 z.symm⟩) (by simp; exact ⟨fun z => g3 z.symm, fun z => i2 z.symm⟩) (by simp; exact ⟨fun z => g4 z.symm, fun z => i3 z.symm⟩)⟩, bkK_ok hk, bkK_len, bkR_len, ?_⟩
  exact (f1.trans (f2.mono (by simp))).trans (f3.mono (by simp))
theorem doR_len {rf : List Txt} {kvs : Tb} {rs : List Row} {n : Int} {w : Txt} {sure : Bool} : (doR rf kvs rs n w sure).length ≤ rs.length + 1 := by
  unfold doR
  split
  · omega
  · split <;> simp
theorem doK_len {rf : List Txt} {kvs : Tb} {n : Int} {w : Txt} {sure : Bool} : (doK rf kvs n w sure).length ≤ kvs.length + 1 := by
  unfold doK
  split <;> simp
theorem doK_ok {rf : List Txt} {kvs : Tb} {n : Int} {w : Txt} {sure : Bool} (hk : TbOk kvs) : TbOk (doK rf kvs n w sure) := by
  unfold doK
  split
  · exact hk
  · exact hk.push ‹_›
/-- a step is done -/
theorem deedD {C : Ctx} {b j h fi de t te tr : Nat} {W : Val} {ws rf : List Txt} {kvs : Tb} {rs : List Row} {n kd : Int} {w : Txt} {o4 o8 o9 o10 o11 : Option Val} (hcall : C.call = callN tab (k + 2)) (hT : C.T = tab) (x : StD s b j h fi de t te tr W ws rf kvs rs) (nd : [b, j, h, fi, de, t, te, tr].Nodup) (hk : TbOk kvs) (l1 : kvs.length < 50000) (l2 : rs.length < 50000) :
    WpS (execs C [(.asg (.name 8) (.cmp .eq (.var 7) (.cst (.int 6)))), (.ifS (.cmp .notin (.tup [(.var 5), (.var 6)]) (.item (.var 3) (.cst (.int 0)))) [(.asgI (.item (.var 3) (.cst (.int 0))) (.tup [(.var 5), (.var 6)]) (.item (.lst false [(.cst (.str [100, 111, 110, 101])), (.cst (.str [102, 97, 105, 108, 101, 100]))]) (.bi .int false [(.andE (.cmp .inn (.var 6) (.item (.var 3) (.cst (.int 2)))) (.notE (.var 8)))]))), (.ifS (.cmp .eq (.item (.item (.var 3) (.cst (.int 0))) (.tup [(.var 5), (.var 6)])) (.cst (.str [100, 111, 110, 101]))) [(.expr (.bm .append (.item (.var 3) (.cst (.int 1))) [(.tup [(.cst (.str [100, 111, 110, 101])), (.var 5), (.var 6)])]))] [])] []), (.ifS (.var 8) [(.ret (.call 8 [(.methK 1 (.var 2) [(.var 5), (.var 6)] (.cst (.bl true))), (.item (.item (.var 3) (.cst (.int 0))) (.tup [(.var 5), (.var 6)]))]))] []), (.ret (.call 8 [(.methD 1 (.var 2) [(.var 5), (.var 6)]), (.item (.item (.var 3) (.cst (.int 0))) (.tup [(.var 5), (.var 6)]))]))]
      [some (.loc b), some W, some (.loc h), some (.loc t), o4, some (.int n), some (.str w), some (.int kd), o8, o9, o10, o11] s) fun o _ s' => match o with
      | .ret v => DeedQ s b j h fi de t te tr W ws kvs rs v s'
      | _ => False := by
  have nd' := nd
  simp only [List.nodup_cons, List.mem_cons, not_or, List.not_mem_nil, not_false_eq_true, and_true, List.nodup_nil] at nd'
  obtain ⟨⟨a1, a2, a3, a4, a5, a6, a7⟩, ⟨c1, c2, c3, c4, c5, c6⟩, ⟨d1, d2, d3, d4, d5⟩, ⟨g1, g2, g3, g4⟩, ⟨i1, i2, i3⟩, ⟨k1, k2⟩, m1⟩ := nd'
  obtain ⟨sure, hsure⟩ : ∃ sure : Bool, (kd == 6) = sure := ⟨_, rfl⟩
  refine w_asg ⟨.bl sure, s, by simp only [ev, evs, evo, evc, evi, bnd, ok, pur, lift, List.map_cons, List.map_nil, List.cons_append, List.nil_append, List.getElem?_cons_zero, List.getElem?_cons_succ, List.set_cons_zero, List.set_cons_succ, List.replicate_succ, List.replicate_zero, Nat.reduceSub, itemV, seqOf, lstOf, Option.bind_some, Option.bind_none, cmpV, binV, biV, bmV, bmTy, alloc, Option.map_some, Option.map_none, Bool.false_eq_true, if_false, if_true, optI, walkV, List.length_cons, List.length_nil, lim_le, lim_lt, Nat.zero_add, Nat.reduceAdd, Nat.reduceLeDiff, Nat.zero_le, Nat.reduceLT, Option.isSome_some, eq_ints, hsure], ?_⟩
  show WpS (execs C _ [some (.loc b), some W, some (.loc h), some (.loc t), o4, some (.int n), some (.str w), some (.int kd), some (.bl sure), o9, o10, o11] s) _
  generalize hen : ([some (.loc b), some W, some (.loc h), some (.loc t), o4, some (.int n), some (.str w), some (.int kd), some (.bl sure), o9, o10, o11] : Env) = en
  have e2 : en[2]? = some (some (.loc h)) := by rw [← hen]; rfl
  have e3 : en[3]? = some (some (.loc t)) := by rw [← hen]; rfl
  have e5 : en[5]? = some (some (.int n)) := by rw [← hen]; rfl
  have e6 : en[6]? = some (some (.str w)) := by rw [← hen]; rfl
  have e8 : en[8]? = some (some (.bl sure)) := by rw [← hen]; rfl
  have item : ∀ {s : Sto} {kvs : Tb} {rs : List Row} {v : Val}, TA s t te tr rf kvs rs → dget kvs (key n w) = some v → ev C (.item (.item (.var 3) (.cst (.int 0))) (.tup [.var 5, .var 6])) en s = some (.ok v, s) := by
    intro s kvs rs v A hv
    rw [ev, ev_te A e3]
    simp only [bnd]
    rw [ev_key e5 e6]
    have : itemV (.loc te) (.tup [.int n, .str w]) s = some v := by
      show (dlook s (.loc te) (.tup [.int n, .str w])).bind id = _
      rw [look_te A, hv]
      rfl
    simp only [this, pur, ok]
  -- the table
  have mid : ∀ {r' : List Stm} {Q : SR → Env → Sto → Prop}, (∀ s1, Box s1 b j → WL s1 W ws [b, j, h, fi, de, t, te, tr] → HA s1 h fi de rf kvs rs → TA s1 t te tr rf (doK rf kvs n w sure) (doR rf kvs rs n w sure) → Frm [b, j, h, fi, de, t, te, tr] s s1 → WpS (execs C r' en s1) Q) →
      WpS (execs C (.ifS (.cmp .notin (.tup [(.var 5), (.var 6)]) (.item (.var 3) (.cst (.int 0)))) [(.asgI (.item (.var 3) (.cst (.int 0))) (.tup [(.var 5), (.var 6)]) (.item (.lst false [(.cst (.str [100, 111, 110, 101])), (.cst (.str [102, 97, 105, 108, 101, 100]))]) (.bi .int false [(.andE (.cmp .inn (.var 6) (.item (.var 3) (.cst (.int 2)))) (.notE (.var 8)))]))), (.ifS (.cmp .eq (.item (.item (.var 3) (.cst (.int 0))) (.tup [(.var 5), (.var 6)])) (.cst (.str [100, 111, 110, 101]))) [(.expr (.bm .append (.item (.var 3) (.cst (.int 1))) [(.tup [(.cst (.str [100, 111, 110, 101])), (.var 5), (.var 6)])]))] [])] [] :: r') en s) Q := by
    intro r' Q q
    have t1 : ev C (.cmp .notin (.tup [(.var 5), (.var 6)]) (.item (.var 3) (.cst (.int 0)))) en s = some (.ok (.bl (!(dget kvs (key n w)).isSome)), s) := by
      rw [ev, ev_key e5 e6]
      simp only [bnd]
      rw [ev_te x.ta e3]
      simp only [bnd, pur, cmpV, in_dict x.ta.f, Option.map_some, ok]
    refine w_if ⟨_, s, t1, _, rfl, fun z => ?_, fun z => ?_⟩
    · have e : dget kvs (key n w) = none := by simpa using z
      have g1' : doK rf kvs n w sure = kvs ++ [(key n w, .str (if w ∈ rf ∧ sure = false then failed else done))] := by simp only [doK, e]
      have tin : ev C (.cmp .inn (.var 6) (.item (.var 3) (.cst (.int 2)))) en s = some (.ok (.bl (decide (w ∈ rf))), s) := by
        rw [ev, ev, e6]
        simp only [bnd, ok]
        rw [ev_rf x.ta e3]
        simp only [bnd, pur, cmpV, str_in, Option.map_some, ok]
      have tand : ev C (.andE (.cmp .inn (.var 6) (.item (.var 3) (.cst (.int 2)))) (.notE (.var 8))) en s = some (.ok (.bl (decide (w ∈ rf ∧ sure = false))), s) := by
        rw [ev, tin]
        simp only [bnd]
        by_cases c : w ∈ rf
        · simp only [c, decide_true, ev, e8, ok, bnd]
          cases sure <;> simp
        · simp only [c, decide_false, ok]
          simp
      have tv : ev C (.item (.lst false [(.cst (.str [100, 111, 110, 101])), (.cst (.str [102, 97, 105, 108, 101, 100]))]) (.bi .int false [(.andE (.cmp .inn (.var 6) (.item (.var 3) (.cst (.int 2)))) (.notE (.var 8)))])) en s = some (.ok (.str (if w ∈ rf ∧ sure = false then failed else done)), s) := by
        have l : ev C (.lst false [(.cst (.str [100, 111, 110, 101])), (.cst (.str [102, 97, 105, 108, 101, 100]))]) en s = some (.ok (.lst [.str done, .str failed]), s) := by
          simp only [ev, evs, evo, evc, evi, bnd, ok, pur, lift, List.map_cons, List.map_nil, List.cons_append, List.nil_append, List.getElem?_cons_zero, List.getElem?_cons_succ, List.set_cons_zero, List.set_cons_succ, List.replicate_succ, List.replicate_zero, Nat.reduceSub, itemV, seqOf, lstOf, Option.bind_some, Option.bind_none, cmpV, binV, biV, bmV, bmTy, alloc, Option.map_some, Option.map_none, Bool.false_eq_true, if_false, if_true, optI, walkV, List.length_cons, List.length_nil, lim_le, lim_lt, Nat.zero_add, Nat.reduceAdd, Nat.reduceLeDiff, Nat.zero_le, Nat.reduceLT, Option.isSome_some]
          rfl
        have bi : ev C (.bi .int false [(.andE (.cmp .inn (.var 6) (.item (.var 3) (.cst (.int 2)))) (.notE (.var 8)))]) en s = some (.ok (.int (if decide (w ∈ rf ∧ sure = false) = true then 1 else 0)), s) := by
          exact ev_bi1 tand rfl
        rw [ev, l]
        simp only [bnd]
        rw [bi]
        by_cases c : w ∈ rf ∧ sure = false
        · simp only [c, bnd, pur]
          rfl
        · simp only [c, bnd, pur]
          rfl
      refine w_asgI ⟨_, s, tv, _, s, ev_te x.ta e3, _, s, ev_key e5 e6, _, set_te x.ta (by omega), ?_⟩
      rw [dput_new e, ← g1']
      obtain ⟨A1, f1⟩ := x.ta.put (kvs' := doK rf kvs n w sure)
      have b1 := x.box.frm f1 (by simp; exact a6) (by simp; exact c5)
      have w1 := x.wl.frm f1 (by simp)
      have h1 := x.ha.frm f1 (by simp; exact d4) (by simp; exact g3) (by simp; exact i2)
      have fa := f1.mono (L' := [b, j, h, fi, de, t, te, tr]) (by simp)
      generalize s.set te (.dT (doK rf kvs n w sure)) = s1 at A1 f1 b1 w1 h1 fa
      have dg : dget (doK rf kvs n w sure) (key n w) = some (.str (if w ∈ rf ∧ sure = false then failed else done)) := by rw [g1', dget_push e, if_pos rfl]
      have t2 : ev C (.cmp .eq (.item (.item (.var 3) (.cst (.int 0))) (.tup [(.var 5), (.var 6)])) (.cst (.str [100, 111, 110, 101]))) en s1 = some (.ok (.bl (decide (¬ (w ∈ rf ∧ sure = false)))), s1) := by
        rw [ev, item A1 dg]
        simp only [bnd, ev, ok, pur, cmpV, eq_strs, Option.map_some]
        by_cases c : w ∈ rf ∧ sure = false
        · simp only [c, if_true]
          rfl
        · simp only [c, if_false]
          rfl
      refine w_if ⟨_, s1, t2, _, rfl, fun z => ?_, fun z => ?_⟩
      · have c := of_decide_eq_true z
        have g2' : doR rf kvs rs n w sure = rs ++ [(done, n, w)] := by simp only [doR, e, if_neg c]
        refine w_row (kd := done) A1 e3 e5 e6 (by omega) ?_
        obtain ⟨A2, f2⟩ := A1.row (rs' := rs ++ [(done, n, w)])
        rw [← g2'] at A2 f2 ⊢
        exact q _ (b1.frm f2 (by simp; exact a7) (by simp; exact c6)) (w1.frm f2 (by simp)) (h1.frm f2 (by simp; exact d5) (by simp; exact g4) (by simp; exact i3)) A2 (fa.trans (f2.mono (by simp)))
      · have c : w ∈ rf ∧ sure = false := Classical.not_not.mp (of_decide_eq_false z)
        have g2' : doR rf kvs rs n w sure = rs := by simp only [doR, e, if_pos c]
        rw [g2'] at q
        exact q s1 b1 w1 h1 A1 fa
    · cases e : dget kvs (key n w) with
      | none => rw [e] at z; cases z
      | some v =>
        have g1' : doK rf kvs n w sure = kvs := by simp only [doK, e]
        have g2' : doR rf kvs rs n w sure = rs := by simp only [doR, e]
        rw [g1', g2'] at q
        exact q s x.box x.wl x.ha x.ta (Frm.refl _ _)
  refine mid ?_
  intro s1 b1 w1 h1 A1 f1
  have mt : C.T.meth 0 1 = some 2 := by rw [hT]; rfl
  have fin : ∀ (m : Ex), (∀ {Q : Val → Sto → Prop}, Wp (callN tab (k + 2) 2 [.loc h, .int n, .str w, .bl sure] s1) Q → Wp (ev C m en s1) Q) →
      Wp (ev C (.call 8 [m, (.item (.item (.var 3) (.cst (.int 0))) (.tup [(.var 5), (.var 6)]))]) en s1) fun v s' => DeedQ s b j h fi de t te tr W ws kvs rs v s' := by
    intro m hm
    rw [ev, wp_bnd, evs, wp_bnd]
    refine hm ((do_ok h1 hk (by omega) (by omega)).imp ?_)
    rintro v s2 ⟨h2, hv, f2, _⟩
    have A2 := A1.frm f2 (by simp; exact ⟨fun z => g2 z.symm, fun z => i1 z.symm⟩) (by simp; exact ⟨fun z => g3 z.symm, fun z => i2 z.symm⟩) (by simp; exact ⟨fun z => g4 z.symm, fun z => i3 z.symm⟩)
    obtain ⟨y, rfl⟩ := ((doK_ok (rf := rf) (n := n) (w := w) (sure := sure) hk).2 _ (dget_mem hv)).2
    rw [evs_one (item A2 hv)]
    simp only [bnd, hcall]
    refine wp_ok.mpr ?_
    refine (alike_str k).imp ?_
    rintro v s4 ⟨rfl, rfl⟩
    exact ⟨rfl, rf, _, _, ⟨b1.frm f2 (by simp; exact ⟨a3, a4⟩) (by simp; exact ⟨c2, c3⟩), w1.frm f2 (by simp), h2, A2⟩, doK_ok hk, doK_len, doR_len, f1.trans (f2.mono (by simp))⟩
  refine w_if ⟨.bl sure, s1, by simp only [ev, e8, ok], sure, rfl, fun z => ?_, fun z => ?_⟩
  · subst z
    refine w_ret (fin _ ?_)
    intro Q q
    simp only [ev, evs, wp_bnd, wp_ok, e2, e5, e6, h1.i, mt, hcall]
    exact q
  · subst z
    refine w_ret (fin _ ?_)
    intro Q q
    simp only [ev, evs, wp_bnd, wp_ok, e2, e5, e6, h1.i, mt, hcall]
    exact q
theorem deed_ok {b j h fi de t te tr : Nat} {W : Val} {ws rf : List Txt} {kvs : Tb} {rs : List Row} {wide : Int} (x : StD s b j h fi de t te tr W ws rf kvs rs) (nd : [b, j, h, fi, de, t, te, tr].Nodup) (hk : TbOk kvs) (l1 : kvs.length < 50000) (l2 : rs.length < 50000) (hwd : wide = 0 ∨ wide = 1) :
    Wp (callN tab (k + 4) 10 [.loc b, W, .loc h, .loc t, .int wide] s) (DeedQ s b j h fi de t te tr W ws kvs rs) := by
  refine wp_run rfl rfl ?_
  generalize hC : ({ T := tab, call := callN tab (k + 3), init := callN tab (k + 3 - 1) } : Ctx) = C
  have hcall : C.call = callN tab (k + 3) := by rw [← hC]
  have hT : C.T = tab := by rw [← hC]
  have draw : ∀ {s : Sto} {many : Int}, Box s b j → 0 < many → many < 1073741824 → Wp (C.call 7 [.loc b, .int many] s) fun v s' => ∃ r : Int, v = .int r ∧ 0 ≤ r ∧ r < many ∧ Box s' b j ∧ Frm [b, j] s s' ∧ s'.length = s.length := by
    intro s many h1 h2 h3
    rw [hcall]
    exact tk h1 h2 h3
  obtain ⟨m1, hm1, hm1a, hm1b⟩ : ∃ m1 : Int, L2.atI [Val.int 3, .int 40] wide = some (.int m1) ∧ 0 < m1 ∧ m1 < 1000 := by
    rcases hwd with rfl | rfl
    · exact ⟨3, rfl, by decide, by decide⟩
    · exact ⟨40, rfl, by decide, by decide⟩
  obtain ⟨m2, hm2, hm2a, hm2b⟩ : ∃ m2 : Int, L2.atI [Val.int 5, .int 14] wide = some (.int m2) ∧ 0 < m2 ∧ m2 ≤ 14 := by
    rcases hwd with rfl | rfl
    · exact ⟨5, rfl, by decide, by decide⟩
    · exact ⟨14, rfl, by decide, by decide⟩
  have fr : ∀ {s s' : Sto}, Frm [b, j] s s' → Frm [b, j, h, fi, de, t, te, tr] s s' := fun f => f.mono (by
    intro i hi
    rcases List.mem_cons.mp hi with z | hi
    · rw [z]; simp
    · rw [List.mem_singleton.mp hi]; simp)
  have many1 : ∀ (en : Env) (s : Sto), en[4]? = some (some (.int wide)) → ev C (.item (.lst false [(.cst (.int 3)), (.cst (.int 40))]) (.var 4)) en s = some (.ok (.int m1), s) := fun en s h => by
    simp only [ev, evs, evo, evc, evi, bnd, ok, pur, lift, List.map_cons, List.map_nil, List.cons_append, List.nil_append, List.getElem?_cons_zero, List.getElem?_cons_succ, List.set_cons_zero, List.set_cons_succ, List.replicate_succ, List.replicate_zero, Nat.reduceSub, itemV, seqOf, lstOf, Option.bind_some, Option.bind_none, cmpV, binV, biV, bmV, bmTy, alloc, Option.map_some, Option.map_none, Bool.false_eq_true, if_false, if_true, optI, walkV, List.length_cons, List.length_nil, lim_le, lim_lt, Nat.zero_add, Nat.reduceAdd, Nat.reduceLeDiff, Nat.zero_le, Nat.reduceLT, Option.isSome_some, h, hm1]
  have many2 : ∀ (en : Env) (s : Sto), en[4]? = some (some (.int wide)) → ev C (.item (.lst false [(.cst (.int 5)), (.cst (.int 14))]) (.var 4)) en s = some (.ok (.int m2), s) := fun en s h => by
    simp only [ev, evs, evo, evc, evi, bnd, ok, pur, lift, List.map_cons, List.map_nil, List.cons_append, List.nil_append, List.getElem?_cons_zero, List.getElem?_cons_succ, List.set_cons_zero, List.set_cons_succ, List.replicate_succ, List.replicate_zero, Nat.reduceSub, itemV, seqOf, lstOf, Option.bind_some, Option.bind_none, cmpV, binV, biV, bmV, bmTy, alloc, Option.map_some, Option.map_none, Bool.false_eq_true, if_false, if_true, optI, walkV, List.length_cons, List.length_nil, lim_le, lim_lt, Nat.zero_add, Nat.reduceAdd, Nat.reduceLeDiff, Nat.zero_le, Nat.reduceLT, Option.isSome_some, h, hm2]
  have cst : ∀ (v : Val) (en : Env) (s : Sto), ev C (.cst v) en s = some (.ok v, s) := fun v en s => by simp only [ev, ok]
  refine w_asg ?_
  have step1 : Wp (ev C (.bin .add false (.cst (.int 1)) (.call 7 [(.var 0), (.item (.lst false [(.cst (.int 3)), (.cst (.int 40))]) (.var 4))])) ([Val.loc b, W, .loc h, .loc t, .int wide].map some ++ List.replicate (12 - 5) none) s) fun v s' => ∃ r : Int, v = .int r ∧ Box s' b j ∧ Frm [b, j] s s' := by
    rw [ev, wp_bnd, cst]
    refine wp_ok.mpr ?_
    rw [wp_bnd]
    refine (wp_draw (b := b) rfl (many1 _ _ rfl) (draw x.box hm1a (by omega))).imp ?_
    rintro v s1 ⟨r1, rfl, _, _, b1, f1, _⟩
    exact ⟨_, _, rfl, _, rfl, b1, f1⟩
  refine step1.imp ?_
  rintro v s1 ⟨num, rfl, b1, f1⟩
  have x1 := x.draw nd b1 f1
  refine w_asg ?_
  refine wp_pick (W := W) (b := b) rfl rfl (many2 _ _ rfl) (draw x1.box hm2a (by omega)) ?_
  rintro v s2 ⟨r2, rfl, h20, h21, b2, f2, _⟩
  have x2 := x1.draw nd b2 f2
  obtain ⟨w, _, hw⟩ := x2.wl.item h20 (by omega)
  refine ⟨_, hw, ?_⟩
  refine w_asg ?_
  refine (wp_draw (b := b) rfl (cst _ _ _) (draw x2.box (many := 8) (by decide) (by decide))).imp ?_
  rintro v s3 ⟨kd, rfl, h30, h31, b3, f3, _⟩
  have x3 := x2.draw nd b3 f3
  have f03 := fr ((f1.trans f2).trans f3)
  show WpS (execs C _ [some (.loc b), some W, some (.loc h), some (.loc t), some (.int wide), some (.int num), some (.str w), some (.int kd), none, none, none, none] s3) _
  have back : ∀ v s', DeedQ s3 b j h fi de t te tr W ws kvs rs v s' → DeedQ s b j h fi de t te tr W ws kvs rs v s' := by
    rintro v s' ⟨h1, rf', kvs', rs', h2, h3, h4, h5, h6⟩
    exact ⟨h1, rf', kvs', rs', h2, h3, h4, h5, f03.trans h6⟩
  have up : ∀ {o : SR} {en : Env} {s' : Sto}, (match o with
      | .ret v => DeedQ s3 b j h fi de t te tr W ws kvs rs v s'
      | _ => False) → (match o with
      | .next => DeedQ s b j h fi de t te tr W ws kvs rs .non s'
      | .ret v => DeedQ s b j h fi de t te tr W ws kvs rs v s'
      | _ => False) := by
    intro o en s' q
    cases o with
    | ret v => exact back _ _ q
    | _ => exact q.elim
  refine w_if ⟨.bl (kd == 7), s3, by simp only [ev, evs, evo, evc, evi, bnd, ok, pur, lift, List.map_cons, List.map_nil, List.cons_append, List.nil_append, List.getElem?_cons_zero, List.getElem?_cons_succ, List.set_cons_zero, List.set_cons_succ, List.replicate_succ, List.replicate_zero, Nat.reduceSub, itemV, seqOf, lstOf, Option.bind_some, Option.bind_none, cmpV, binV, biV, bmV, bmTy, alloc, Option.map_some, Option.map_none, Bool.false_eq_true, if_false, if_true, optI, walkV, List.length_cons, List.length_nil, lim_le, lim_lt, Nat.zero_add, Nat.reduceAdd, Nat.reduceLeDiff, Nat.zero_le, Nat.reduceLT, Option.isSome_some, eq_ints], kd == 7, rfl, fun _ => ?_, fun _ => ?_⟩
  · exact (deed7 (k := k + 2) hcall hT x3 nd hk).imp fun o en s' q => up (en := en) q
  refine w_if ⟨.bl (decide (kd < 3)), s3, by simp only [ev, evs, evo, evc, evi, bnd, ok, pur, lift, List.map_cons, List.map_nil, List.cons_append, List.nil_append, List.getElem?_cons_zero, List.getElem?_cons_succ, List.set_cons_zero, List.set_cons_succ, List.replicate_succ, List.replicate_zero, Nat.reduceSub, itemV, seqOf, lstOf, Option.bind_some, Option.bind_none, cmpV, binV, biV, bmV, bmTy, alloc, Option.map_some, Option.map_none, Bool.false_eq_true, if_false, if_true, optI, walkV, List.length_cons, List.length_nil, lim_le, lim_lt, Nat.zero_add, Nat.reduceAdd, Nat.reduceLeDiff, Nat.zero_le, Nat.reduceLT, Option.isSome_some], decide (kd < 3), rfl, fun _ => ?_, fun _ => ?_⟩
  · exact (deedB (k := k + 1) hcall hT x3 nd hk l1 l2).imp fun o en s' q => up (en := en) q
  · exact (deedD (k := k + 1) hcall hT x3 nd hk l1 l2).imp fun o en s' q => up (en := en) q
end
end K10
end
section
set_option Elab.async false
set_option linter.all false
set_option autoImplicit false
set_option maxRecDepth 100000
set_option maxHeartbeats 1000000
/-! k10: the law. -/
namespace K10
open Ab Lw
/-- the places of a house and of its table -/
structure Pc where
  h : Nat
  fi : Nat
  de : Nat
  t : Nat
  te : Nat
  tr : Nat
def Pc.l (p : Pc) : List Nat := [p.h, p.fi, p.de, p.t, p.te, p.tr]
/-- a house and its table are alike -/
def PS (s : Sto) (p : Pc) (n : Nat) : Prop := ∃ rf kvs rs, HA s p.h p.fi p.de rf kvs rs ∧ TA s p.t p.te p.tr rf kvs rs ∧ TbOk kvs ∧ kvs.length ≤ n ∧ rs.length ≤ n
theorem PS.frm {s s' : Sto} {p : Pc} {n m : Nat} {L : List Nat} (x : PS s p n) (f : Frm L s s') (hL : ∀ i ∈ p.l, i ∉ L) (hm : n ≤ m) : PS s' p m := by
  obtain ⟨rf, kvs, rs, h1, h2, h3, h4, h5⟩ := x
  exact ⟨rf, kvs, rs, h1.frm f (hL _ (by simp [Pc.l])) (hL _ (by simp [Pc.l])) (hL _ (by simp [Pc.l])), h2.frm f (hL _ (by simp [Pc.l])) (hL _ (by simp [Pc.l])) (hL _ (by simp [Pc.l])), h3, by omega, by omega⟩
def pls (b j : Nat) (p q : Pc) : List Nat := [b, j] ++ (p.l ++ q.l)
structure WS (s : Sto) (b j : Nat) (W : Val) (ws : List Txt) (p q : Pc) (n : Nat) : Prop where
  box : Box s b j
  wl : WL s W ws (pls b j p q)
  nd : (pls b j p q).Nodup
  p : PS s p n
  q : PS s q n
theorem WS.swap {s : Sto} {b j : Nat} {W : Val} {ws : List Txt} {p q : Pc} {n : Nat} (x : WS s b j W ws p q n) : WS s b j W ws q p n := by
  have pm : (pls b j p q).Perm (pls b j q p) := (List.Perm.append_left _ List.perm_append_comm)
  exact ⟨x.box, ⟨x.wl.at_, x.wl.len, fun l hl z => x.wl.far l hl (pm.mem_iff.mpr z)⟩, pm.nodup_iff.mp x.nd, x.q, x.p⟩
theorem WS.frm {s s' : Sto} {b j : Nat} {W : Val} {ws : List Txt} {p q : Pc} {n : Nat} (x : WS s b j W ws p q n) (b' : Box s' b j) (f : Frm [b, j] s s') : WS s' b j W ws p q n := by
  have nd := x.nd
  unfold pls at nd
  rw [List.nodup_append] at nd
  refine ⟨b', x.wl.frm f (by intro i hi; exact List.mem_append_left _ hi), x.nd, x.p.frm f (fun i hi z => nd.2.2 i z i (List.mem_append_left _ hi) rfl) (Nat.le_refl _), x.q.frm f (fun i hi z => nd.2.2 i z i (List.mem_append_right _ hi) rfl) (Nat.le_refl _)⟩
section
variable {s : Sto} {k : Nat}
theorem deed_p {b j : Nat} {W : Val} {ws : List Txt} {p q : Pc} {n : Nat} {wide : Int} (x : WS s b j W ws p q n) (hn : n < 40000) (hw : wide = 0 ∨ wide = 1) :
    Wp (callN tab (k + 4) 10 [.loc b, W, .loc p.h, .loc p.t, .int wide] s) fun v s' => v = .bl true ∧ WS s' b j W ws p q (n + 1) ∧ Frm (pls b j p q) s s' := by
  obtain ⟨rf, kvs, rs, h1, h2, h3, h4, h5⟩ := x.p
  have nd := x.nd
  have e : pls b j p q = [b, j, p.h, p.fi, p.de, p.t, p.te, p.tr] ++ q.l := rfl
  have nd1 := nd
  rw [e, List.nodup_append] at nd1
  have sd : StD s b j p.h p.fi p.de p.t p.te p.tr W ws rf kvs rs := ⟨x.box, ⟨x.wl.at_, x.wl.len, fun l hl z => x.wl.far l hl (by rw [e]; exact List.mem_append_left _ z)⟩, h1, h2⟩
  refine (deed_ok sd nd1.1 h3 (by omega) (by omega) hw).imp ?_
  rintro v s' ⟨rfl, rf', kvs', rs', g1, g2, g3, g4, f⟩
  have fa : Frm (pls b j p q) s s' := f.mono (by rw [e]; intro i hi; exact List.mem_append_left _ hi)
  refine ⟨rfl, ⟨g1.box, x.wl.frm fa (fun i hi => hi), nd, ⟨rf', kvs', rs', g1.ha, g1.ta, g2, by omega, by omega⟩, x.q.frm f (fun i hi z => nd1.2.2 i z i hi rfl) (by omega)⟩, fa⟩
theorem deed_q {b j : Nat} {W : Val} {ws : List Txt} {p q : Pc} {n : Nat} {wide : Int} (x : WS s b j W ws p q n) (hn : n < 40000) (hw : wide = 0 ∨ wide = 1) :
    Wp (callN tab (k + 4) 10 [.loc b, W, .loc q.h, .loc q.t, .int wide] s) fun v s' => v = .bl true ∧ WS s' b j W ws p q (n + 1) ∧ Frm (pls b j p q) s s' := by
  refine (deed_p x.swap hn hw).imp ?_
  rintro v s' ⟨h1, h2, h3⟩
  have pm : (pls b j q p).Perm (pls b j p q) := (List.Perm.append_left _ List.perm_append_comm)
  exact ⟨h1, h2.swap, h3.mono fun i hi => pm.mem_iff.mp hi⟩
theorem small_rows (rs : List Row) (n : Nat) (h : rs.length ≤ 1000000) : smallV (n + 3) (.lst (rowsV rs)) = true := by
  show (decide ((rowsV rs).length ≤ 1000000) && (rowsV rs).all (smallV (n + 2))) = true
  have : (rowsV rs).all (smallV (n + 2)) = true := List.all_eq_true.mpr fun d hd => by
    obtain ⟨r, _, rfl⟩ := List.mem_map.mp hd
    rfl
  rw [this]
  simp [rowsV]
  exact h
theorem holds_le (rs : List Row) : (holdsV rs).length ≤ rs.length := by
  unfold holdsV
  rw [List.length_map]
  exact List.length_filter_le ..
theorem small_holds (rs : List Row) (n : Nat) (h : rs.length ≤ 1000000) : smallV (n + 3) (.lst (holdsV rs)) = true := by
  show (decide ((holdsV rs).length ≤ 1000000) && (holdsV rs).all (smallV (n + 2))) = true
  have : (holdsV rs).all (smallV (n + 2)) = true := List.all_eq_true.mpr fun d hd => by
    obtain ⟨r, _, rfl⟩ := List.mem_map.mp hd
    rfl
  rw [this]
  have := holds_le rs
  simp
  omega
theorem res_holds (s : Sto) (n : Nat) (rs : List Row) : (holdsV rs).mapM (res s (n + 2)) = some (holdsV rs) := by
  unfold holdsV
  generalize rs.filter _ = xs
  induction xs with
  | nil => rfl
  | cons x xs ih =>
    rw [List.map_cons, List.mapM_cons, ih]
    rfl
/-- what was found is what is due -/
theorem found_ok {s : Sto} {k f1 f2 r : Nat} {rs : List Row} (h1 : s[f1]? = some (.list (rowsV rs))) (h2 : s[f2]? = some (.list (holdsV rs))) (h3 : s[r]? = some (.list (rowsV rs))) (hn : rs.length ≤ 1000000) :
    Wp (callN tab (k + 4) 8 [.lst [.loc f1, .loc f2], .lst [.loc r, .lst (holdsV rs)]] s) fun v s' => v = .bl true ∧ s' = s := by
  have e1 : ∀ l, s[l]? = some (.list (rowsV rs)) → res s 3 (.loc l) = some (.lst (rowsV rs)) := fun l h => by
    show (match s[l]? with | some (.list vs) => (vs.mapM (res s 2)).map Val.lst | _ => none) = _
    rw [h]
    show ((rowsV rs).mapM (res s 2)).map Val.lst = _
    rw [res_rows s 0]
    rfl
  have e2 : res s 3 (.loc f2) = some (.lst (holdsV rs)) := by
    show (match s[f2]? with | some (.list vs) => (vs.mapM (res s 2)).map Val.lst | _ => none) = _
    rw [h2]
    show ((holdsV rs).mapM (res s 2)).map Val.lst = _
    rw [res_holds s 0]
    rfl
  have e3 : res s 3 (.lst (holdsV rs)) = some (.lst (holdsV rs)) := by
    show ((holdsV rs).mapM (res s 2)).map Val.lst = _
    rw [res_holds s 0]
    rfl
  have two : ∀ x y, res s 3 x = some (.lst (rowsV rs)) → res s 3 y = some (.lst (holdsV rs)) → res s 4 (.lst [x, y]) = some (.lst [.lst (rowsV rs), .lst (holdsV rs)]) := fun x y hx hy => by
    show ([x, y].mapM (res s 3)).map Val.lst = _
    rw [List.mapM_cons, hx, List.mapM_cons, hy]
    rfl
  refine alike_ok rfl 4 k (d := .lst [.lst (rowsV rs), .lst (holdsV rs)]) (two _ _ (e1 _ h1) e2) (two _ _ (e1 _ h3) e3) ?_
  show (decide (2 ≤ 1000000) && (smallV 3 (.lst (rowsV rs)) && (smallV 3 (.lst (holdsV rs)) && true))) = true
  rw [small_rows rs 0 hn, small_holds rs 0 hn]
  rfl
/-- story and holds, as a house tells them -/
theorem tell_ok {C : Ctx} {en : Env} {e : Ex} {p : Pc} {rf : List Txt} {kvs : Tb} {rs : List Row} (hcall : C.call = callN tab (k + 1)) (hT : C.T = tab) (H : HA s p.h p.fi p.de rf kvs rs) (hn : rs.length ≤ 100000) (he : ∀ s, ev C e en s = some (.ok (.loc p.h), s)) :
    ev C (.lst false [(.meth 3 e []), (.meth 4 e [])]) en s = some (.ok (.lst [.loc s.length, .loc (s.length + 1)]), s ++ [.list (rowsV rs)] ++ [.list (holdsV rs)]) := by
  have m3 : C.T.meth 0 3 = some 4 := by rw [hT]; rfl
  have m4 : C.T.meth 0 4 = some 5 := by rw [hT]; rfl
  obtain ⟨v, s1, e1, rfl, rfl⟩ := story_ok (k := k) H
  have H1 : HA (s ++ [.list (rowsV rs)]) p.h p.fi p.de rf kvs rs := H.frm Frm.push (by simp) (by simp) (by simp)
  obtain ⟨v, s2, e2, rfl, rfl⟩ := holds_ok (k := k) H1 hn
  have a1 : ev C (.meth 3 e []) en s = some (.ok (.loc s.length), s ++ [.list (rowsV rs)]) := by
    simp only [ev, he, bnd, H.i, m3, evs, ok, hcall, e1]
  have a2 : ev C (.meth 4 e []) en (s ++ [.list (rowsV rs)]) = some (.ok (.loc (s ++ [SO.list (rowsV rs)]).length), s ++ [.list (rowsV rs)] ++ [.list (holdsV rs)]) := by
    simp only [ev, he, bnd, H1.i, m4, evs, ok, hcall, e2]
  rw [ev, evs, a1]
  simp only [bnd]
  rw [evs_one a2]
  simp only [bnd, ok, List.length_cons, List.length_nil, lim_le, Nat.reduceLeDiff, Nat.zero_add, Nat.reduceAdd, if_true, alloc, Bool.false_eq_true, if_false, lift, List.length_append]
/-- told once: found alike; what was told may be changed -/
theorem again_ok {C : Ctx} {en : Env} {p : Pc} {rf : List Txt} {kvs : Tb} {rs : List Row} {r : List Stm} {Q : SR → Env → Sto → Prop} (hcall : C.call = callN tab (k + 4)) (hT : C.T = tab) (H : HA s p.h p.fi p.de rf kvs rs) (hn : rs.length ≤ 50000) (he : ∀ v s, ev C (.item (.var 5) (.var 10)) (en.set 17 v) s = some (.ok (.loc p.h), s)) (he0 : ∀ s, ev C (.item (.var 5) (.var 10)) en s = some (.ok (.loc p.h), s)) {rr : Nat} (hl : en.length = 19)
    (hr : s[rr]? = some (.list (rowsV rs))) (g12 : en[12]? = some (some (.loc rr))) (g13 : en[13]? = some (some (.lst (holdsV rs)))) (q : ∀ v s', Frm [] s s' → WpS (execs C r (en.set 17 v) s') Q) :
    WpS (execs C ([(.asg (.name 17) (.lst false [(.meth 3 (.item (.var 5) (.var 10)) []), (.meth 4 (.item (.var 5) (.var 10)) [])])), (.ifS (.notE (.call 8 [(.var 17), (.lst false [(.var 12), (.var 13)])])) [(.ret (.cst (.bl false)))] []), (.expr (.bm .append (.item (.var 17) (.cst (.int 0))) [(.tup [(.cst (.str [100, 111, 110, 101])), (.cst (.int 9)), (.cst (.str [122]))])])), (.expr (.bm .clear (.item (.var 17) (.cst (.int 1))) []))] ++ r) en s) Q := by
  refine w_asg ⟨_, _, tell_ok (k := k + 3) hcall hT H (by omega) he0, ?_⟩
  show WpS (execs C _ (en.set 17 (some (.lst [.loc s.length, .loc (s.length + 1)]))) (s ++ [.list (rowsV rs)] ++ [.list (holdsV rs)])) Q
  have f1 : Frm [] s (s ++ [.list (rowsV rs)] ++ [.list (holdsV rs)]) := Frm.push.trans Frm.push
  have p1 : (s ++ [.list (rowsV rs)] ++ [.list (holdsV rs)])[s.length]? = some (.list (rowsV rs)) := by rw [List.getElem?_append_left (by simp)]; exact at_push
  have p2 : (s ++ [.list (rowsV rs)] ++ [.list (holdsV rs)])[s.length + 1]? = some (.list (holdsV rs)) := by
    have : s.length + 1 = (s ++ [SO.list (rowsV rs)]).length := by simp
    rw [this]
    exact at_push
  have r1 := f1.2 _ _ hr (by simp)
  generalize s ++ [.list (rowsV rs)] ++ [.list (holdsV rs)] = s1 at f1 p1 p2 r1 ⊢
  have g17 : (en.set 17 (some (.lst [.loc s.length, .loc (s.length + 1)])))[17]? = some (some (.lst [.loc s.length, .loc (s.length + 1)])) := List.getElem?_set_self (by omega)
  have g12' : (en.set 17 (some (.lst [.loc s.length, .loc (s.length + 1)])))[12]? = some (some (.loc rr)) := by rw [List.getElem?_set_ne (by decide)]; exact g12
  have g13' : (en.set 17 (some (.lst [.loc s.length, .loc (s.length + 1)])))[13]? = some (some (.lst (holdsV rs))) := by rw [List.getElem?_set_ne (by decide)]; exact g13
  have q' := q (some (.lst [.loc s.length, .loc (s.length + 1)]))
  generalize en.set 17 (some (.lst [.loc s.length, .loc (s.length + 1)])) = en1 at g17 g12' g13' q' ⊢
  obtain ⟨v, s2, e2, rfl, rfl⟩ := found_ok (k := k) p1 p2 r1 (by omega)
  have two : evs C [(.var 17), (.lst false [(.var 12), (.var 13)])] en1 s2 = some (.ok [.lst [.loc s.length, .loc (s.length + 1)], .lst [.loc rr, .lst (holdsV rs)]], s2) := by
    simp only [evs, ev, g17, g12', g13', bnd, ok, List.length_cons, List.length_nil, lim_le, Nat.reduceLeDiff, Nat.zero_add, Nat.reduceAdd, if_true, alloc, Bool.false_eq_true, if_false, lift]
  refine w_if ⟨.bl false, s2, ?_, false, rfl, fun z => (by cases z), fun _ => ?_⟩
  · rw [ev, ev, two]
    simp only [bnd, hcall, e2, Bool.not_true, ok]
  have nr : ∀ {l : Nat}, s.length ≤ l → ∀ s1, Frm [] s s1 → ∀ o, Frm [] s (s1.set l o) := fun {l} hl s1 f o => Frm.drop (l := l) ((f.mono (by simp)).trans (Frm.set (o := o) |>.mono (by simp))) hl
  have a0 : L2.atI [Val.loc s.length, .loc (s.length + 1)] 0 = some (.loc s.length) := rfl
  have a1 : L2.atI [Val.loc s.length, .loc (s.length + 1)] 1 = some (.loc (s.length + 1)) := rfl
  have lr : (rowsV rs).length < LIM := by simp only [rowsV, List.length_map]; exact of_eq_true (lim_lt (by omega))
  have ty : bmTy .append (.loc s.length) s2 = true := by simp [bmTy, lstOf, p1]
  have i0 : ev C (.item (.var 17) (.cst (.int 0))) en1 s2 = some (.ok (.loc s.length), s2) := by
    simp only [ev, g17, ok, bnd, pur, itemV, seqOf, lstOf, Option.bind_some, a0]
  have tp : ev C (.tup [(.cst (.str [100, 111, 110, 101])), (.cst (.int 9)), (.cst (.str [122]))]) en1 s2 = some (.ok (.tup [.str done, .int 9, .str [122]]), s2) := by
    simp only [ev, evs, evo, evc, evi, bnd, ok, pur, lift, List.map_cons, List.map_nil, List.cons_append, List.nil_append, List.getElem?_cons_zero, List.getElem?_cons_succ, List.set_cons_zero, List.set_cons_succ, List.replicate_succ, List.replicate_zero, Nat.reduceSub, itemV, seqOf, lstOf, Option.bind_some, Option.bind_none, cmpV, binV, biV, bmV, bmTy, alloc, Option.map_some, Option.map_none, Bool.false_eq_true, if_false, if_true, optI, walkV, List.length_cons, List.length_nil, lim_le, lim_lt, Nat.zero_add, Nat.reduceAdd, Nat.reduceLeDiff, Nat.zero_le, Nat.reduceLT, Option.isSome_some]
    rfl
  refine w_expr ⟨.non, s2.set s.length (.list (rowsV rs ++ [.tup [.str done, .int 9, .str [122]]])), ev_bm1 i0 ty tp (by simp only [bmV, p1, lr, if_true]), ?_⟩
  have f3 := nr (Nat.le_refl _) s2 f1 (.list (rowsV rs ++ [.tup [.str done, .int 9, .str [122]]]))
  have p3 : (s2.set s.length (.list (rowsV rs ++ [.tup [.str done, .int 9, .str [122]]])))[s.length + 1]? = some (.list (holdsV rs)) := by
    rw [List.getElem?_set_ne (by omega)]
    exact p2
  show WpS (execs C _ en1 (s2.set s.length (.list (rowsV rs ++ [.tup [.str done, .int 9, .str [122]]])))) Q
  generalize s2.set s.length (.list (rowsV rs ++ [.tup [.str done, .int 9, .str [122]]])) = s3 at f3 p3 ⊢
  have ty2 : bmTy .clear (.loc (s.length + 1)) s3 = true := by simp [bmTy, lstOf, p3]
  have i1 : ev C (.item (.var 17) (.cst (.int 1))) en1 s3 = some (.ok (.loc (s.length + 1)), s3) := by
    simp only [ev, g17, ok, bnd, pur, itemV, seqOf, lstOf, Option.bind_some, a1]
  refine w_expr ⟨.non, s3.set (s.length + 1) (.list []), ?_, q' _ (nr (by omega) s3 f3 _)⟩
  rw [ev, i1]
  simp only [bnd, ty2, if_true, evs, ok, bmV, p3, lift]
/-- one house is asked twice, against its table -/
theorem asked_ok {C : Ctx} {p : Pc} {n : Nat} {i : Nat} {o0 o1 o2 o3 o4 o7 o8 o9 o11 o12 o13 o14 o15 o16 o17 o18 : Option Val} {hs ts : List Val} {r : List Stm} {Q : SR → Env → Sto → Prop} (hcall : C.call = callN tab (k + 4)) (hT : C.T = tab) (x : PS s p n) (hn : n ≤ 50000) (h5 : hs[i]? = some (.loc p.h)) (h6 : ts[i]? = some (.loc p.t))
    (q : ∀ u12 u13 u14 u17 u18 s', Frm [] s s' → WpS (execs C r [o0, o1, o2, o3, o4, some (.lst hs), some (.lst ts), o7, o8, o9, some (.int (i : Nat)), o11, u12, u13, u14, o15, o16, u17, u18] s') Q) :
    WpS (execs C ([(.asg (.name 12) (.item (.item (.var 6) (.var 10)) (.cst (.int 1)))), (.asg (.name 13) (.comp false (.slice false (.var 18) (some (.cst (.int 1))) none) (.name 18) (.val (.var 12)) (some (.andE (.cmp .eq (.item (.var 18) (.cst (.int 0))) (.cst (.str [100, 111, 110, 101]))) (.cmp .notin (.bin .add false (.tup [(.cst (.str [98, 97, 99, 107, 101, 100]))]) (.slice false (.var 18) (some (.cst (.int 1))) none)) (.var 12)))) [18])), (.forS (.name 14) (.rng1 (.cst (.int 2))) [(.asg (.name 17) (.lst false [(.meth 3 (.item (.var 5) (.var 10)) []), (.meth 4 (.item (.var 5) (.var 10)) [])])), (.ifS (.notE (.call 8 [(.var 17), (.lst false [(.var 12), (.var 13)])])) [(.ret (.cst (.bl false)))] []), (.expr (.bm .append (.item (.var 17) (.cst (.int 0))) [(.tup [(.cst (.str [100, 111, 110, 101])), (.cst (.int 9)), (.cst (.str [122]))])])), (.expr (.bm .clear (.item (.var 17) (.cst (.int 1))) []))])] ++ r)
      [o0, o1, o2, o3, o4, some (.lst hs), some (.lst ts), o7, o8, o9, some (.int (i : Nat)), o11, o12, o13, o14, o15, o16, o17, o18] s) Q := by
  obtain ⟨rf, kvs, rs, H, A, hk, l1, l2⟩ := x
  have it : L2.atI [Val.loc p.te, .loc p.tr, .lst (rf.map .str)] 1 = some (.loc p.tr) := rfl
  refine w_asg ⟨.loc p.tr, s, ?_, ?_⟩
  · simp only [ev, List.getElem?_cons_succ, List.getElem?_cons_zero, ok, bnd, pur, itemV, seqOf, lstOf, Option.bind_some, atI_of h6, A.i, it]
  refine w_asg ?_
  refine holds_go (l := p.tr) (by simp only [ev, List.set_cons_succ, List.set_cons_zero, List.getElem?_cons_succ, List.getElem?_cons_zero, ok]) A.d (by omega) (by simp) (fun x => by simp only [ev, wipe, List.set_cons_succ, List.set_cons_zero, List.getElem?_cons_succ, List.getElem?_cons_zero, ok]) ?_
  show WpS (execs C _ [o0, o1, o2, o3, o4, some (.lst hs), some (.lst ts), o7, o8, o9, some (.int (i : Nat)), o11, some (.loc p.tr), some (.lst (holdsV rs)), o14, o15, o16, o17, o18] s) Q
  refine w_forE (fun _ en s' => Frm [] s s' ∧ ∃ u14 u17 : Option Val, en = [o0, o1, o2, o3, o4, some (.lst hs), some (.lst ts), o7, o8, o9, some (.int (i : Nat)), o11, some (.loc p.tr), some (.lst (holdsV rs)), u14, o15, o16, u17, o18]) (w := (rngV 0 2, none)) (s1 := s) (by simp only [ev, evs, evo, evc, evi, bnd, ok, pur, lift, List.map_cons, List.map_nil, List.cons_append, List.nil_append, List.getElem?_cons_zero, List.getElem?_cons_succ, List.set_cons_zero, List.set_cons_succ, List.replicate_succ, List.replicate_zero, Nat.reduceSub, itemV, seqOf, lstOf, Option.bind_some, Option.bind_none, cmpV, binV, biV, bmV, bmTy, alloc, Option.map_some, Option.map_none, Bool.false_eq_true, if_false, if_true, optI, walkV, List.length_cons, List.length_nil, lim_le, lim_lt, Nat.zero_add, Nat.reduceAdd, Nat.reduceLeDiff, Nat.zero_le, Nat.reduceLT, Option.isSome_some]; rfl) ⟨Frm.refl _ _, _, _, rfl⟩ (fun _ _ _ _ => rfl) ?_ ?_
  · rintro m v en s' hv ⟨f, u14, u17, rfl⟩
    refine ⟨_, rfl, ?_⟩
    have he : ∀ (v14 v17 : Option Val) (s : Sto), ev C (.item (.var 5) (.var 10)) [o0, o1, o2, o3, o4, some (.lst hs), some (.lst ts), o7, o8, o9, some (.int (i : Nat)), o11, some (.loc p.tr), some (.lst (holdsV rs)), v14, o15, o16, v17, o18] s = some (.ok (.loc p.h), s) := fun v14 v17 s => by
      simp only [ev, List.getElem?_cons_succ, List.getElem?_cons_zero, ok, bnd, pur, itemV, seqOf, lstOf, Option.bind_some, atI_of h5]
    exact again_ok (k := k) (r := []) (p := p) (rf := rf) (kvs := kvs) (rs := rs) hcall hT (H.frm f (by simp) (by simp) (by simp)) (by omega) (fun v s => he _ v s) (fun s => he _ _ s) rfl (f.2 _ _ A.d (by simp)) rfl rfl fun v s2 f2 => w_nil ⟨f.trans f2, _, v, rfl⟩
  · rintro en s' ⟨f, u14, u17, rfl⟩
    exact q _ _ _ _ _ s' f
theorem doK_old {rf : List Txt} {kvs : Tb} {n : Int} {w : Txt} {v : Val} {sure : Bool} (h : dget kvs (key n w) = some v) : doK rf kvs n w sure = kvs := by simp only [doK, h]
theorem doR_old {rf : List Txt} {kvs : Tb} {rs : List Row} {n : Int} {w : Txt} {v : Val} {sure : Bool} (h : dget kvs (key n w) = some v) : doR rf kvs rs n w sure = rs := by simp only [doR, h]
theorem dget_at {κ : Type} [DecidableEq κ] {kvs : List (κ × Val)} {p : κ × Val} (nd : (kvs.map (·.1)).Nodup) (h : p ∈ kvs) : dget kvs p.1 = some p.2 := by
  induction kvs with
  | nil => cases h
  | cons q r ih =>
    obtain ⟨n1, n2⟩ := List.nodup_cons.mp nd
    unfold dget
    rcases List.mem_cons.mp h with rfl | h
    · rw [if_pos rfl]
    · rw [if_neg fun z => n1 (List.mem_map.mpr ⟨p, h, z.symm⟩)]
      exact ih n2 h
/-- what is told of each step asked ahead, at the end -/
theorem end_one {C : Ctx} {p : Pc} {n : Nat} {i : Nat} {o0 o1 o2 o3 o4 o7 o8 o9 o11 o12 o13 o14 o15 o16 o17 o18 : Option Val} {hs ts : List Val} {r : List Stm} {Q : SR → Env → Sto → Prop} (hcall : C.call = callN tab (k + 2)) (hT : C.T = tab) (x : PS s p n) (ndp : p.l.Nodup) (hn : n ≤ 50000) (h5 : hs[i]? = some (.loc p.h)) (h6 : ts[i]? = some (.loc p.t))
    (q : ∀ u15 u16 s', Frm p.l s s' → PS s' p n → WpS (execs C r [o0, o1, o2, o3, o4, some (.lst hs), some (.lst ts), o7, o8, o9, some (.int (i : Nat)), o11, o12, o13, o14, u15, u16, o17, o18] s') Q) :
    WpS (execs C (.forK (.names [15, 16]) (.item (.item (.var 6) (.var 10)) (.cst (.int 0))) [(.ifS (.notE (.call 8 [(.methD 1 (.item (.var 5) (.var 10)) [(.var 15), (.var 16)]), (.item (.item (.item (.var 6) (.var 10)) (.cst (.int 0))) (.tup [(.var 15), (.var 16)]))])) [(.ret (.cst (.bl false)))] [])] :: r)
      [o0, o1, o2, o3, o4, some (.lst hs), some (.lst ts), o7, o8, o9, some (.int (i : Nat)), o11, o12, o13, o14, o15, o16, o17, o18] s) Q := by
  obtain ⟨rf, kvs, rs, H, A, hk, l1, l2⟩ := x
  simp only [Pc.l, List.nodup_cons, List.mem_cons, not_or, List.not_mem_nil, not_false_eq_true, and_true, List.nodup_nil] at ndp
  obtain ⟨⟨d1, d2, d3, d4, d5⟩, ⟨g1, g2, g3, g4⟩, ⟨i1, i2, i3⟩, ⟨k1, k2⟩, m1⟩ := ndp
  have it : L2.atI [Val.loc p.te, .loc p.tr, .lst (rf.map .str)] 0 = some (.loc p.te) := rfl
  have et : ∀ (v15 v16 : Option Val) (s' : Sto), s'[p.t]? = some (.list [.loc p.te, .loc p.tr, .lst (rf.map .str)]) → ev C (.item (.item (.var 6) (.var 10)) (.cst (.int 0))) [o0, o1, o2, o3, o4, some (.lst hs), some (.lst ts), o7, o8, o9, some (.int (i : Nat)), o11, o12, o13, o14, v15, v16, o17, o18] s' = some (.ok (.loc p.te), s') := fun v15 v16 s' ht => by
    simp only [ev, List.getElem?_cons_succ, List.getElem?_cons_zero, ok, bnd, pur, itemV, seqOf, lstOf, Option.bind_some, atI_of h6, ht, it]
  have f0 : Frm [p.te] s (s.set p.te (.dTf kvs)) := Frm.set
  have t0 := f0.2 _ _ A.i (by simp; exact k1)
  have r0 := f0.2 _ _ A.d (by simp; exact fun z => m1 z.symm)
  have e0 : (s.set p.te (.dTf kvs))[p.te]? = some (.dTf kvs) := at_set A.f
  have H0 := H.frm f0 (by simp; exact d4) (by simp; exact g3) (by simp; exact i2)
  refine w_forK (l := p.te) (kvs := kvs) (fun _ en s' => Frm [p.fi, p.de] (s.set p.te (.dTf kvs)) s' ∧ HA s' p.h p.fi p.de rf kvs rs ∧ ∃ u15 u16 : Option Val, en = [o0, o1, o2, o3, o4, some (.lst hs), some (.lst ts), o7, o8, o9, some (.int (i : Nat)), o11, o12, o13, o14, u15, u16, o17, o18]) (et _ _ _ A.i) A.f (et _ _ _ t0) ⟨Frm.refl _ _, H0, _, _, rfl⟩ ?_ ?_
  · rintro m pr en s' hp ⟨f, H1, u15, u16, rfl⟩
    obtain ⟨⟨nn, w, hkey⟩, y, hy⟩ := hk.2 pr (List.mem_of_getElem? hp)
    have dg : dget kvs (key nn w) = some (.str y) := by
      have := dget_at hk.1 (List.mem_of_getElem? hp)
      rw [hkey, hy] at this
      exact this
    refine ⟨[o0, o1, o2, o3, o4, some (.lst hs), some (.lst ts), o7, o8, o9, some (.int (i : Nat)), o11, o12, o13, o14, some (.int nn), some (.str w), o17, o18], by rw [hkey]; rfl, ?_⟩
    have t1 := f.2 _ _ t0 (by simp; exact ⟨fun z => g2 z.symm, fun z => i1 z.symm⟩)
    have eh : ev C (.item (.var 5) (.var 10)) [o0, o1, o2, o3, o4, some (.lst hs), some (.lst ts), o7, o8, o9, some (.int (i : Nat)), o11, o12, o13, o14, some (.int nn), some (.str w), o17, o18] s' = some (.ok (.loc p.h), s') := by
      simp only [ev, List.getElem?_cons_succ, List.getElem?_cons_zero, ok, bnd, pur, itemV, seqOf, lstOf, Option.bind_some, atI_of h5]
    obtain ⟨v, s2, e2, H2, hv, f2, _⟩ := do_ok (k := k + 1) (n := nn) (w := w) (sure := false) H1 hk (by omega) (by omega)
    rw [doK_old dg] at H2 hv
    rw [doR_old dg] at H2
    rw [dg] at hv
    cases hv
    have fs := f.trans f2
    have t2 := fs.2 _ _ t0 (by simp; exact ⟨fun z => g2 z.symm, fun z => i1 z.symm⟩)
    have e3 := fs.2 _ _ e0 (by simp; exact ⟨fun z => g3 z.symm, fun z => i2 z.symm⟩)
    obtain ⟨v, s3, e4, rfl, rfl⟩ := alike_str (s := s2) (x := y) k
    have mt : C.T.meth 0 1 = some 2 := by rw [hT]; rfl
    have em : ev C (.methD 1 (.item (.var 5) (.var 10)) [(.var 15), (.var 16)]) [o0, o1, o2, o3, o4, some (.lst hs), some (.lst ts), o7, o8, o9, some (.int (i : Nat)), o11, o12, o13, o14, some (.int nn), some (.str w), o17, o18] s' = some (.ok (.str y), s3) := by
      rw [ev, eh]
      simp only [bnd, H1.i, mt, evs, ev, List.getElem?_cons_succ, List.getElem?_cons_zero, ok, hcall, List.cons_append, List.nil_append]
      exact e2
    have ei : ev C (.item (.item (.item (.var 6) (.var 10)) (.cst (.int 0))) (.tup [(.var 15), (.var 16)])) [o0, o1, o2, o3, o4, some (.lst hs), some (.lst ts), o7, o8, o9, some (.int (i : Nat)), o11, o12, o13, o14, some (.int nn), some (.str w), o17, o18] s3 = some (.ok (.str y), s3) := by
      rw [ev, et _ _ _ t2]
      simp only [bnd, ev, evs, List.getElem?_cons_succ, List.getElem?_cons_zero, ok, List.length_cons, List.length_nil, lim_le, Nat.reduceLeDiff, Nat.zero_add, Nat.reduceAdd, if_true]
      have : itemV (.loc p.te) (.tup [.int nn, .str w]) s3 = some (.str y) := by
        show (dlook s3 (.loc p.te) (.tup [.int nn, .str w])).bind id = _
        simp only [dlook, e3, keyOf, Option.map_some]
        exact dg
      simp only [this, pur, ok]
    refine w_if ⟨.bl false, s3, ?_, false, rfl, fun z => (by cases z), fun _ => w_nil ⟨fs, H2, _, _, rfl⟩⟩
    rw [ev, ev, evs, em]
    simp only [bnd]
    rw [evs_one ei]
    simp only [bnd, ok, hcall, e4, Bool.not_true]
  · rintro en s' ⟨f, H1, u15, u16, rfl⟩
    have e3 := f.2 _ _ e0 (by simp; exact ⟨fun z => g3 z.symm, fun z => i2 z.symm⟩)
    refine ⟨e3, q u15 u16 _ ?_ ?_⟩
    · refine ((f0.mono ?_).trans (f.mono ?_)).trans (Frm.set.mono ?_) <;> simp [Pc.l]
    · have t2 := f.2 _ _ t0 (by simp; exact ⟨fun z => g2 z.symm, fun z => i1 z.symm⟩)
      have r2 := f.2 _ _ r0 (by simp; exact ⟨fun z => g4 z.symm, fun z => i3 z.symm⟩)
      have f3 : Frm [p.te] s' (s'.set p.te (.dT kvs)) := Frm.set
      exact ⟨rf, kvs, rs, H1.frm f3 (by simp; exact d4) (by simp; exact g3) (by simp; exact i2), ⟨f3.2 _ _ t2 (by simp; exact k1), at_set e3, f3.2 _ _ r2 (by simp; exact fun z => m1 z.symm)⟩, hk, l1, l2⟩
end
end K10
end
section
set_option Elab.async false
set_option linter.all false
set_option autoImplicit false
set_option maxRecDepth 100000
set_option maxHeartbeats 1000000
/-! k10: the law's run. -/
namespace K10
open Ab Lw
section
variable {s : Sto} {k : Nat}
theorem lst_frm {s s' : Sto} {x : Val} {vs : List Val} (h : lstOf s x = some vs) (f : Frm [] s s') : lstOf s' x = some vs := by
  cases x with
  | lst _ => exact h
  | loc l =>
    simp only [lstOf] at h ⊢
    cases e : s[l]? with
    | none => simp [e] at h
    | some o =>
      rw [e] at h
      rw [f.2 _ _ e (by simp)]
      exact h
  | _ => cases h
/-- a house more -/
theorem mk_ok {C : Ctx} {en : Env} {e : Ex} {x : Val} {rf : List Txt} {s' : Sto} (hinit : C.init = callN tab (k + 1)) (hT : C.T = tab) (he : ev C e en s = some (.ok x, s')) (hx : lstOf s' x = some (rf.map .str)) :
    ∃ s2, ev C (.mk 0 [e]) en s = some (.ok (.loc s'.length), s2) ∧ HA s2 s'.length (s'.length + 1) (s'.length + 2) rf [] [] ∧ Frm [] s' s2 ∧ s2.length = s'.length + 3 := by
  have hh : (s' ++ [SO.inst 0 []])[s'.length]? = some (.inst 0 []) := at_push
  have ll : (s' ++ [SO.inst 0 []]).length = s'.length + 1 := by simp
  obtain ⟨v, s2, e2, rfl, H, f, hl⟩ := init_ok (k := k) (lst_frm hx (Frm.push (o := .inst 0 []))) hh
  rw [ll] at H hl
  refine ⟨s2, ?_, H, ?_, hl⟩
  · have i0 : C.T.init 0 = 0 := by rw [hT]; rfl
    rw [ev, evs_one' he]
    simp only [bnd, hinit, i0, e2, ok]
  · exact Frm.drop (l := s'.length) ((Frm.push.mono (by simp)).trans f) (Nat.le_refl _)
where
  evs_one' {C : Ctx} {en : Env} {e : Ex} {v : Val} {s s' : Sto} (h : ev C e en s = some (.ok v, s')) : evs C [e] en s = some (.ok [v], s') := by
    simp only [evs, h, bnd, ok]
theorem WS.still {s s' : Sto} {b j : Nat} {W : Val} {ws : List Txt} {p q : Pc} {n : Nat} (x : WS s b j W ws p q n) (f : Frm [] s s') : WS s' b j W ws p q n :=
  x.frm (x.box.frm f (by simp) (by simp)) (f.mono (by simp))
theorem WS.two {b j : Nat} {W : Val} {ws : List Txt} {p q : Pc} {n : Nat} (x : WS s b j W ws p q n) {s' : Sto} (f : Frm p.l s s') (P : PS s' p n) : PS s' p n ∧ PS s' q n := by
  have nd := x.nd
  unfold pls at nd
  rw [List.nodup_append] at nd
  have nd2 := nd.2.1
  rw [List.nodup_append] at nd2
  exact ⟨P, x.q.frm f (fun i hi z => nd2.2.2 i z i hi rfl) (Nat.le_refl _)⟩
/-- a turn of the law -/
theorem turn_ok {C : Ctx} {b j : Nat} {W : Val} {ws : List Txt} {p q : Pc} {n : Nat} {wide many t : Int} {o0 o3 o4 o10 o11 o12 o13 o14 o15 o16 o17 o18 : Option Val} {Q : SR → Env → Sto → Prop} (hcall : C.call = callN tab (k + 4)) (hT : C.T = tab) (x : WS s b j W ws p q n) (hn : n < 40000) (hw : wide = 0 ∨ wide = 1)
    (q' : ∀ u10 u11 u12 u13 u14 u17 u18 s', WS s' b j W ws p q (n + 1) → Q .next [o0, some (.loc b), some W, o3, o4, some (.lst [.loc p.h, .loc q.h]), some (.lst [.loc p.t, .loc q.t]), some (.int wide), some (.int many), some (.int t), u10, u11, u12, u13, u14, o15, o16, u17, u18] s') :
    WpS (execs C [(.asg (.name 11) (.bi .int false [(.cmp .eq (.call 7 [(.var 1), (.cst (.int 3))]) (.cst (.int 1)))])), (.ifS (.notE (.call 10 [(.var 1), (.var 2), (.item (.var 5) (.var 11)), (.item (.var 6) (.var 11)), (.var 7)])) [(.ret (.cst (.bl false)))] []), (.forS (.name 10) (.rng1 (.bin .mul false (.cst (.int 2)) (.bi .int false [(.orE (.cmp .eq (.var 7) (.cst (.int 0))) (.orE (.cmp .eq (.bin .mod false (.var 9) (.cst (.int 20))) (.cst (.int 19))) (.cmp .eq (.var 9) (.bin .sub false (.var 8) (.cst (.int 1))))))]))) [(.asg (.name 12) (.item (.item (.var 6) (.var 10)) (.cst (.int 1)))), (.asg (.name 13) (.comp false (.slice false (.var 18) (some (.cst (.int 1))) none) (.name 18) (.val (.var 12)) (some (.andE (.cmp .eq (.item (.var 18) (.cst (.int 0))) (.cst (.str [100, 111, 110, 101]))) (.cmp .notin (.bin .add false (.tup [(.cst (.str [98, 97, 99, 107, 101, 100]))]) (.slice false (.var 18) (some (.cst (.int 1))) none)) (.var 12)))) [18])), (.forS (.name 14) (.rng1 (.cst (.int 2))) [(.asg (.name 17) (.lst false [(.meth 3 (.item (.var 5) (.var 10)) []), (.meth 4 (.item (.var 5) (.var 10)) [])])), (.ifS (.notE (.call 8 [(.var 17), (.lst false [(.var 12), (.var 13)])])) [(.ret (.cst (.bl false)))] []), (.expr (.bm .append (.item (.var 17) (.cst (.int 0))) [(.tup [(.cst (.str [100, 111, 110, 101])), (.cst (.int 9)), (.cst (.str [122]))])])), (.expr (.bm .clear (.item (.var 17) (.cst (.int 1))) []))])])]
      [o0, some (.loc b), some W, o3, o4, some (.lst [.loc p.h, .loc q.h]), some (.lst [.loc p.t, .loc q.t]), some (.int wide), some (.int many), some (.int t), o10, o11, o12, o13, o14, o15, o16, o17, o18] s) Q := by
  have i0 : L2.atI [Val.loc p.h, .loc q.h] 0 = some (.loc p.h) := rfl
  have i1 : L2.atI [Val.loc p.h, .loc q.h] 1 = some (.loc q.h) := rfl
  have j0 : L2.atI [Val.loc p.t, .loc q.t] 0 = some (.loc p.t) := rfl
  have j1 : L2.atI [Val.loc p.t, .loc q.t] 1 = some (.loc q.t) := rfl
  refine w_asg ?_
  have step : Wp (ev C (.bi .int false [(.cmp .eq (.call 7 [(.var 1), (.cst (.int 3))]) (.cst (.int 1)))]) [o0, some (.loc b), some W, o3, o4, some (.lst [.loc p.h, .loc q.h]), some (.lst [.loc p.t, .loc q.t]), some (.int wide), some (.int many), some (.int t), o10, o11, o12, o13, o14, o15, o16, o17, o18] s) fun v s' => (v = .int 0 ∨ v = .int 1) ∧ WS s' b j W ws p q n := by
    simp only [ev, evs, wp_bnd, wp_ok, List.getElem?_cons_succ, List.getElem?_cons_zero, hcall]
    refine (tk (k := k + 3) (many := 3) x.box (by decide) (by decide)).imp ?_
    rintro v s1 ⟨r, rfl, _, _, b1, f1, _⟩
    refine wp_pur.mpr ⟨.bl (r == 1), by simp only [cmpV, eq_ints, Option.map_some], ?_⟩
    refine wp_lift.mpr ⟨_, _, rfl, ?_, x.frm b1 f1⟩
    cases r == 1
    · exact .inl rfl
    · exact .inr rfl
  refine step.imp ?_
  rintro v s1 ⟨hv, x1⟩
  -- the deed
  have deed : Wp (ev C (.call 10 [(.var 1), (.var 2), (.item (.var 5) (.var 11)), (.item (.var 6) (.var 11)), (.var 7)]) [o0, some (.loc b), some W, o3, o4, some (.lst [.loc p.h, .loc q.h]), some (.lst [.loc p.t, .loc q.t]), some (.int wide), some (.int many), some (.int t), o10, some v, o12, o13, o14, o15, o16, o17, o18] s1) fun v s' => v = .bl true ∧ WS s' b j W ws p q (n + 1) := by
    rcases hv with rfl | rfl
    · simp only [ev, evs, wp_bnd, wp_ok, wp_pur, List.getElem?_cons_succ, List.getElem?_cons_zero, itemV, seqOf, lstOf, Option.bind_some, i0, j0, Option.some.injEq, exists_eq_left', hcall]
      exact (deed_p x1 hn hw).imp fun v s' h => ⟨h.1, h.2.1⟩
    · simp only [ev, evs, wp_bnd, wp_ok, wp_pur, List.getElem?_cons_succ, List.getElem?_cons_zero, itemV, seqOf, lstOf, Option.bind_some, i1, j1, Option.some.injEq, exists_eq_left', hcall]
      exact (deed_q x1 hn hw).imp fun v s' h => ⟨h.1, h.2.1⟩
  obtain ⟨vt, s2, e2, rfl, x2⟩ := deed
  refine w_if ⟨.bl false, s2, ?_, false, rfl, fun z => (by cases z), fun _ => ?_⟩
  · show ev C _ [o0, some (.loc b), some W, o3, o4, some (.lst [.loc p.h, .loc q.h]), some (.lst [.loc p.t, .loc q.t]), some (.int wide), some (.int many), some (.int t), o10, some v, o12, o13, o14, o15, o16, o17, o18] s1 = _
    rw [ev, e2]
    rfl
  show WpS (execs C _ [o0, some (.loc b), some W, o3, o4, some (.lst [.loc p.h, .loc q.h]), some (.lst [.loc p.t, .loc q.t]), some (.int wide), some (.int many), some (.int t), o10, some v, o12, o13, o14, o15, o16, o17, o18] s2) Q
  -- how often both are asked
  have rng : ∃ m : Nat, m ≤ 2 ∧ evi C (.rng1 (.bin .mul false (.cst (.int 2)) (.bi .int false [(.orE (.cmp .eq (.var 7) (.cst (.int 0))) (.orE (.cmp .eq (.bin .mod false (.var 9) (.cst (.int 20))) (.cst (.int 19))) (.cmp .eq (.var 9) (.bin .sub false (.var 8) (.cst (.int 1))))))]))) [o0, some (.loc b), some W, o3, o4, some (.lst [.loc p.h, .loc q.h]), some (.lst [.loc p.t, .loc q.t]), some (.int wide), some (.int many), some (.int t), o10, some v, o12, o13, o14, o15, o16, o17, o18] s2 = some (.ok (rngV 0 m, none), s2) := by
    have b1 : ∃ c : Bool, ev C (.orE (.cmp .eq (.var 7) (.cst (.int 0))) (.orE (.cmp .eq (.bin .mod false (.var 9) (.cst (.int 20))) (.cst (.int 19))) (.cmp .eq (.var 9) (.bin .sub false (.var 8) (.cst (.int 1)))))) [o0, some (.loc b), some W, o3, o4, some (.lst [.loc p.h, .loc q.h]), some (.lst [.loc p.t, .loc q.t]), some (.int wide), some (.int many), some (.int t), o10, some v, o12, o13, o14, o15, o16, o17, o18] s2 = some (.ok (.bl c), s2) := by
      have p20 : (0 : Int) < 20 := by decide
      simp only [ev, evs, evo, evc, evi, bnd, ok, pur, lift, List.map_cons, List.map_nil, List.cons_append, List.nil_append, List.getElem?_cons_zero, List.getElem?_cons_succ, List.set_cons_zero, List.set_cons_succ, List.replicate_succ, List.replicate_zero, Nat.reduceSub, itemV, seqOf, lstOf, Option.bind_some, Option.bind_none, cmpV, binV, biV, bmV, bmTy, alloc, Option.map_some, Option.map_none, Bool.false_eq_true, if_false, if_true, optI, walkV, List.length_cons, List.length_nil, lim_le, lim_lt, Nat.zero_add, Nat.reduceAdd, Nat.reduceLeDiff, Nat.zero_le, Nat.reduceLT, Option.isSome_some, eq_ints, if_pos p20]
      cases wide == 0 with
      | true => exact ⟨true, rfl⟩
      | false =>
        simp only [ev, evs, evo, evc, evi, bnd, ok, pur, lift, List.map_cons, List.map_nil, List.cons_append, List.nil_append, List.getElem?_cons_zero, List.getElem?_cons_succ, List.set_cons_zero, List.set_cons_succ, List.replicate_succ, List.replicate_zero, Nat.reduceSub, itemV, seqOf, lstOf, Option.bind_some, Option.bind_none, cmpV, binV, biV, bmV, bmTy, alloc, Option.map_some, Option.map_none, Bool.false_eq_true, if_false, if_true, optI, walkV, List.length_cons, List.length_nil, lim_le, lim_lt, Nat.zero_add, Nat.reduceAdd, Nat.reduceLeDiff, Nat.zero_le, Nat.reduceLT, Option.isSome_some, eq_ints, if_pos p20]
        cases t % 20 == 19 with
        | true => exact ⟨true, rfl⟩
        | false =>
          simp only [ev, evs, evo, evc, evi, bnd, ok, pur, lift, List.map_cons, List.map_nil, List.cons_append, List.nil_append, List.getElem?_cons_zero, List.getElem?_cons_succ, List.set_cons_zero, List.set_cons_succ, List.replicate_succ, List.replicate_zero, Nat.reduceSub, itemV, seqOf, lstOf, Option.bind_some, Option.bind_none, cmpV, binV, biV, bmV, bmTy, alloc, Option.map_some, Option.map_none, Bool.false_eq_true, if_false, if_true, optI, walkV, List.length_cons, List.length_nil, lim_le, lim_lt, Nat.zero_add, Nat.reduceAdd, Nat.reduceLeDiff, Nat.zero_le, Nat.reduceLT, Option.isSome_some, eq_ints]
          exact ⟨_, rfl⟩
    obtain ⟨c, ec⟩ := b1
    have z0 : ∀ c : Bool, mulOk 2 (if c = true then 1 else 0) = true := fun c => mulOk_r (by cases c <;> decide)
    have z1 : ∀ c : Bool, rngOk 0 (2 * (if c = true then 1 else 0)) = true := fun c => by cases c <;> decide
    refine ⟨if c = true then 2 else 0, by split <;> omega, ?_⟩
    rw [evi, ev, ev]
    simp only [bnd, ok]
    rw [ev_bi1 (m := false) (b := .int) ec rfl]
    simp only [bnd, binV, z0, if_true, lift, ok, z1]
    cases c <;> rfl
  obtain ⟨m, hm, em⟩ := rng
  refine w_forE (fun _ en s' => WS s' b j W ws p q (n + 1) ∧ ∃ u10 u12 u13 u14 u17 u18 : Option Val, en = [o0, some (.loc b), some W, o3, o4, some (.lst [.loc p.h, .loc q.h]), some (.lst [.loc p.t, .loc q.t]), some (.int wide), some (.int many), some (.int t), u10, some v, u12, u13, u14, o15, o16, u17, u18]) em ⟨x2, _, _, _, _, _, _, rfl⟩ (fun _ _ _ _ => rfl) ?_ ?_
  · rintro i v1 en s3 hv1 ⟨x3, u10, u12, u13, u14, u17, u18, rfl⟩
    obtain ⟨rfl, hi⟩ := rng_at hv1
    refine ⟨_, rfl, ?_⟩
    have hi2 : i = 0 ∨ i = 1 := by omega
    rcases hi2 with rfl | rfl
    · exact asked_ok (k := k) (r := []) (p := p) (n := n + 1) hcall hT x3.p (by omega) rfl rfl fun u12 u13 u14 u17 u18 s' f => w_nil ⟨x3.still f, _, _, _, _, _, _, rfl⟩
    · exact asked_ok (k := k) (r := []) (p := q) (n := n + 1) hcall hT x3.q (by omega) rfl rfl fun u12 u13 u14 u17 u18 s' f => w_nil ⟨x3.still f, _, _, _, _, _, _, rfl⟩
  · rintro en s3 ⟨x3, u10, u12, u13, u14, u17, u18, rfl⟩
    exact w_nil (q' _ _ _ _ _ _ _ _ x3)
/-- what is appended to a list handed in -/
theorem w_more {C : Ctx} {en : Env} {W : Val} {ws : List Txt} {L : List Nat} {l iw il : Nat} {ys : List Val} {i : Int} {r : List Stm} {Q : SR → Env → Sto → Prop} (hw : WL s W ws L) (h0 : 0 ≤ i) (h1 : i < 14) (g9 : en[il]? = some (some (.loc l))) (gW : en[iw]? = some (some W)) (hs : s[l]? = some (.list ys)) (hl : ys.length < 1000)
    (q : ∀ y, WpS (execs C r en (s.set l (.list (ys ++ [y])))) Q) : WpS (execs C (.expr (.bm .append (.var il) [(.item (.var iw) (.cst (.int i)))]) :: r) en s) Q := by
  obtain ⟨y, _, hy⟩ := hw.item h0 h1
  have hl' : ys.length < LIM := Nat.lt_of_lt_of_le hl (by decide)
  refine w_expr ?_
  have ty : bmTy .append (.loc l) s = true := by simp [bmTy, lstOf, hs]
  have bv : bmV .append (.loc l) [.str y] s = some (.non, s.set l (.list (ys ++ [.str y]))) := by
    simp only [bmV, hs, hl', if_true]
  simp only [ev, evs, g9, gW, wp_bnd, wp_ok, wp_pur, ty, if_true]
  refine ⟨_, hy, ?_⟩
  rw [bv]
  exact wp_lift.mpr ⟨_, _, rfl, q _⟩
theorem law_ok (ns : List Int) : Wp (callN tab (k + 7) 11 [.scr ns] []) fun v _ => v = .bl true := by
  refine wp_run rfl rfl ?_
  generalize hC : ({ T := tab, call := callN tab (k + 6), init := callN tab (k + 6 - 1) } : Ctx) = C
  have hcall : C.call = callN tab (k + 6) := by rw [← hC]
  have hinit : C.init = callN tab (k + 4 + 1) := by rw [← hC]; rfl
  have hT : C.T = tab := by rw [← hC]
  refine w_asg ?_
  simp only [ev, evs, wp_bnd, wp_ok, List.map_cons, List.map_nil, List.cons_append, List.getElem?_cons_zero, hcall]
  refine (begun_ok (T := tab) (k := k + 5) (f := 6) (s := []) (ns := ns) rfl).imp ?_
  rintro v s1 ⟨b, j, rfl, b1, _, _, _⟩
  have hbj := b1.ne
  have hb1 : b < s1.length := by obtain ⟨_, _, e, _⟩ := b1; exact (List.getElem?_eq_some_iff.mp e).1
  have hj1 : j < s1.length := by obtain ⟨_, _, _, e⟩ := b1; exact (List.getElem?_eq_some_iff.mp e).1
  refine w_asg ?_
  simp only [ev, evs, evo, evc, evi, wp_bnd, wp_ok, wp_pur, wp_lift, List.map_cons, List.map_nil, List.cons_append, List.nil_append, List.getElem?_cons_zero, List.getElem?_cons_succ, List.set_cons_zero, List.set_cons_succ, List.replicate_succ, List.replicate_zero, Nat.reduceSub, itemV, seqOf, lstOf, Option.bind_some, Option.bind_none, cmpV, binV, biV, bmV, bmTy, alloc, Option.map_some, Option.map_none, Bool.false_eq_true, if_false, if_true, Option.some.injEq, Prod.mk.injEq, Val.bl.injEq, Val.int.injEq, Val.loc.injEq, Val.str.injEq, Val.lst.injEq, Val.tup.injEq, exists_eq_left', exists_eq_left, exists_and_left, exists_and_right, and_assoc, true_and, and_true, Option.isSome_some, id_eq, Bool.not_true, Bool.not_false, optI, List.length_cons, List.length_nil, lim_le, lim_lt, Nat.zero_add, Nat.reduceAdd, Nat.reduceLeDiff, Nat.zero_le, Nat.reduceLT, hcall]
  refine (words_ok (T := tab) (k := k + 4) (f := 9) (n := 7) rfl rfl b1).imp ?_
  rintro W s2 ⟨ws, hW, hws, b2, f2, hWl⟩
  have hl12 : s1.length ≤ s2.length := f2.1
  have hW2 : ∀ l, W = .loc l → l < s2.length := by
    rintro l rfl
    simp only [lstOf] at hW
    cases e : s2[l]? with
    | none => simp [e] at hW
    | some o => exact (List.getElem?_eq_some_iff.mp e).1
  have wl2 : WL s2 W ws [b, j] := ⟨hW, hws.len, fun l hl z => by
    have := hWl l hl
    simp at z
    omega⟩
  refine w_asg ?_
  refine draw_ok (k := k + 5) (b := b) (j := j) (L := [b, j]) (W := W) (ws := ws) hcall b2 wl2 (by simp) ?_ (by simp) (by decide) (by decide) rfl rfl ?_
  · refine wp_draw (b := b) (m := 3) rfl (by simp only [ev, ok]) ?_
    rw [hcall]
    refine (tk b2 (by decide) (by decide)).imp ?_
    rintro v s' ⟨r, rfl, h0, h1, b', f', l'⟩
    exact ⟨r, rfl, h0, by omega, b', f', l'⟩
  intro xs s3 hx b3 f3 l3
  have wl3 := wl2.frm f3 (by simp)
  refine w_asg ⟨.loc s3.length, s3 ++ [.list (xs.map .str)], rfl, ?_⟩
  have p4 : (s3 ++ [SO.list (xs.map .str)])[s3.length]? = some (.list (xs.map .str)) := at_push
  have f4 : Frm [] s3 (s3 ++ [SO.list (xs.map .str)]) := Frm.push
  have l4 : (s3 ++ [SO.list (xs.map .str)]).length = s3.length + 1 := by simp
  have wl4 := wl3.frm f4 (by simp)
  have b4 := b3.frm f4 (by simp) (by simp)
  generalize s3 ++ [SO.list (xs.map .str)] = s4 at p4 f4 l4 wl4 b4
  show WpS (execs C _ [some (.scr ns), some (.loc b), some W, some (.lst (xs.map .str)), some (.loc s3.length), none, none, none, none, none, none, none, none, none, none, none, none, none, none] s4) _
  -- the houses
  obtain ⟨s5, e5, H5, f5, l5⟩ := mk_ok (k := k + 4) (s := s4) (s' := s4) (C := C) (e := .var 4) (en := [some (.scr ns), some (.loc b), some W, some (.lst (xs.map .str)), some (.loc s3.length), none, none, none, none, none, none, none, none, none, none, none, none, none, none]) (x := .loc s3.length) (rf := xs) hinit hT rfl (by simp [lstOf, p4])
  obtain ⟨s6, e6, H6, f6, l6⟩ := mk_ok (k := k + 4) (s := s5) (s' := s5) (C := C) (e := .lst false []) (en := [some (.scr ns), some (.loc b), some W, some (.lst (xs.map .str)), some (.loc s3.length), none, none, none, none, none, none, none, none, none, none, none, none, none, none]) (x := .lst []) (rf := []) hinit hT rfl rfl
  refine w_asg ⟨.lst [.loc s4.length, .loc s5.length], s6, ?_, ?_⟩
  · rw [ev, evs, e5]
    simp only [bnd]
    rw [evs_one e6]
    rfl
  show WpS (execs C _ [some (.scr ns), some (.loc b), some W, some (.lst (xs.map .str)), some (.loc s3.length), some (.lst [.loc s4.length, .loc s5.length]), none, none, none, none, none, none, none, none, none, none, none, none, none] s6) _
  have H5' := H5.frm f6 (by simp) (by simp) (by simp)
  have p6 := f6.2 _ _ (f5.2 _ _ p4 (by simp)) (by simp)
  have wl6 := (wl4.frm f5 (by simp)).frm f6 (by simp)
  have b6 := (b4.frm f5 (by simp) (by simp)).frm f6 (by simp) (by simp)
  -- the list handed in
  have lx : (xs.map Val.str).length < 100 := by simpa using hx
  have far : ∀ {s : Sto} {ys : List Val} {y : Val}, WL s W ws [b, j] → WL (s.set s3.length (.list ys)) W ws [b, j] := fun {s ys y} w => by
    have : WL s W ws [s3.length, b, j] := ⟨w.at_, w.len, fun l hl z => by
      rcases List.mem_cons.mp z with z | z
      · have := hW2 l hl; omega
      · exact w.far l hl z⟩
    have q := this.frm (Frm.set (l := s3.length) (o := .list ys)) (by simp)
    exact ⟨q.at_, q.len, w.far⟩
  refine w_more wl6 (by decide) (by decide) rfl rfl p6 (by omega) fun y => ?_
  have f7 : Frm [s3.length] s6 (s6.set s3.length (.list (xs.map .str ++ [y]))) := Frm.set
  have p7 := at_set (o := .list (xs.map .str ++ [y])) p6
  have wl7 := far (ys := xs.map .str ++ [y]) (y := y) wl6
  have l7 : (s6.set s3.length (.list (xs.map .str ++ [y]))).length = s6.length := by simp
  generalize s6.set s3.length (.list (xs.map .str ++ [y])) = s7 at f7 p7 wl7 l7
  refine w_more wl7 (by decide) (by decide) rfl rfl p7 (by simp; omega) fun y2 => ?_
  have f8 : Frm [s3.length] s6 (s7.set s3.length (.list (xs.map .str ++ [y] ++ [y2]))) := f7.trans Frm.set
  have wl8 := far (ys := xs.map .str ++ [y] ++ [y2]) (y := y) wl7
  have l8 : (s7.set s3.length (.list (xs.map .str ++ [y] ++ [y2]))).length = s6.length := by simp [l7]
  generalize s7.set s3.length (.list (xs.map .str ++ [y] ++ [y2])) = s8 at f8 wl8 l8
  have b8 := b6.frm f8 (by simp; omega) (by simp; omega)
  have H8 := H5'.frm f8 (by simp; omega) (by simp; omega) (by simp; omega)
  have K8 := H6.frm f8 (by simp; omega) (by simp; omega) (by simp; omega)
  -- the tables
  have t1 : ∀ (e : Ex) (x : List Txt) (s : Sto) (en : Env), (∀ s, ev C e en s = some (.ok (.lst (x.map .str)), s)) → ev C (.lst true [.dT, .lst true [], e]) en s = some (.ok (.loc (s.length + 2)), s ++ [.dT []] ++ [.list []] ++ [.list [.loc s.length, .loc (s.length + 1), .lst (x.map .str)]]) := fun e x s en h => by
    simp only [ev, evs, bnd, ok, h, List.length_cons, List.length_nil, lim_le, Nat.zero_le, Nat.reduceLeDiff, Nat.zero_add, Nat.reduceAdd, if_true, alloc, lift, List.length_append]
  generalize hs9 : s8 ++ [SO.dT []] ++ [.list []] ++ [.list [.loc s8.length, .loc (s8.length + 1), .lst (xs.map .str)]] = s9
  have f9 : Frm [] s8 s9 := by rw [← hs9]; exact (Frm.push.trans Frm.push).trans Frm.push
  have l9 : s9.length = s8.length + 3 := by rw [← hs9]; simp
  have T9 : TA s9 (s8.length + 2) s8.length (s8.length + 1) xs [] [] := by
    subst hs9
    refine ⟨?_, ?_, ?_⟩
    · rw [show s8.length + 2 = (s8 ++ [SO.dT []] ++ [SO.list []]).length by simp]; exact at_push
    · simp
    · rw [List.getElem?_append_left (by simp)]
      rw [show s8.length + 1 = (s8 ++ [SO.dT []]).length by simp]; exact at_push
  generalize hs10 : s9 ++ [SO.dT []] ++ [.list []] ++ [.list [.loc s9.length, .loc (s9.length + 1), .lst []]] = s10
  have f10 : Frm [] s9 s10 := by rw [← hs10]; exact (Frm.push.trans Frm.push).trans Frm.push
  have l10 : s10.length = s9.length + 3 := by rw [← hs10]; simp
  have U10 : TA s10 (s9.length + 2) s9.length (s9.length + 1) [] [] [] := by
    subst hs10
    refine ⟨?_, ?_, ?_⟩
    · rw [show s9.length + 2 = (s9 ++ [SO.dT []] ++ [SO.list []]).length by simp]; exact at_push
    · simp
    · rw [List.getElem?_append_left (by simp)]
      rw [show s9.length + 1 = (s9 ++ [SO.dT []]).length by simp]; exact at_push
  have T10 := T9.frm f10 (by simp) (by simp) (by simp)
  have e10 : ∀ en : Env, en[3]? = some (some (.lst (xs.map .str))) → ev C (.lst false [.lst true [.dT, .lst true [], .var 3], .lst true [.dT, .lst true [], .lst false []]]) en s8 = some (.ok (.lst [.loc (s8.length + 2), .loc (s9.length + 2)]), s10) := fun en g3 => by
    rw [ev, evs, t1 (.var 3) xs s8 en (fun s => by simp only [ev, g3, ok]), hs9]
    simp only [bnd]
    rw [evs_one (t1 (.lst false []) [] s9 en (fun s => rfl))]
    simp only [bnd, ok, List.map_nil, hs10, List.length_cons, List.length_nil, lim_le, Nat.reduceLeDiff, Nat.zero_add, Nat.reduceAdd, if_true, alloc, Bool.false_eq_true, if_false, lift]
  refine w_asg ⟨.lst [.loc (s8.length + 2), .loc (s9.length + 2)], s10, e10 _ rfl, ?_⟩
  have f810 : Frm [] s8 s10 := f9.trans f10
  have tb : TbOk [] := ⟨by simp, fun p h => by cases h⟩
  have x10 : WS s10 b j W ws ⟨s4.length, s4.length + 1, s4.length + 2, s8.length + 2, s8.length, s8.length + 1⟩ ⟨s5.length, s5.length + 1, s5.length + 2, s9.length + 2, s9.length, s9.length + 1⟩ 0 := by
    have wl10 := wl8.frm f810 (by simp)
    refine ⟨b8.frm f810 (by simp) (by simp), ⟨wl10.at_, wl10.len, fun l hl z => ?_⟩, ?_, ⟨xs, [], [], H8.frm f810 (by simp) (by simp) (by simp), T10, tb, Nat.le_refl _, Nat.le_refl _⟩, ⟨[], [], [], K8.frm f810 (by simp) (by simp) (by simp), U10, tb, Nat.le_refl _, Nat.le_refl _⟩⟩
    · have := hW2 l hl
      have := hWl l hl
      simp [pls, Pc.l] at z
      omega
    · simp [pls, Pc.l]
      omega
  show WpS (execs C _ [some (.scr ns), some (.loc b), some W, some (.lst (xs.map .str)), some (.loc s3.length), some (.lst [.loc s4.length, .loc s5.length]), some (.lst [.loc (s8.length + 2), .loc (s9.length + 2)]), none, none, none, none, none, none, none, none, none, none, none, none] s10) _
  generalize hp : (⟨s4.length, s4.length + 1, s4.length + 2, s8.length + 2, s8.length, s8.length + 1⟩ : Pc) = p at x10
  generalize hq : (⟨s5.length, s5.length + 1, s5.length + 2, s9.length + 2, s9.length, s9.length + 1⟩ : Pc) = q at x10
  rw [show s4.length = p.h by rw [← hp], show s5.length = q.h by rw [← hq], show s8.length + 2 = p.t by rw [← hp], show s9.length + 2 = q.t by rw [← hq]]
  generalize s10 = s at x10
  -- wide, many
  refine w_asg ?_
  have s1w : Wp (ev C (.bi .int false [(.cmp .eq (.call 7 [(.var 1), (.cst (.int 6))]) (.cst (.int 1)))]) [some (.scr ns), some (.loc b), some W, some (.lst (xs.map .str)), some (.loc s3.length), some (.lst [.loc p.h, .loc q.h]), some (.lst [.loc p.t, .loc q.t]), none, none, none, none, none, none, none, none, none, none, none, none] s) fun v s' => ∃ w : Int, v = .int w ∧ (w = 0 ∨ w = 1) ∧ WS s' b j W ws p q 0 := by
    simp only [ev, evs, wp_bnd, wp_ok, List.getElem?_cons_succ, List.getElem?_cons_zero, hcall]
    refine (tk (k := k + 5) (many := 6) x10.box (by decide) (by decide)).imp ?_
    rintro v s1 ⟨r, rfl, _, _, b1, f1, _⟩
    refine wp_pur.mpr ⟨.bl (r == 1), by simp only [cmpV, eq_ints, Option.map_some], ?_⟩
    refine wp_lift.mpr ⟨_, _, rfl, ?_⟩
    cases r == 1
    · exact ⟨_, rfl, .inl rfl, x10.frm b1 f1⟩
    · exact ⟨_, rfl, .inr rfl, x10.frm b1 f1⟩
  refine s1w.imp ?_
  rintro v s11 ⟨wide, rfl, hw, x11⟩
  refine w_asg ?_
  obtain ⟨m1, hm1, hm1a, hm1b⟩ : ∃ m1 : Int, L2.atI [Val.int 31, .int 121] wide = some (.int m1) ∧ 0 < m1 ∧ m1 < 1000 := by
    rcases hw with rfl | rfl
    · exact ⟨31, rfl, by decide, by decide⟩
    · exact ⟨121, rfl, by decide, by decide⟩
  have s2w : Wp (ev C (.call 7 [(.var 1), (.item (.lst false [(.cst (.int 31)), (.cst (.int 121))]) (.var 7))]) [some (.scr ns), some (.loc b), some W, some (.lst (xs.map .str)), some (.loc s3.length), some (.lst [.loc p.h, .loc q.h]), some (.lst [.loc p.t, .loc q.t]), some (.int wide), none, none, none, none, none, none, none, none, none, none, none] s11) fun v s' => ∃ m : Nat, v = .int (m : Nat) ∧ m < 1000 ∧ WS s' b j W ws p q 0 := by
    refine wp_draw (b := b) (m := m1) rfl (by simp only [ev, evs, evo, evc, evi, bnd, ok, pur, lift, List.map_cons, List.map_nil, List.cons_append, List.nil_append, List.getElem?_cons_zero, List.getElem?_cons_succ, List.set_cons_zero, List.set_cons_succ, List.replicate_succ, List.replicate_zero, Nat.reduceSub, itemV, seqOf, lstOf, Option.bind_some, Option.bind_none, cmpV, binV, biV, bmV, bmTy, alloc, Option.map_some, Option.map_none, Bool.false_eq_true, if_false, if_true, optI, walkV, List.length_cons, List.length_nil, lim_le, lim_lt, Nat.zero_add, Nat.reduceAdd, Nat.reduceLeDiff, Nat.zero_le, Nat.reduceLT, Option.isSome_some, hm1]) ?_
    rw [hcall]
    refine (tk x11.box hm1a (by omega)).imp ?_
    rintro v s' ⟨r, rfl, h0, h1, b', f', l'⟩
    exact ⟨r.toNat, by rw [Int.toNat_of_nonneg h0], by omega, x11.frm b' f'⟩
  refine s2w.imp ?_
  rintro v s12 ⟨m, rfl, hm, x12⟩
  show WpS (execs C _ [some (.scr ns), some (.loc b), some W, some (.lst (xs.map .str)), some (.loc s3.length), some (.lst [.loc p.h, .loc q.h]), some (.lst [.loc p.t, .loc q.t]), some (.int wide), some (.int (m : Nat)), none, none, none, none, none, none, none, none, none, none] s12) _
  have rk : rngOk 0 (m : Nat) = true := decide_eq_true (by omega)
  refine w_forE (fun i en s' => WS s' b j W ws p q i ∧ i ≤ m ∧ ∃ u9 u10 u11 u12 u13 u14 u17 u18 : Option Val, en = [some (.scr ns), some (.loc b), some W, some (.lst (xs.map .str)), some (.loc s3.length), some (.lst [.loc p.h, .loc q.h]), some (.lst [.loc p.t, .loc q.t]), some (.int wide), some (.int (m : Nat)), u9, u10, u11, u12, u13, u14, none, none, u17, u18]) (w := (rngV 0 m, none)) (s1 := s12) ?_ ⟨x12, Nat.zero_le _, _, _, _, _, _, _, _, _, rfl⟩ (fun _ _ _ _ => rfl) ?_ ?_
  · simp only [evi, ev, List.getElem?_cons_succ, List.getElem?_cons_zero, ok, bnd, rk, if_true, Int.toNat_natCast]
  · rintro i v en s' hv ⟨x, hi0, u9, u10, u11, u12, u13, u14, u17, u18, rfl⟩
    obtain ⟨rfl, hi⟩ := rng_at hv
    refine ⟨_, rfl, ?_⟩
    exact turn_ok (k := k + 2) hcall hT x (by omega) hw fun v10 v11 v12 v13 v14 v17 v18 s'' x'' => ⟨x'', hi, _, _, _, _, _, _, _, _, rfl⟩
  · rintro en s' ⟨x, _, u9, u10, u11, u12, u13, u14, u17, u18, rfl⟩
    have hlen : (rngV 0 m).length = m := by simp [rngV]
    have x : WS s' b j W ws p q m := by
      have := x
      rw [show ((rngV 0 m, none) : Walk).1 = rngV 0 m from rfl, hlen] at this
      exact this
    have nd := x.nd
    unfold pls at nd
    rw [List.nodup_append] at nd
    have nd2 := nd.2.1
    rw [List.nodup_append] at nd2
    refine w_forE (fun _ en s' => PS s' p m ∧ PS s' q m ∧ ∃ u9 u10 u11 u12 u13 u14 u15 u16 u17 u18 : Option Val, en = [some (.scr ns), some (.loc b), some W, some (.lst (xs.map .str)), some (.loc s3.length), some (.lst [.loc p.h, .loc q.h]), some (.lst [.loc p.t, .loc q.t]), some (.int wide), some (.int (m : Nat)), u9, u10, u11, u12, u13, u14, u15, u16, u17, u18]) (w := (rngV 0 2, none)) (s1 := s') (by simp only [ev, evs, evo, evc, evi, bnd, ok, pur, lift, List.map_cons, List.map_nil, List.cons_append, List.nil_append, List.getElem?_cons_zero, List.getElem?_cons_succ, List.set_cons_zero, List.set_cons_succ, List.replicate_succ, List.replicate_zero, Nat.reduceSub, itemV, seqOf, lstOf, Option.bind_some, Option.bind_none, cmpV, binV, biV, bmV, bmTy, alloc, Option.map_some, Option.map_none, Bool.false_eq_true, if_false, if_true, optI, walkV, List.length_cons, List.length_nil, lim_le, lim_lt, Nat.zero_add, Nat.reduceAdd, Nat.reduceLeDiff, Nat.zero_le, Nat.reduceLT, Option.isSome_some]; rfl) ⟨x.p, x.q, _, _, _, _, _, _, _, _, _, _, rfl⟩ (fun _ _ _ _ => rfl) ?_ ?_
    · rintro i v en s2 hv ⟨P, Q, u9, u10, u11, u12, u13, u14, u15, u16, u17, u18, rfl⟩
      obtain ⟨rfl, hi⟩ := rng_at hv
      refine ⟨_, rfl, ?_⟩
      have hi2 : i = 0 ∨ i = 1 := by omega
      rcases hi2 with rfl | rfl
      · exact end_one (k := k + 4) (r := []) (p := p) (n := m) hcall hT P nd2.1 (by omega) rfl rfl fun u15 u16 s3 f P' => w_nil ⟨P', Q.frm f (fun i hi z => nd2.2.2 i z i hi rfl) (Nat.le_refl _), _, _, _, _, _, _, _, _, _, _, rfl⟩
      · exact end_one (k := k + 4) (r := []) (p := q) (n := m) hcall hT Q nd2.2.1 (by omega) rfl rfl fun u15 u16 s3 f P' => w_nil ⟨P.frm f (fun i hi z => nd2.2.2 i hi i z rfl) (Nat.le_refl _), P', _, _, _, _, _, _, _, _, _, _, rfl⟩
    · rintro en s2 ⟨P, Q, u9, u10, u11, u12, u13, u14, u15, u16, u17, u18, rfl⟩
      exact w_ret (wp_ok.mpr rfl)
end
theorem math (ns : List Int) (_ : ns.length ≤ 63) : ∃ s, Ab.callN tab (12 + 1) 11 [.scr ns] [] = some (.ok (.bl true), s) := by
  obtain ⟨v, s, e, rfl⟩ := law_ok (k := 6) ns
  exact ⟨s, e⟩
end K10
end
section
set_option maxRecDepth 100000
set_option maxHeartbeats 4000000
/-! ### printed by gen.py: the machine's tables of this program -/
namespace K10
open PySem L2 Sn
def top (i : Nat) : Stmt := PySem.Challenge.pw_errandback_k10_houses.main.body.getD i (.Pass ⟨0, 0, 0, 0⟩)
def sta : Sta where
  fns := [none, none, none, none, none, none, some "_law_begun", some "_law_take", some "_law_alike", some "_law_words", some "_law_deed", some "law"]
  cls := ["House"]
  mts := ["refuse", "do", "back", "story", "holds"]
  flds := ["refused", "first", "deeds"]
  mds := [(1, "sure")]
abbrev s0 : Stmt := inClass (top 1) 0
def t0 : Txt := ⟨"__init__", "House.__init__", defArgs s0, defBody s0, defScope s0, ["self", "names"], ["self", "names"], c0⟩
theorem o0 : t0.ok sta = true := by decide +kernel
abbrev s1 : Stmt := inClass (top 1) 1
def t1 : Txt := ⟨"refuse", "House.refuse", defArgs s1, defBody s1, defScope s1, ["self", "names"], ["self", "names"], c1⟩
theorem o1 : t1.ok sta = true := by decide +kernel
abbrev s2 : Stmt := inClass (top 1) 2
def t2 : Txt := ⟨"do", "House.do", defArgs s2, defBody s2, defScope s2, ["self", "errand", "name", "sure", "at"], ["self", "errand", "name", "sure"], c2⟩
theorem o2 : t2.ok sta = true := by decide +kernel
abbrev s3 : Stmt := inClass (top 1) 3
def t3 : Txt := ⟨"back", "House.back", defArgs s3, defBody s3, defScope s3, ["self", "errand", "name", "at"], ["self", "errand", "name"], c3⟩
theorem o3 : t3.ok sta = true := by decide +kernel
abbrev s4 : Stmt := inClass (top 1) 4
def t4 : Txt := ⟨"story", "House.story", defArgs s4, defBody s4, defScope s4, ["self"], ["self"], c4⟩
theorem o4 : t4.ok sta = true := by decide +kernel
abbrev s5 : Stmt := inClass (top 1) 5
def t5 : Txt := ⟨"holds", "House.holds", defArgs s5, defBody s5, defScope s5, ["self", "deed"], ["self"], c5⟩
theorem o5 : t5.ok sta = true := by decide +kernel
abbrev s6 : Stmt := top 3
def t6 : Txt := ⟨"_law_begun", "_law_begun", defArgs s6, defBody s6, defScope s6, ["_law_script", "_law_stirred", "_law_cell"], ["_law_script"], c6⟩
theorem o6 : t6.ok sta = true := by decide +kernel
abbrev s7 : Stmt := top 4
def t7 : Txt := ⟨"_law_take", "_law_take", defArgs s7, defBody s7, defScope s7, ["_law_box", "_law_many", "_law_number"], ["_law_box", "_law_many"], c7⟩
theorem o7 : t7.ok sta = true := by decide +kernel
abbrev s8 : Stmt := top 5
def t8 : Txt := ⟨"_law_alike", "_law_alike", defArgs s8, defBody s8, defScope s8, ["_law_found", "_law_due", "_law_k"], ["_law_found", "_law_due"], c8⟩
theorem o8 : t8.ok sta = true := by decide +kernel
abbrev s9 : Stmt := top 6
def t9 : Txt := ⟨"_law_words", "_law_words", defArgs s9, defBody s9, defScope s9, ["_law_box", "_law_letters", "_law_base", "_law_first", "_law_sort", "_law_words_here", "_law_k", "_law_place", "_law_size", "_law_step", "_law_others", "_law_word", "_law_number", "_law_letter"], ["_law_box"], c9⟩
theorem o9 : t9.ok sta = true := by decide +kernel
abbrev s10 : Stmt := top 7
def t10 : Txt := ⟨"_law_deed", "_law_deed", defArgs s10, defBody s10, defScope s10, ["_law_box", "_law_words_here", "_law_house", "_law_table", "_law_wide", "_law_number", "_law_name", "_law_kind", "_law_is_sure", "_law_handed", "_law_good", "_law_turn"], ["_law_box", "_law_words_here", "_law_house", "_law_table", "_law_wide"], c10⟩
theorem o10 : t10.ok sta = true := by decide +kernel
abbrev s11 : Stmt := top 8
def t11 : Txt := ⟨"law", "law", defArgs s11, defBody s11, defScope s11, ["_law_script", "_law_box", "_law_words_here", "_law_refused", "_law_handed", "_law_houses", "_law_tables", "_law_wide", "_law_many", "_law_turn", "_law_k", "_law_at", "_law_rows", "_law_holds", "_law_again", "_law_number", "_law_name", "_law_found", "_law_row"], ["_law_script"], c11⟩
theorem o11 : t11.ok sta = true := by decide +kernel
end K10
end
set_option maxRecDepth 100000
set_option maxHeartbeats 4000000
namespace K10
open PySem L2 Sn
theorem head {K : PySem.W.Frag} {h : Heap} {mg : Str → Option Value} {fa : Addr} (X : K.In h) (G : h.Ns mainGlobals mg) (hfa : mg "law" = some (.ref fa)) {C0 : Addr} {f0 : Addr} {oc0 kV0 dc0 pm0 cd0 ct0 : Value} {od0 an0 : Option Addr} {sl0 : Array (Option Value)} {f1 : Addr} {oc1 kV1 dc1 pm1 cd1 ct1 : Value} {od1 an1 : Option Addr} {sl1 : Array (Option Value)} {f2 : Addr} {oc2 kV2 dc2 pm2 cd2 ct2 : Value} {od2 an2 : Option Addr} {sl2 : Array (Option Value)} {f3 : Addr} {oc3 kV3 dc3 pm3 cd3 ct3 : Value} {od3 an3 : Option Addr} {sl3 : Array (Option Value)} {f4 : Addr} {oc4 kV4 dc4 pm4 cd4 ct4 : Value} {od4 an4 : Option Addr} {sl4 : Array (Option Value)} {f5 : Addr} {oc5 kV5 dc5 pm5 cd5 ct5 : Value} {od5 an5 : Option Addr} {sl5 : Array (Option Value)} {f6 : Addr} {oc6 kV6 dc6 pm6 cd6 ct6 : Value} {od6 an6 : Option Addr} {sl6 : Array (Option Value)} {f7 : Addr} {oc7 kV7 dc7 pm7 cd7 ct7 : Value} {od7 an7 : Option Addr} {sl7 : Array (Option Value)} {f8 : Addr} {oc8 kV8 dc8 pm8 cd8 ct8 : Value} {od8 an8 : Option Addr} {sl8 : Array (Option Value)} {f9 : Addr} {oc9 kV9 dc9 pm9 cd9 ct9 : Value} {od9 an9 : Option Addr} {sl9 : Array (Option Value)} {f10 : Addr} {oc10 kV10 dc10 pm10 cd10 ct10 : Value} {od10 an10 : Option Addr} {sl10 : Array (Option Value)} {f11 : Addr} {oc11 kV11 dc11 pm11 cd11 ct11 : Value} {od11 an11 : Option Addr} {sl11 : Array (Option Value)} {A2 : Addr} {pc2 : Value} {pd2 : Option Addr} {n2 : Nat} {tl2 : Array (Option Value)}
    (C0_a : PySem.W.nsIn K mainGlobals "House" = some (some (.ref C0)))
    (f0_a : PySem.W.findIn K (.ref C0) "__init__" = some (some (.ref f0)))
    (f0_i : PySem.W.isFn K (.ref f0) = true)
    (f0_l : K.lookup f0 = some ⟨oc0, od0, .func (PySem.W.fnOf "__init__" "House.__init__" (defArgs s0) (defBody s0) (defScope s0) .none kV0 dc0 pm0 an0 cd0 ct0), sl0⟩)
    (f0_c : PySem.W.codeIn K cd0 "House.__init__" = true)
    (f0_k : PySem.W.keepIn K (.ref f0) = true)
    (f1_a : PySem.W.findIn K (.ref C0) "refuse" = some (some (.ref f1)))
    (f1_i : PySem.W.isFn K (.ref f1) = true)
    (f1_l : K.lookup f1 = some ⟨oc1, od1, .func (PySem.W.fnOf "refuse" "House.refuse" (defArgs s1) (defBody s1) (defScope s1) .none kV1 dc1 pm1 an1 cd1 ct1), sl1⟩)
    (f1_c : PySem.W.codeIn K cd1 "House.refuse" = true)
    (f1_k : PySem.W.keepIn K (.ref f1) = true)
    (f2_a : PySem.W.findIn K (.ref C0) "do" = some (some (.ref f2)))
    (f2_i : PySem.W.isFn K (.ref f2) = true)
    (f2_l : K.lookup f2 = some ⟨oc2, od2, .func (PySem.W.fnOf "do" "House.do" (defArgs s2) (defBody s2) (defScope s2) (.ref A2) kV2 dc2 pm2 an2 cd2 ct2), sl2⟩)
    (f2_d : K.lookup A2 = some ⟨pc2, pd2, .seq #[.bool false] n2, tl2⟩)
    (f2_c : PySem.W.codeIn K cd2 "House.do" = true)
    (f2_k : PySem.W.keepIn K (.ref f2) = true)
    (f3_a : PySem.W.findIn K (.ref C0) "back" = some (some (.ref f3)))
    (f3_i : PySem.W.isFn K (.ref f3) = true)
    (f3_l : K.lookup f3 = some ⟨oc3, od3, .func (PySem.W.fnOf "back" "House.back" (defArgs s3) (defBody s3) (defScope s3) .none kV3 dc3 pm3 an3 cd3 ct3), sl3⟩)
    (f3_c : PySem.W.codeIn K cd3 "House.back" = true)
    (f3_k : PySem.W.keepIn K (.ref f3) = true)
    (f4_a : PySem.W.findIn K (.ref C0) "story" = some (some (.ref f4)))
    (f4_i : PySem.W.isFn K (.ref f4) = true)
    (f4_l : K.lookup f4 = some ⟨oc4, od4, .func (PySem.W.fnOf "story" "House.story" (defArgs s4) (defBody s4) (defScope s4) .none kV4 dc4 pm4 an4 cd4 ct4), sl4⟩)
    (f4_c : PySem.W.codeIn K cd4 "House.story" = true)
    (f4_k : PySem.W.keepIn K (.ref f4) = true)
    (f5_a : PySem.W.findIn K (.ref C0) "holds" = some (some (.ref f5)))
    (f5_i : PySem.W.isFn K (.ref f5) = true)
    (f5_l : K.lookup f5 = some ⟨oc5, od5, .func (PySem.W.fnOf "holds" "House.holds" (defArgs s5) (defBody s5) (defScope s5) .none kV5 dc5 pm5 an5 cd5 ct5), sl5⟩)
    (f5_c : PySem.W.codeIn K cd5 "House.holds" = true)
    (f5_k : PySem.W.keepIn K (.ref f5) = true)
    (f6_a : PySem.W.nsIn K mainGlobals "_law_begun" = some (some (.ref f6)))
    (f6_l : K.lookup f6 = some ⟨oc6, od6, .func (PySem.W.fnOf "_law_begun" "_law_begun" (defArgs s6) (defBody s6) (defScope s6) .none kV6 dc6 pm6 an6 cd6 ct6), sl6⟩)
    (f6_c : PySem.W.codeIn K cd6 "_law_begun" = true)
    (f6_k : PySem.W.keepIn K (.ref f6) = true)
    (f7_a : PySem.W.nsIn K mainGlobals "_law_take" = some (some (.ref f7)))
    (f7_l : K.lookup f7 = some ⟨oc7, od7, .func (PySem.W.fnOf "_law_take" "_law_take" (defArgs s7) (defBody s7) (defScope s7) .none kV7 dc7 pm7 an7 cd7 ct7), sl7⟩)
    (f7_c : PySem.W.codeIn K cd7 "_law_take" = true)
    (f7_k : PySem.W.keepIn K (.ref f7) = true)
    (f8_a : PySem.W.nsIn K mainGlobals "_law_alike" = some (some (.ref f8)))
    (f8_l : K.lookup f8 = some ⟨oc8, od8, .func (PySem.W.fnOf "_law_alike" "_law_alike" (defArgs s8) (defBody s8) (defScope s8) .none kV8 dc8 pm8 an8 cd8 ct8), sl8⟩)
    (f8_c : PySem.W.codeIn K cd8 "_law_alike" = true)
    (f8_k : PySem.W.keepIn K (.ref f8) = true)
    (f9_a : PySem.W.nsIn K mainGlobals "_law_words" = some (some (.ref f9)))
    (f9_l : K.lookup f9 = some ⟨oc9, od9, .func (PySem.W.fnOf "_law_words" "_law_words" (defArgs s9) (defBody s9) (defScope s9) .none kV9 dc9 pm9 an9 cd9 ct9), sl9⟩)
    (f9_c : PySem.W.codeIn K cd9 "_law_words" = true)
    (f9_k : PySem.W.keepIn K (.ref f9) = true)
    (f10_a : PySem.W.nsIn K mainGlobals "_law_deed" = some (some (.ref f10)))
    (f10_l : K.lookup f10 = some ⟨oc10, od10, .func (PySem.W.fnOf "_law_deed" "_law_deed" (defArgs s10) (defBody s10) (defScope s10) .none kV10 dc10 pm10 an10 cd10 ct10), sl10⟩)
    (f10_c : PySem.W.codeIn K cd10 "_law_deed" = true)
    (f10_k : PySem.W.keepIn K (.ref f10) = true)
    (f11_a : PySem.W.nsIn K mainGlobals "law" = some (some (.ref f11)))
    (f11_l : K.lookup f11 = some ⟨oc11, od11, .func (PySem.W.fnOf "law" "law" (defArgs s11) (defBody s11) (defScope s11) .none kV11 dc11 pm11 an11 cd11 ct11), sl11⟩)
    (f11_c : PySem.W.codeIn K cd11 "law" = true)
    (f11_k : PySem.W.keepIn K (.ref f11) = true)
    (C0_pg : PySem.W.plainGet K C0 Str.empty = true)
    (C0_hd : PySem.W.hasDictIn K C0 = true)
    (C0_po : PySem.W.plainOver K C0 = true)
    (C0_sa : PySem.W.findIn K (.ref C0) "__setattr__" = some (some (.builtin "object.__setattr__")))
    (C0_mk : PySem.W.makesIn K C0 = true)
    (C0_kc : PySem.W.keepIn K (.ref C0) = true)
    (C0_n0 : PySem.W.findIn K (.ref C0) "refused" = some none)
    (C0_n1 : PySem.W.findIn K (.ref C0) "first" = some none)
    (C0_n2 : PySem.W.findIn K (.ref C0) "deeds" = some none)
    (z0 : PySem.W.nsIn K mainGlobals "len" = some none)
    (z1 : PySem.W.nsIn K mainGlobals "list" = some none)
    (z2 : PySem.W.nsIn K mainGlobals "tuple" = some none)
    (z3 : PySem.W.nsIn K mainGlobals "sorted" = some none)
    (z4 : PySem.W.nsIn K mainGlobals "all" = some none)
    (z5 : PySem.W.nsIn K mainGlobals "any" = some none)
    (z6 : PySem.W.nsIn K mainGlobals "int" = some none)
    (z7 : PySem.W.nsIn K mainGlobals "max" = some none)
    (z8 : PySem.W.nsIn K mainGlobals "min" = some none)
    (z9 : PySem.W.nsIn K mainGlobals "isinstance" = some none)
    (z10 : PySem.W.nsIn K mainGlobals "bool" = some none)
    (z11 : PySem.W.nsIn K mainGlobals "str" = some none)
    (z12 : PySem.W.nsIn K mainGlobals "range" = some none)
    (z13 : PySem.W.nsIn K mainGlobals "set" = some none)
    (z14 : PySem.W.nsIn K mainGlobals "zip" = some none)
    (z15 : PySem.W.nsIn K mainGlobals "enumerate" = some none)
    (z16 : PySem.W.nsIn K mainGlobals "reversed" = some none)
    (math : ∀ ns : List Int, ns.length ≤ 63 → ∃ s, Ab.callN tab (12 + 1) 11 [.scr ns] [] = some (.ok (.bl true), s)) :
    ∃ (S : Sta) (B : Bs) (T : Ab.Tab) (f : Nat) (D : Txt) (fd : FuncData), Wd S B T K mg ∧ FunD K D.x D.qual D.params D.body D.sc [] [] fa fd ∧ D.ok S = true ∧ T.code f = some ⟨D.ps.length, D.N.length, D.code⟩ ∧ D.ps = [("_law_script" : Str)] ∧ (∀ (s : Shared) (u : Value), BindsTo s fd ⟨[u], []⟩ [(("_law_script" : Str), u)]) ∧
      ∀ ns : List Int, ns.length ≤ 63 → ∃ s, Ab.callN T (12 + 1) f [.scr ns] [] = some (.ok (.bl true), s) := by
  have e := hfa.symm.trans (PySem.W.mg_of X G f11_a)
  have e2 : f11 = fa := by
    injection e with e
    injection e with e
    exact e.symm
  subst e2
  have F0 := at_mk (S := sta) (T := tab) (f := 0) t0 f0_l f0_c f0_k
  have b0 : Binds K _ t0.ps [] := F0.bindsN fun _ _ _ _ _ _ us hl => match us, hl with | [_, _], _ => rfl
  have a0 : At sta K tab 0 f0 := ⟨t0, _, _, F0, b0, o0, rfl⟩
  have F1 := at_mk (S := sta) (T := tab) (f := 1) t1 f1_l f1_c f1_k
  have b1 : Binds K _ t1.ps [] := F1.bindsN fun _ _ _ _ _ _ us hl => match us, hl with | [_, _], _ => rfl
  have a1 : At sta K tab 1 f1 := ⟨t1, _, _, F1, b1, o1, rfl⟩
  have F2 := at_mk1 (S := sta) (T := tab) (f := 2) t2 f2_l f2_c f2_k f2_d
  have b2 : Binds K _ t2.ps [] := binds_full F2 (List.cons_ne_nil _ _) fun A kV doc pm an cdv ct us its h1 h2 => match us, its, h1, h2 with | [_, _, _, _], [_], _, _ => ⟨_, rfl, rfl⟩
  have b2d : Takes1 K _ t2.ps "sure" (.bl false) := ⟨F2.binds1 (ps := t2.ps) 3 0 (List.cons_ne_nil _ _) rfl fun A kV doc pm an cdv ct us its h1 h2 => match us, its, h1, h2 with | [_, _, _], [_], _, _ => ⟨_, rfl, rfl⟩, kbinds1 F2 (List.cons_ne_nil _ _) fun A kV doc pm an cdv ct w us its h1 h2 => match us, its, h1, h2 with | [_, _, _], [_], _, _ => ⟨_, rfl, rfl⟩⟩
  have a2 : At sta K tab 2 f2 := ⟨t2, _, _, F2, b2, o2, rfl⟩
  have a2d : At1 sta K tab 2 f2 "sure" := ⟨t2, _, _, F2, b2d, o2, rfl⟩
  have F3 := at_mk (S := sta) (T := tab) (f := 3) t3 f3_l f3_c f3_k
  have b3 : Binds K _ t3.ps [] := F3.bindsN fun _ _ _ _ _ _ us hl => match us, hl with | [_, _, _], _ => rfl
  have a3 : At sta K tab 3 f3 := ⟨t3, _, _, F3, b3, o3, rfl⟩
  have F4 := at_mk (S := sta) (T := tab) (f := 4) t4 f4_l f4_c f4_k
  have b4 : Binds K _ t4.ps [] := F4.bindsN fun _ _ _ _ _ _ us hl => match us, hl with | [_], _ => rfl
  have a4 : At sta K tab 4 f4 := ⟨t4, _, _, F4, b4, o4, rfl⟩
  have F5 := at_mk (S := sta) (T := tab) (f := 5) t5 f5_l f5_c f5_k
  have b5 : Binds K _ t5.ps [] := F5.bindsN fun _ _ _ _ _ _ us hl => match us, hl with | [_], _ => rfl
  have a5 : At sta K tab 5 f5 := ⟨t5, _, _, F5, b5, o5, rfl⟩
  have F6 := at_mk (S := sta) (T := tab) (f := 6) t6 f6_l f6_c f6_k
  have b6 : Binds K _ t6.ps [] := F6.bindsN fun _ _ _ _ _ _ us hl => match us, hl with | [_], _ => rfl
  have a6 : At sta K tab 6 f6 := ⟨t6, _, _, F6, b6, o6, rfl⟩
  have F7 := at_mk (S := sta) (T := tab) (f := 7) t7 f7_l f7_c f7_k
  have b7 : Binds K _ t7.ps [] := F7.bindsN fun _ _ _ _ _ _ us hl => match us, hl with | [_, _], _ => rfl
  have a7 : At sta K tab 7 f7 := ⟨t7, _, _, F7, b7, o7, rfl⟩
  have F8 := at_mk (S := sta) (T := tab) (f := 8) t8 f8_l f8_c f8_k
  have b8 : Binds K _ t8.ps [] := F8.bindsN fun _ _ _ _ _ _ us hl => match us, hl with | [_, _], _ => rfl
  have a8 : At sta K tab 8 f8 := ⟨t8, _, _, F8, b8, o8, rfl⟩
  have F9 := at_mk (S := sta) (T := tab) (f := 9) t9 f9_l f9_c f9_k
  have b9 : Binds K _ t9.ps [] := F9.bindsN fun _ _ _ _ _ _ us hl => match us, hl with | [_], _ => rfl
  have a9 : At sta K tab 9 f9 := ⟨t9, _, _, F9, b9, o9, rfl⟩
  have F10 := at_mk (S := sta) (T := tab) (f := 10) t10 f10_l f10_c f10_k
  have b10 : Binds K _ t10.ps [] := F10.bindsN fun _ _ _ _ _ _ us hl => match us, hl with | [_, _, _, _, _], _ => rfl
  have a10 : At sta K tab 10 f10 := ⟨t10, _, _, F10, b10, o10, rfl⟩
  have F11 := at_mk (S := sta) (T := tab) (f := 11) t11 f11_l f11_c f11_k
  have b11 : Binds K _ t11.ps [] := F11.bindsN fun _ _ _ _ _ _ us hl => match us, hl with | [_], _ => rfl
  have a11 : At sta K tab 11 f11 := ⟨t11, _, _, F11, b11, o11, rfl⟩
  have hf : fldsB sta.flds = true := by decide +kernel
  refine ⟨sta, mkB K [C0] sta.flds hf, tab, 11, t11, _, ?_, F11, o11, rfl, rfl, fun s v => F11.bindsA (ps := t11.ps) (fun _ _ _ _ _ _ us hl => match us, hl with | [_], _ => rfl) s [v] rfl, math⟩
  refine { eqK := rfl, cl := mkB_cls (fun C hC => ?_) (fun C hC x hx => ?_), fld := fun i x e => mkB_fld i x e, bi := fun b hb => ?_, fn := fun f x hx => ?_, cs := fun c x hx => ?_, mt := fun m x hx => ?_, md := fun m x y h0 hx => ?_ }
  · simp only [List.mem_cons, List.not_mem_nil, or_false] at hC
    subst hC
    exact ⟨C0_pg, C0_hd, C0_po, C0_sa⟩
  · simp only [List.mem_cons, List.not_mem_nil, or_false, sta] at hC hx
    subst hC
    rcases hx with rfl | rfl | rfl
    · exact C0_n0
    · exact C0_n1
    · exact C0_n2
  · simp only [Sn.builtins, List.mem_cons, List.not_mem_nil, or_false] at hb
    rcases hb with rfl | rfl | rfl | rfl | rfl | rfl | rfl | rfl | rfl | rfl | rfl | rfl | rfl | rfl | rfl | rfl | rfl
    · exact PySem.W.mg_none_of X G z0
    · exact PySem.W.mg_none_of X G z1
    · exact PySem.W.mg_none_of X G z2
    · exact PySem.W.mg_none_of X G z3
    · exact PySem.W.mg_none_of X G z4
    · exact PySem.W.mg_none_of X G z5
    · exact PySem.W.mg_none_of X G z6
    · exact PySem.W.mg_none_of X G z7
    · exact PySem.W.mg_none_of X G z8
    · exact PySem.W.mg_none_of X G z9
    · exact PySem.W.mg_none_of X G z10
    · exact PySem.W.mg_none_of X G z11
    · exact PySem.W.mg_none_of X G z12
    · exact PySem.W.mg_none_of X G z13
    · exact PySem.W.mg_none_of X G z14
    · exact PySem.W.mg_none_of X G z15
    · exact PySem.W.mg_none_of X G z16
  · match f, hx with
    | 0, hx => exact absurd (Option.some.inj hx) (by intro z; cases z)
    | 1, hx => exact absurd (Option.some.inj hx) (by intro z; cases z)
    | 2, hx => exact absurd (Option.some.inj hx) (by intro z; cases z)
    | 3, hx => exact absurd (Option.some.inj hx) (by intro z; cases z)
    | 4, hx => exact absurd (Option.some.inj hx) (by intro z; cases z)
    | 5, hx => exact absurd (Option.some.inj hx) (by intro z; cases z)
    | 6, hx =>
      have e : ("_law_begun" : Str) = x := Option.some.inj (Option.some.inj hx)
      subst e
      exact ⟨f6, PySem.W.mg_of X G f6_a, f6_k, a6⟩
    | 7, hx =>
      have e : ("_law_take" : Str) = x := Option.some.inj (Option.some.inj hx)
      subst e
      exact ⟨f7, PySem.W.mg_of X G f7_a, f7_k, a7⟩
    | 8, hx =>
      have e : ("_law_alike" : Str) = x := Option.some.inj (Option.some.inj hx)
      subst e
      exact ⟨f8, PySem.W.mg_of X G f8_a, f8_k, a8⟩
    | 9, hx =>
      have e : ("_law_words" : Str) = x := Option.some.inj (Option.some.inj hx)
      subst e
      exact ⟨f9, PySem.W.mg_of X G f9_a, f9_k, a9⟩
    | 10, hx =>
      have e : ("_law_deed" : Str) = x := Option.some.inj (Option.some.inj hx)
      subst e
      exact ⟨f10, PySem.W.mg_of X G f10_a, f10_k, a10⟩
    | 11, hx =>
      have e : ("law" : Str) = x := Option.some.inj (Option.some.inj hx)
      subst e
      exact ⟨f11, PySem.W.mg_of X G f11_a, f11_k, a11⟩
    | _ + 12, hx => exact absurd hx (by intro z; cases z)
  · match c, hx with
    | 0, hx =>
      have e : ("House" : Str) = x := Option.some.inj hx
      subst e
      exact ⟨rfl, PySem.W.mg_of X G C0_a, f0, ⟨C0_mk, f0_a, f0_i, C0_kc⟩, a0⟩
    | _ + 1, hx => exact absurd hx (by intro z; cases z)
  · match m, hx with
    | 0, hx =>
      have e : ("refuse" : Str) = x := Option.some.inj hx
      subst e
      refine ⟨mkB_nf (by decide +kernel), fun c f hc hf => ?_⟩
      have hl : c < 1 := of_decide_eq_true hc
      match c, hl, hf with
      | 0, _, hf =>
        have e : 1 = f := Option.some.inj hf
        subst e
        exact ⟨f1, ⟨f1_a, f1_i, f1_k⟩, a1⟩
    | 1, hx =>
      have e : ("do" : Str) = x := Option.some.inj hx
      subst e
      refine ⟨mkB_nf (by decide +kernel), fun c f hc hf => ?_⟩
      have hl : c < 1 := of_decide_eq_true hc
      match c, hl, hf with
      | 0, _, hf =>
        have e : 2 = f := Option.some.inj hf
        subst e
        exact ⟨f2, ⟨f2_a, f2_i, f2_k⟩, a2⟩
    | 2, hx =>
      have e : ("back" : Str) = x := Option.some.inj hx
      subst e
      refine ⟨mkB_nf (by decide +kernel), fun c f hc hf => ?_⟩
      have hl : c < 1 := of_decide_eq_true hc
      match c, hl, hf with
      | 0, _, hf =>
        have e : 3 = f := Option.some.inj hf
        subst e
        exact ⟨f3, ⟨f3_a, f3_i, f3_k⟩, a3⟩
    | 3, hx =>
      have e : ("story" : Str) = x := Option.some.inj hx
      subst e
      refine ⟨mkB_nf (by decide +kernel), fun c f hc hf => ?_⟩
      have hl : c < 1 := of_decide_eq_true hc
      match c, hl, hf with
      | 0, _, hf =>
        have e : 4 = f := Option.some.inj hf
        subst e
        exact ⟨f4, ⟨f4_a, f4_i, f4_k⟩, a4⟩
    | 4, hx =>
      have e : ("holds" : Str) = x := Option.some.inj hx
      subst e
      refine ⟨mkB_nf (by decide +kernel), fun c f hc hf => ?_⟩
      have hl : c < 1 := of_decide_eq_true hc
      match c, hl, hf with
      | 0, _, hf =>
        have e : 5 = f := Option.some.inj hf
        subst e
        exact ⟨f5, ⟨f5_a, f5_i, f5_k⟩, a5⟩
    | _ + 5, hx => exact absurd hx (by intro z; cases z)
  · simp only [sta, List.mem_cons, List.not_mem_nil, or_false, Prod.mk.injEq] at h0
    obtain ⟨rfl, rfl⟩ := h0
    have e : ("do" : Str) = x := Option.some.inj hx
    subst e
    refine ⟨mkB_nf (by decide +kernel), fun c f hc hf => ?_⟩
    have hl : c < 1 := of_decide_eq_true hc
    match c, hl, hf with
    | 0, _, hf =>
      have e : 2 = f := Option.some.inj hf
      subst e
      exact ⟨f2, ⟨f2_a, f2_i, f2_k⟩, a2d⟩
end K10
open PySem PySem.W PyProof.Rows
set_option maxRecDepth 100000 in
set_option maxHeartbeats 0 in
theorem PySem.Challenge.cw_errandback_k10_houses_holds : PySem.Challenge.rw_errandback_k10_houses.Holds := by
  w_on; o_law; k_head; (case hw => w_witness2)
  k_fill
  refine Sn.walk (l := PySem.Challenge.rw_errandback_k10_houses) (k := 12) (x := "_law_script") rfl rfl ⟨rfl, by decide, by decide⟩ (fun w h Y => PySem.W.kIn_of Y) ?F
  case F =>
    intro w mg fa h KX G hmg
    refine' K10.head KX G hmg ?C0_a ?f0_a ?f0_i ?f0_l ?f0_c ?f0_k ?f1_a ?f1_i ?f1_l ?f1_c ?f1_k ?f2_a ?f2_i ?f2_l ?f2_d ?f2_c ?f2_k ?f3_a ?f3_i ?f3_l ?f3_c ?f3_k ?f4_a ?f4_i ?f4_l ?f4_c ?f4_k ?f5_a ?f5_i ?f5_l ?f5_c ?f5_k ?f6_a ?f6_l ?f6_c ?f6_k ?f7_a ?f7_l ?f7_c ?f7_k ?f8_a ?f8_l ?f8_c ?f8_k ?f9_a ?f9_l ?f9_c ?f9_k ?f10_a ?f10_l ?f10_c ?f10_k ?f11_a ?f11_l ?f11_c ?f11_k ?C0_pg ?C0_hd ?C0_po ?C0_sa ?C0_mk ?C0_kc ?C0_n0 ?C0_n1 ?C0_n2 ?z0 ?z1 ?z2 ?z3 ?z4 ?z5 ?z6 ?z7 ?z8 ?z9 ?z10 ?z11 ?z12 ?z13 ?z14 ?z15 ?z16 K10.math
    (case C0_a => k_is)
    (case f0_a => k_is)
    (case f0_i => k_is)
    (case f0_l => k_is)
    (case f0_c => k_is)
    (case f0_k => k_is)
    (case f1_a => k_is)
    (case f1_i => k_is)
    (case f1_l => k_is)
    (case f1_c => k_is)
    (case f1_k => k_is)
    (case f2_a => k_is)
    (case f2_i => k_is)
    (case f2_l => k_is)
    (case f2_d => k_is)
    (case f2_c => k_is)
    (case f2_k => k_is)
    (case f3_a => k_is)
    (case f3_i => k_is)
    (case f3_l => k_is)
    (case f3_c => k_is)
    (case f3_k => k_is)
    (case f4_a => k_is)
    (case f4_i => k_is)
    (case f4_l => k_is)
    (case f4_c => k_is)
    (case f4_k => k_is)
    (case f5_a => k_is)
    (case f5_i => k_is)
    (case f5_l => k_is)
    (case f5_c => k_is)
    (case f5_k => k_is)
    (case f6_a => k_is)
    (case f6_l => k_is)
    (case f6_c => k_is)
    (case f6_k => k_is)
    (case f7_a => k_is)
    (case f7_l => k_is)
    (case f7_c => k_is)
    (case f7_k => k_is)
    (case f8_a => k_is)
    (case f8_l => k_is)
    (case f8_c => k_is)
    (case f8_k => k_is)
    (case f9_a => k_is)
    (case f9_l => k_is)
    (case f9_c => k_is)
    (case f9_k => k_is)
    (case f10_a => k_is)
    (case f10_l => k_is)
    (case f10_c => k_is)
    (case f10_k => k_is)
    (case f11_a => k_is)
    (case f11_l => k_is)
    (case f11_c => k_is)
    (case f11_k => k_is)
    (case C0_pg => k_is)
    (case C0_hd => k_is)
    (case C0_po => k_is)
    (case C0_sa => k_is)
    (case C0_mk => k_is)
    (case C0_kc => k_is)
    (case C0_n0 => k_is)
    (case C0_n1 => k_is)
    (case C0_n2 => k_is)
    (case z0 => k_is)
    (case z1 => k_is)
    (case z2 => k_is)
    (case z3 => k_is)
    (case z4 => k_is)
    (case z5 => k_is)
    (case z6 => k_is)
    (case z7 => k_is)
    (case z8 => k_is)
    (case z9 => k_is)
    (case z10 => k_is)
    (case z11 => k_is)
    (case z12 => k_is)
    (case z13 => k_is)
    (case z14 => k_is)
    (case z15 => k_is)
    (case z16 => k_is)
