import PyProof.Rows.All
import Wide.All
import OpenK.AllK
import Wide.FinOn
import HandS.List
import HandS.Text
import KE.SortData
import HandS.ForMost
import HandS.ForExc
import HandS.TupAny
import HandS.IsInst
import HandS.Deep
import HandS.CallSlots
import HandS.Defaults
import HandS.Strs
import HandS.Zip
import HandS.TupSets
import HandS.SetFor
import HandS.SortKw
import KE.DataFind
import KE.DataMinMax
import HandS.Iter
import KE.GoesZip
import KE.GoesMore
import HandS.ExcInit
import HandS.RevRange
import HandS.WordsExc
import PySem.Challenge.RW_errandback_k02_rows_of_steps
set_option Elab.async false
section
/-! A small deterministic machine for the programs at hand: values, a store, code, runs. Places by the library's own functions. -/
set_option autoImplicit false
set_option linter.all false
namespace Ab
abbrev Txt := List Nat
inductive Val where
  | non | bl (b : Bool) | int (i : Int) | str (s : Txt) | tup (vs : List Val) | lst (vs : List Val) | loc (l : Nat) | scr (ns : List Int) | exc (c : Nat) (fs : List (Nat × Val))
  deriving Inhabited
abbrev AKey := List (Sum Int Txt)
inductive SO where
  | list (vs : List Val)
  | dS (kvs : List (Txt × Val))
  | dT (kvs : List (AKey × Val))
  | dTf (kvs : List (AKey × Val))
  | inst (c : Nat) (fs : List (Nat × Val))
  deriving Inhabited
abbrev Sto := List SO
structure Exc where
  cls : Nat
  fs : List (Nat × Val)
abbrev R (α : Type) := Option (Except Exc α × Sto)
def ok {α : Type} (a : α) (s : Sto) : R α := some (.ok a, s)
def bnd {α β : Type} (m : R α) (k : α → Sto → R β) : R β := match m with
  | none => none
  | some (.error e, s) => some (.error e, s)
  | some (.ok a, s) => k a s
def lift {α : Type} (o : Option (α × Sto)) : R α := match o with
  | none => none
  | some (a, s) => ok a s
/-- a value that leaves the store alone -/
def pur {α : Type} (s : Sto) (o : Option α) : R α := match o with
  | none => none
  | some a => ok a s
def LIM : Nat := 100000

/-! ### values -/
mutual
def Val.beq : Val → Val → Bool
  | .non, .non => true
  | .bl a, .bl b => a == b
  | .int a, .int b => a == b
  | .str a, .str b => a == b
  | .tup a, .tup b => Val.beqs a b
  | .lst a, .lst b => Val.beqs a b
  | .loc a, .loc b => a == b
  | .scr a, .scr b => a == b
  | _, _ => false
def Val.beqs : List Val → List Val → Bool
  | [], [] => true
  | a :: r, b :: t => Val.beq a b && Val.beqs r t
  | _, _ => false
end
mutual
theorem Val.beq_eq : ∀ (a b : Val), Val.beq a b = true → a = b
  | .non, b, h => by cases b <;> simp_all [Val.beq]
  | .bl _, b, h => by cases b <;> simp_all [Val.beq]
  | .int _, b, h => by cases b <;> simp_all [Val.beq]
  | .str _, b, h => by cases b <;> simp_all [Val.beq]
  | .loc _, b, h => by cases b <;> simp_all [Val.beq]
  | .scr _, b, h => by cases b <;> simp_all [Val.beq]
  | .exc _ _, b, h => by cases b <;> simp_all [Val.beq]
  | .tup x, b, h => by
    cases b <;> simp [Val.beq] at h
    rw [Val.beqs_eq _ _ h]
  | .lst x, b, h => by
    cases b <;> simp [Val.beq] at h
    rw [Val.beqs_eq _ _ h]
theorem Val.beqs_eq : ∀ (a b : List Val), Val.beqs a b = true → a = b
  | [], b, h => by cases b <;> simp_all [Val.beqs]
  | x :: r, [], h => by simp [Val.beqs] at h
  | x :: r, y :: t, h => by
    simp [Val.beqs] at h
    rw [Val.beq_eq _ _ h.1, Val.beqs_eq _ _ h.2]
end
/-- lists behind places are read; texts, tuples, numbers as they are. Fuel: the depth -/
def res (s : Sto) : Nat → Val → Option Val
  | 0, _ => none
  | n + 1, v => match v with
    | .non => some .non
    | .bl b => some (.bl b)
    | .int i => some (.int i)
    | .str x => some (.str x)
    | .tup vs => (vs.mapM (res s n)).map .tup
    | .lst vs => (vs.mapM (res s n)).map .lst
    | .loc l => match s[l]? with
      | some (.list vs) => (vs.mapM (res s n)).map .lst
      | _ => none
    | _ => none
/-- truth values count among the numbers -/
def numOf : Val → Option Int
  | .int i => some i
  | .bl b => some (if b = true then 1 else 0)
  | _ => none
mutual
def pyEq : Val → Val → Bool
  | .tup a, w => match w with
    | .tup b => pyEqs a b
    | _ => false
  | .lst a, w => match w with
    | .lst b => pyEqs a b
    | _ => false
  | .str a, w => match w with
    | .str b => a == b
    | _ => false
  | .non, w => match w with
    | .non => true
    | _ => false
  | v, w => match numOf v, numOf w with
    | some i, some j => i == j
    | _, _ => false
def pyEqs : List Val → List Val → Bool
  | [], ys => ys.isEmpty
  | a :: r, ys => match ys with
    | [] => false
    | b :: t => pyEq a b && pyEqs r t
end
def DEEP : Nat := 12
def eqV (s : Sto) (a b : Val) : Option Bool :=
  match res s DEEP a, res s DEEP b with
  | some x, some y => some (pyEq x y)
  | _, _ => none
def alloc (m : Bool) (vs : List Val) (s : Sto) : Val × Sto := if m = true then (.loc s.length, s ++ [.list vs]) else (.lst vs, s)
/-- a list's items -/
def lstOf (s : Sto) : Val → Option (List Val)
  | .lst vs => some vs
  | .loc l => match s[l]? with
    | some (.list vs) => some vs
    | _ => none
  | _ => none
def seqOf (s : Sto) : Val → Option (List Val)
  | .tup vs => some vs
  | v => lstOf s v
/-- what lies from one place to another -/
def cut {α : Type} (xs : List α) (lo hi : Option Int) : List α := (xs.take (HT.sIx xs.length xs.length hi)).drop (HT.sIx xs.length 0 lo)
/-! ### operators -/
inductive BOp where
  | add | sub | mul | fdiv | mod | pow
inductive COp where
  | eq | ne | lt | le | gt | ge | inn | notin
def mulOk (i j : Int) : Bool := decide ((-(2 ^ 64) < i ∧ i < 2 ^ 64) ∨ (-(2 ^ 64) < j ∧ j < 2 ^ 64))
def binV (op : BOp) (m : Bool) (a b : Val) (s : Sto) : Option (Val × Sto) :=
  match op, a, b with
  | .add, .int i, .int j => some (.int (i + j), s)
  | .add, .str x, .str y => if x.length + y.length ≤ LIM then some (.str (x ++ y), s) else none
  | .add, .tup x, .tup y => if x.length + y.length ≤ LIM then some (.tup (x ++ y), s) else none
  | .add, a, b => match lstOf s a, lstOf s b with
    | some x, some y => if x.length + y.length ≤ LIM then some (alloc m (x ++ y) s) else none
    | _, _ => none
  | .sub, .int i, .int j => some (.int (i - j), s)
  | .mul, .int i, .int j => if mulOk i j = true then some (.int (i * j), s) else none
  | .fdiv, .int i, .int j => if 0 < j ∧ j < 1073741824 then some (.int (i / j), s) else none
  | .mod, .int i, .int j => if 0 < j then some (.int (i % j), s) else none
  | _, _, _ => none
def keyOf : List Val → Option AKey
  | [] => some []
  | .int i :: r => (keyOf r).map (Sum.inl i :: ·)
  | .str x :: r => (keyOf r).map (Sum.inr x :: ·)
  | _ => none
def dget {κ : Type} [DecidableEq κ] : List (κ × Val) → κ → Option Val
  | [], _ => none
  | p :: r, k => if p.1 = k then some p.2 else dget r k
/-- each entry of that key gets the value; a new key comes last -/
def dput {κ : Type} [DecidableEq κ] (kvs : List (κ × Val)) (k : κ) (v : Val) : List (κ × Val) :=
  match dget kvs k with
  | some _ => kvs.map fun p => (p.1, if p.1 = k then v else p.2)
  | none => kvs ++ [(k, v)]
/-- what a dict holds: some none: nothing there -/
def dlook (s : Sto) (d k : Val) : Option (Option Val) :=
  match d with
  | .loc l => match s[l]?, k with
    | some (.dS kvs), .str x => some (dget kvs x)
    | some (.dT kvs), .tup ks => (keyOf ks).map (dget kvs)
    | some (.dTf kvs), .tup ks => (keyOf ks).map (dget kvs)
    | _, _ => none
  | _ => none
/-- whether x is in a list (tuple) or a text, a dict -/
def inV (s : Sto) (x y : Val) : Option Bool :=
  match y with
  | .str t => match x with
    | .str [c] => some (decide (c ∈ t))
    | _ => none
  | .loc l => match s[l]? with
    | some (.list _) => match res s DEEP x, res s DEEP y with
      | some d, some (.lst ds) => some (ds.any fun z => pyEq z d)
      | _, _ => none
    | some _ => (dlook s y x).map (·.isSome)
    | none => none
  | .lst _ => match res s DEEP x, res s DEEP y with
    | some d, some (.lst ds) => some (ds.any fun z => pyEq z d)
    | _, _ => none
  | _ => none
def flat : Val → Bool
  | .non => true
  | .bl _ => true
  | .int _ => true
  | .str _ => true
  | _ => false
/-- in a tuple of flat things -/
def inT (x : Val) (vs : List Val) : Option Bool := if flat x = true ∧ vs.all flat = true then some (vs.any fun z => pyEq z x) else none
def cmpV (op : COp) (a b : Val) (s : Sto) : Option Bool :=
  match op with
  | .eq => eqV s a b
  | .ne => (eqV s a b).map not
  | .inn => match b with
    | .tup vs => inT a vs
    | _ => inV s a b
  | .notin => match b with
    | .tup vs => (inT a vs).map not
    | _ => (inV s a b).map not
  | .lt => match a, b with
    | .int i, .int j => some (decide (i < j))
    | _, _ => none
  | .le => match a, b with
    | .int i, .int j => some (decide (i ≤ j))
    | _, _ => none
  | .gt => match a, b with
    | .int i, .int j => some (decide (j < i))
    | _, _ => none
  | .ge => match a, b with
    | .int i, .int j => some (decide (j ≤ i))
    | _, _ => none
def itemV (a i : Val) (s : Sto) : Option Val :=
  match a, i with
  | .str x, .int k => if x.length ≤ LIM then (L2.atI x k).map fun c => .str [c] else none
  | a, .int k => (seqOf s a).bind fun vs => L2.atI vs k
  | a, k => (dlook s a k).bind id
def optI : Val → Option (Option Int)
  | .non => some none
  | .int i => some (some i)
  | _ => none
def sliceV (m : Bool) (a : Val) (lo hi : Option Int) (s : Sto) : Option (Val × Sto) :=
  match a with
  | .str x => if x.length ≤ LIM then some (.str (cut x lo hi), s) else none
  | .tup vs => some (.tup (cut vs lo hi), s)
  | a => (lstOf s a).map fun vs => alloc m (cut vs lo hi) s
/-! ### built-in functions and methods -/
/-- how many of the first i are unlike all ahead of them -/
def unl {κ : Type} [DecidableEq κ] (xs : List κ) : Nat → Nat
  | 0 => 0
  | i + 1 => unl xs i + (match xs[i]? with
    | some x => if x ∈ xs.take i then 0 else 1
    | none => 0)
theorem unl_le {κ : Type} [DecidableEq κ] (xs : List κ) : ∀ i, unl xs i ≤ i
  | 0 => Nat.le_refl _
  | i + 1 => by
    have := unl_le xs i
    unfold unl
    split
    · split <;> omega
    · omega
inductive BI where
  | len | list | tuple | sorted | all | any | int | max2 | min2 | maxD | isB | isI | isS | isT | isL | lenset
mutual
/-- as the library's data -/
def toD : Val → PySem.PyData
  | .non => .none
  | .bl b => .bool b
  | .int i => .int i
  | .str s => .str ⟨s.toArray⟩
  | .tup vs => .tuple (toDs vs)
  | .lst vs => .list (toDs vs)
  | _ => .dict []
def toDs : List Val → List PySem.PyData
  | [] => []
  | v :: r => toD v :: toDs r
end
/-- sorted, by the library's order of data -/
def sortV (vs : List Val) : List Val := vs.mergeSort (PySem.W.dataLe false toD)
/-- the shapes that are sorted here: ints, texts, pairs and triples of texts -/
def shape : Val → Nat
  | .int _ => 1
  | .str _ => 2
  | .tup [.str _, .str _] => 3
  | .tup [.str _, .str _, .str _] => 4
  | _ => 0
/-- all of one shape -/
def sortable : List Val → Bool
  | [] => true
  | v :: r => shape v != 0 && r.all fun w => shape w == shape v
def boolsOf : List Val → Option (List Bool)
  | [] => some []
  | .bl b :: r => (boolsOf r).map (b :: ·)
  | _ => none
def intsOf : List Val → Option (List Int)
  | [] => some []
  | .int b :: r => (intsOf r).map (b :: ·)
  | _ => none
def strsOf : List Val → Option (List Txt)
  | [] => some []
  | .str b :: r => (strsOf r).map (b :: ·)
  | _ => none
def isKind (b : BI) (s : Sto) (v : Val) : Option Bool :=
  match v with
  | .non => some false
  | .bl _ => match b with
    | .isB | .isI => some true
    | _ => some false
  | .int _ => match b with
    | .isI => some true
    | _ => some false
  | .str _ => match b with
    | .isS => some true
    | _ => some false
  | .tup _ => match b with
    | .isT => some true
    | _ => some false
  | .lst _ => match b with
    | .isL => some true
    | _ => some false
  | .loc l => match s[l]? with
    | some (.list _) => match b with
      | .isL => some true
      | _ => some false
    | _ => none
  | _ => none
def biV (b : BI) (m : Bool) (vs : List Val) (s : Sto) : Option (Val × Sto) :=
  match b, vs with
  | .len, [.str x] => if x.length ≤ LIM then some (.int x.length, s) else none
  | .len, [.scr ns] => some (.int ns.length, s)
  | .len, [.loc l] => match s[l]? with
    | some (.list vs) => some (.int vs.length, s)
    | some (.dS kvs) => some (.int kvs.length, s)
    | _ => none
  | .len, [v] => (seqOf s v).map fun vs => (.int vs.length, s)
  | .list, [.scr ns] => some (alloc m (ns.map .int) s)
  | .list, [v] => (seqOf s v).map fun vs => alloc m vs s
  | .tuple, [v] => (seqOf s v).map fun vs => (.tup vs, s)
  | .sorted, [v] => (lstOf s v).bind fun vs => if sortable vs = true ∧ vs.length < 64 then some (alloc m (sortV vs) s) else none
  | .all, [v] => ((lstOf s v).bind boolsOf).map fun bs => (.bl (bs.all id), s)
  | .any, [v] => ((lstOf s v).bind boolsOf).map fun bs => (.bl (bs.any id), s)
  | .int, [.int i] => some (.int i, s)
  | .int, [.bl b] => some (.int (if b then 1 else 0), s)
  | .max2, [.int i, .int j] => some (.int (if j > i then j else i), s)
  | .min2, [.int i, .int j] => some (.int (if j < i then j else i), s)
  | .maxD, [v] => ((lstOf s v).bind intsOf).map fun ns => (.int (ns.foldl (fun a b => if b > a then b else a) (ns.headD 0)), s)
  | .lenset, [v] => ((lstOf s v).bind strsOf).bind fun xs => if xs.length ≤ 4000 then some (.int (unl xs xs.length : Nat), s) else none
  | .isB, [v] => (isKind .isB s v).map fun b => (.bl b, s)
  | .isI, [v] => (isKind .isI s v).map fun b => (.bl b, s)
  | .isS, [v] => (isKind .isS s v).map fun b => (.bl b, s)
  | .isT, [v] => (isKind .isT s v).map fun b => (.bl b, s)
  | .isL, [v] => (isKind .isL s v).map fun b => (.bl b, s)
  | _, _ => none
inductive BM where
  | append | pop | popAt | remove | index | indexD | clear | extend | count | join | sindex | get1 | get2 | update
/-- texts one behind the other, sep between two -/
def joinT (sep : Txt) (xs : List Txt) : Txt := TL.joinL sep xs
def first {α : Type} (p : α → Bool) : List α → Option Nat
  | [] => none
  | x :: r => if p x = true then some 0 else (first p r).map (· + 1)
def bmO (b : BM) (o : Val) (vs : List Val) (s : Sto) : Option (Val × Sto) :=
  match b, o, vs with
  | .append, .loc l, [v] => match s[l]? with
    | some (.list xs) => if xs.length < LIM then some (.non, s.set l (.list (xs ++ [v]))) else none
    | _ => none
  | .pop, .loc l, [] => match s[l]? with
    | some (.list xs) => match xs[xs.length - 1]? with
      | some y => some (y, s.set l (.list xs.dropLast))
      | none => none
    | _ => none
  | .popAt, .loc l, [.int i] => match s[l]? with
    | some (.list xs) => if 0 ≤ i ∧ i < 1000000000 then (match xs[i.toNat]? with
      | some y => some (y, s.set l (.list (xs.eraseIdx i.toNat)))
      | none => none) else none
    | _ => none
  | .clear, .loc l, [] => match s[l]? with
    | some (.list _) => some (.non, s.set l (.list []))
    | _ => none
  | .extend, .loc l, [v] => match s[l]?, lstOf s v with
    | some (.list xs), some ys => if xs.length + ys.length ≤ LIM then some (.non, s.set l (.list (xs ++ ys))) else none
    | _, _ => none
  | .index, o, [v] => match lstOf s o with
    | some xs => if flat v = true ∧ xs.all flat = true then (first (fun z => pyEq z v) xs).map fun j => (.int j, s) else none
    | none => none
  | .join, .str sep, [v] => ((lstOf s v).bind strsOf).bind fun xs => if (xs.map List.length).sum + xs.length * sep.length ≤ LIM then some (.str (joinT sep xs), s) else none
  | .sindex, .str t, [.str [c]] => (first (· == c) t).map fun j => (.int j, s)
  | .get1, d, [k] => (dlook s d k).map fun o => (o.getD .non, s)
  | .get2, d, [k, z] => (dlook s d k).map fun o => (o.getD z, s)
  | _, _, _ => none
def bmR (o : Val) (vs : List Val) (s : Sto) : Option (Val × Sto) := match o, vs with
  | .loc l, [v] => match s[l]? with
    | some (.list xs) => match xs.mapM (res s DEEP), res s DEEP v with
      | some ds, some d => (first (fun z => pyEq z d) ds).map fun j => (.non, s.set l (.list (xs.eraseIdx j)))
      | _, _ => none
    | _ => none
  | _, _ => none
def bmC (o : Val) (vs : List Val) (s : Sto) : Option (Val × Sto) := match vs with
  | [v] => match lstOf s o with
    | some xs => match xs.mapM (res s DEEP), res s DEEP v with
      | some ds, some d => some (.int (ds.countP fun z => pyEq z d : Nat), s)
      | _, _ => none
    | none => none
  | _ => none
def bmI (o : Val) (vs : List Val) (s : Sto) : Option (Val × Sto) := match vs with
  | [v] => match lstOf s o with
    | some xs => match xs.mapM (res s DEEP), res s DEEP v with
      | some ds, some d => (first (fun z => pyEq z d) ds).map fun j => (.int j, s)
      | _, _ => none
    | none => none
  | _ => none
def bmV (b : BM) (o : Val) (vs : List Val) (s : Sto) : Option (Val × Sto) := match b with
  | .remove => bmR o vs s
  | .count => bmC o vs s
  | .indexD => bmI o vs s
  | b => bmO b o vs s
/-- the object of a method is of its type -/
def bmTy (b : BM) (o : Val) (s : Sto) : Bool := match b with
  | .join | .sindex => match o with
    | .str _ => true
    | _ => false
  | .get1 | .get2 | .update => match o with
    | .loc l => match s[l]? with
      | some (.dS _) => true
      | some (.dT _) => true
      | some (.dTf _) => true
      | _ => false
    | _ => false
  | _ => (lstOf s o).isSome
/-- d[k] = v, xs[i] = v -/
def setV (o i v : Val) (s : Sto) : Option Sto :=
  match o with
  | .loc l => match s[l]?, i with
    | some (.list xs), .int k => (L2.ixN xs.length k).map fun j => s.set l (.list (xs.set j v))
    | some (.dS kvs), .str x => if kvs.length < LIM then some (s.set l (.dS (dput kvs x v))) else none
    | some (.dT kvs), .tup ks => if kvs.length < LIM then (keyOf ks).map fun k => s.set l (.dT (dput kvs k v)) else none
    | _, _ => none
  | _ => none
/-! ### code -/
inductive Tg where
  | name (i : Nat)
  | names (is : List Nat)
mutual
inductive Ex where
  | var (i : Nat)
  | cst (v : Val)
  | bin (op : BOp) (m : Bool) (a b : Ex)
  | cmp (op : COp) (a b : Ex)
  | glob (g : Nat)
  | maxD (a : Ex)
  | lenset (a : Ex)
  | inK (g : Nat) (neg : Bool) (a : Ex)
  | listK (g : Nat) (m : Bool)
  | isN (neg : Bool) (a : Ex)
  | andE (a b : Ex)
  | orE (a b : Ex)
  | notE (a : Ex)
  | ite (c a b : Ex)
  | tup (es : List Ex)
  | lst (m : Bool) (es : List Ex)
  | dS (ks vs : List Ex)
  | dT
  | item (a i : Ex)
  | slice (m : Bool) (a : Ex) (lo hi : Option Ex)
  | fld (a : Ex) (f : Nat)
  | bi (b : BI) (m : Bool) (es : List Ex)
  | vals (m : Bool) (d : Ex)
  | bm (b : BM) (o : Ex) (es : List Ex)
  | call (f : Nat) (es : List Ex)
  | mk (c : Nat) (es : List Ex)
  | meth (m : Nat) (o : Ex) (es : List Ex)
  | methD (m : Nat) (o : Ex) (es : List Ex)
  | methK (m : Nat) (o : Ex) (es : List Ex) (e : Ex)
  | comp (m : Bool) (elt : Ex) (tg : Tg) (it : It) (cond : Option Ex) (own : List Nat)
inductive It where
  | val (e : Ex)
  | rng1 (e : Ex)
  | rng2 (a b : Ex)
  | rrng (e : Ex)
  | enum (e : Ex)
  | zip (a b : Ex)
  | keys (e : Ex)
end
inductive Stm where
  | asg (t : Tg) (e : Ex)
  | asgF (o : Ex) (f : Nat) (e : Ex)
  | asgI (o i : Ex) (e : Ex)
  | augN (i : Nat) (op : BOp) (e : Ex)
  | augF (o : Ex) (f : Nat) (op : BOp) (e : Ex)
  | expr (e : Ex)
  | ret (e : Ex)
  | retN
  | ifS (c : Ex) (a b : List Stm)
  | forS (t : Tg) (it : It) (b : List Stm)
  | forK (t : Tg) (e : Ex) (b : List Stm)
  | whl (c : Ex) (b : List Stm)
  | pass
  | brk
  | cont
  | stuck
  | raise (c : Nat) (es : List Ex)
  | tryS (b : List Stm) (c : Nat) (x : Option Nat) (h : List Stm)
structure Fn where
  np : Nat
  ns : Nat
  body : List Stm
structure Tab where
  code : Nat → Option Fn
  init : Nat → Nat
  meth : Nat → Nat → Option Nat
  gv : Nat → List Val
structure Ctx where
  T : Tab
  call : Nat → List Val → Sto → R Val
  init : Nat → List Val → Sto → R Val
/-! ### runs -/
abbrev Env := List (Option Val)
def wipe (en : Env) : List Nat → Env
  | [] => en
  | v :: vs => (wipe en vs).set v none
def setAll (en : Env) : List Nat → List Val → Option Env
  | [], [] => some en
  | i :: is, v :: vs => setAll (en.set i (some v)) is vs
  | _, _ => none
def bindT (t : Tg) (v : Val) (en : Env) : Option Env :=
  match t with
  | .name i => some (en.set i (some v))
  | .names is => match v with
    | .tup vs => setAll en is vs
    | _ => none
/-- a list that is walked stands as it stood -/
def still (c : Option (Nat × List Val)) (s : Sto) : Bool :=
  match c with
  | none => true
  | some (l, vs) => match s[l]? with
    | some (.list ws) => Val.beqs ws vs
    | _ => false
abbrev Walk := List Val × Option (Nat × List Val)
def walkV (s : Sto) : Val → Option Walk
  | .tup vs => some (vs, none)
  | .lst vs => some (vs, none)
  | .scr ns => some (ns.map .int, none)
  | .str x => some (x.map fun c => .str [c], none)
  | .loc l => match s[l]? with
    | some (.list vs) => some (vs, some (l, vs))
    | _ => none
  | _ => none
def rngV (lo : Int) (n : Nat) : List Val := (List.range n).map fun k => .int (lo + (k : Nat))
def rngOk (i j : Int) : Bool := decide (-1000000000 ≤ i ∧ i ≤ 1000000000 ∧ -1000000000 ≤ j ∧ j ≤ 1000000000)
def enumV (n : Nat) : List Val → List Val
  | [] => []
  | v :: r => .tup [.int n, v] :: enumV (n + 1) r
def zipV : List Val → List Val → List Val
  | a :: r, b :: t => .tup [a, b] :: zipV r t
  | _, _ => []
/-- the items kept by a comprehension -/
def compL (c : Option (Nat × List Val)) (f : Val → Sto → R (Option Val)) : List Val → Sto → R (List Val)
  | [], s => if still c s = true then ok [] s else none
  | v :: r, s => if still c s = true then
      (match f v s with
      | some (.ok o, s1) => (match compL c f r s1 with
        | some (.ok vs, s2) => ok (o.toList ++ vs) s2
        | _ => none)
      | _ => none) else none
mutual
def ev (C : Ctx) : Ex → Env → Sto → R Val
  | .var i, en, s => match en[i]? with
    | some (some v) => ok v s
    | _ => none
  | .cst v, _, s => ok v s
  | .bin op m a b, en, s => bnd (ev C a en s) fun x s => bnd (ev C b en s) fun y s => lift (binV op m x y s)
  | .cmp op a b, en, s => bnd (ev C a en s) fun x s => bnd (ev C b en s) fun y s => pur s ((cmpV op x y s).map .bl)
  | .glob g, _, s => ok ((C.T.gv g).headD .non) s
  | .maxD a, en, s => bnd (ev C a en s) fun x s => lift (biV .maxD false [x] s)
  | .lenset a, en, s => bnd (ev C a en s) fun x s => lift (biV .lenset false [x] s)
  | .inK g neg a, en, s => bnd (ev C a en s) fun x s => pur s ((inT x (C.T.gv g)).map fun b => .bl (if neg = true then !b else b))
  | .listK g m, _, s => lift (some (alloc m (C.T.gv g) s))
  | .isN neg a, en, s => bnd (ev C a en s) fun x s => ok (.bl (match x with
    | .non => !neg
    | _ => neg)) s
  | .andE a b, en, s => bnd (ev C a en s) fun x s => match x with
    | .bl true => bnd (ev C b en s) fun y s => (match y with
      | .bl c => ok (.bl c) s
      | _ => none)
    | .bl false => ok (.bl false) s
    | _ => none
  | .orE a b, en, s => bnd (ev C a en s) fun x s => match x with
    | .bl true => ok (.bl true) s
    | .bl false => bnd (ev C b en s) fun y s => (match y with
      | .bl c => ok (.bl c) s
      | _ => none)
    | _ => none
  | .notE a, en, s => bnd (ev C a en s) fun x s => match x with
    | .bl b => ok (.bl (!b)) s
    | _ => none
  | .ite c a b, en, s => bnd (ev C c en s) fun x s => match x with
    | .bl true => ev C a en s
    | .bl false => ev C b en s
    | _ => none
  | .tup es, en, s => bnd (evs C es en s) fun vs s => if vs.length ≤ LIM then ok (.tup vs) s else none
  | .lst m es, en, s => bnd (evs C es en s) fun vs s => if vs.length ≤ LIM then lift (some (alloc m vs s)) else none
  | .dS ks vs, en, s => if ks.isEmpty = true ∧ vs.isEmpty = true then ok (.loc s.length) (s ++ [.dS []]) else none
  | .dT, _, s => ok (.loc s.length) (s ++ [.dT []])
  | .item a i, en, s => bnd (ev C a en s) fun x s => bnd (ev C i en s) fun y s => pur s (itemV x y s)
  | .slice m a lo hi, en, s => bnd (ev C a en s) fun x s => bnd (evo C lo en s) fun l s => bnd (evo C hi en s) fun h s => lift (sliceV m x l h s)
  | .fld a f, en, s => bnd (ev C a en s) fun x s => match x with
    | .loc l => (match s[l]? with
      | some (.inst _ fs) => pur s (fs.lookup f)
      | _ => none)
    | .exc _ fs => pur s (fs.lookup f)
    | _ => none
  | .bi b m es, en, s => bnd (evs C es en s) fun vs s => lift (biV b m vs s)
  | .vals m d, en, s => bnd (ev C d en s) fun x s => match x with
    | .loc l => (match s[l]? with
      | some (.dS kvs) => lift (some (alloc m (kvs.map (·.2)) s))
      | _ => none)
    | _ => none
  | .bm b o es, en, s => bnd (ev C o en s) fun x s => if bmTy b x s = true then bnd (evs C es en s) fun vs s => lift (bmV b x vs s) else none
  | .call f es, en, s => bnd (evs C es en s) fun vs s => C.call f vs s
  | .mk c es, en, s => bnd (evs C es en s) fun vs s => bnd (C.init (C.T.init c) (.loc s.length :: vs) (s ++ [.inst c []])) fun r s1 => match r with
    | .non => ok (.loc s.length) s1
    | _ => none
  | .meth m o es, en, s => bnd (ev C o en s) fun x s => match x with
    | .loc l => (match s[l]? with
      | some (.inst c fs) => (match C.T.meth c m with
        | some f => bnd (evs C es en s) fun vs s => C.call f (.loc l :: vs) s
        | none => none)
      | _ => none)
    | _ => none
  | .methD m o es, en, s => bnd (ev C o en s) fun x s => match x with
    | .loc l => (match s[l]? with
      | some (.inst c fs) => (match C.T.meth c m with
        | some f => bnd (evs C es en s) fun vs s => C.call f (.loc l :: (vs ++ [.bl false])) s
        | none => none)
      | _ => none)
    | _ => none
  | .methK m o es e, en, s => bnd (ev C o en s) fun x s => match x with
    | .loc l => (match s[l]? with
      | some (.inst c fs) => (match C.T.meth c m with
        | some f => bnd (evs C es en s) fun vs s => bnd (ev C e en s) fun u s => C.call f (.loc l :: (vs ++ [u])) s
        | none => none)
      | _ => none)
    | _ => none
  | .comp m elt tg it cond own, en, s => bnd (evi C it en s) fun w s =>
    if w.1.length ≤ LIM then bnd (compL w.2 (fun v s => match bindT tg v (wipe en own) with
      | none => none
      | some en1 => bnd (evc C cond en1 s) fun c s => if c = true then bnd (ev C elt en1 s) fun x s => ok (some x) s else ok none s) w.1 s) fun vs s => lift (some (alloc m vs s)) else none
def evs (C : Ctx) : List Ex → Env → Sto → R (List Val)
  | [], _, s => ok [] s
  | e :: r, en, s => bnd (ev C e en s) fun v s => bnd (evs C r en s) fun vs s => ok (v :: vs) s
def evo (C : Ctx) : Option Ex → Env → Sto → R (Option Int)
  | none, _, s => ok none s
  | some e, en, s => bnd (ev C e en s) fun v s => match v with
    | .int i => ok (some i) s
    | _ => none
def evc (C : Ctx) : Option Ex → Env → Sto → R Bool
  | none, _, s => ok true s
  | some e, en, s => bnd (ev C e en s) fun v s => match v with
    | .bl b => ok b s
    | _ => none
def evi (C : Ctx) : It → Env → Sto → R Walk
  | .val e, en, s => bnd (ev C e en s) fun v s => pur s (walkV s v)
  | .rng1 e, en, s => bnd (ev C e en s) fun v s => match v with
    | .int j => if rngOk 0 j = true then ok (rngV 0 j.toNat, none) s else none
    | _ => none
  | .rng2 a b, en, s => bnd (ev C a en s) fun v s => bnd (ev C b en s) fun u s => match v, u with
    | .int i, .int j => if rngOk i j = true then ok (rngV i (j - i).toNat, none) s else none
    | _, _ => none
  | .rrng e, en, s => bnd (ev C e en s) fun v s => match v with
    | .int j => if rngOk 0 j = true then ok ((rngV 0 j.toNat).reverse, none) s else none
    | _ => none
  | .enum e, en, s => bnd (ev C e en s) fun v s => match v with
    | .tup vs => ok (enumV 0 vs, none) s
    | .lst vs => ok (enumV 0 vs, none) s
    | _ => none
  | .zip a b, en, s => bnd (ev C a en s) fun v s => bnd (ev C b en s) fun u s => match v, u with
    | .tup xs, .tup ys => ok (zipV xs ys, none) s
    | .lst xs, .lst ys => ok (zipV xs ys, none) s
    | .tup xs, .lst ys => ok (zipV xs ys, none) s
    | .tup xs, .loc l => (match s[l]? with
      | some (.list ys) => ok (zipV xs ys, some (l, ys)) s
      | _ => none)
    | _, _ => none
  | .keys _, _, _ => none
end
/-- an attribute is set: in its place, or last -/
def putF (f : Nat) (v : Val) : List (Nat × Val) → List (Nat × Val)
  | [] => [(f, v)]
  | p :: r => bif p.1 == f then (p.1, v) :: r else p :: putF f v r
/-- a number is put into an attribute of an instance of c -/
def addF (l c f : Nat) (n : Int) (s : Sto) : Option Sto := match s[l]? with
  | some (.inst k fs) => if k = c ∧ fs.length < 900 then some (s.set l (.inst c (putF f (.int n) fs))) else none
  | _ => none
inductive SR where
  | next | brk | cont | ret (v : Val) | err (e : Exc)
abbrev S := Option (SR × Env × Sto)
/-- behind an expression -/
def sb {α : Type} (m : R α) (en : Env) (k : α → Sto → S) : S := match m with
  | none => none
  | some (.error e, s) => some (.err e, en, s)
  | some (.ok a, s) => k a s
def sq (m : S) (k : Env → Sto → S) : S := match m with
  | some (.next, en, s) => k en s
  | r => r
def forL (c : Option (Nat × List Val)) (f : Val → Env → Sto → S) : List Val → Env → Sto → S
  | [], en, s => if still c s = true then some (.next, en, s) else none
  | v :: r, en, s => if still c s = true then (match f v en s with
      | some (.next, en1, s1) => forL c f r en1 s1
      | some (.cont, en1, s1) => forL c f r en1 s1
      | some (.brk, en1, s1) => some (.next, en1, s1)
      | x => x) else none
def whlL (c : Env → Sto → R Val) (f : Env → Sto → S) : Nat → Env → Sto → S
  | 0, _, _ => none
  | n + 1, en, s => sb (c en s) en fun v s => match v with
    | .bl true => (match f en s with
      | some (.next, en1, s1) => whlL c f n en1 s1
      | some (.cont, en1, s1) => whlL c f n en1 s1
      | some (.brk, en1, s1) => some (.next, en1, s1)
      | x => x)
    | .bl false => some (.next, en, s)
    | _ => none
/-- a key as a value -/
def keyV (k : AKey) : Val := .tup (k.map fun
  | .inl i => .int i
  | .inr t => .str t)
/-- what was locked is free again -/
def unlock (l : Nat) (s : Sto) : Option Sto := match s[l]? with
  | some (.dTf kvs) => some (s.set l (.dT kvs))
  | _ => none
/-- the keys of a dict, one after the other: it stands still meanwhile -/
def forKeys (c : Sto → R Val) (f : Val → Env → Sto → S) (en : Env) (s : Sto) : S := match c s with
  | some (.ok (.loc l), _) => (match s[l]? with
    | some (.dT kvs) => (match c (s.set l (.dTf kvs)) with
      | some (.ok (.loc l'), s1) => if l' = l then (match forL none f (kvs.map fun p => keyV p.1) en s1 with
        | some (.next, en2, s2) => (unlock l s2).map fun s3 => (.next, en2, s3)
        | some (.ret v, en2, s2) => (unlock l s2).map fun s3 => (.ret v, en2, s3)
        | _ => none) else none
      | _ => none)
    | _ => none)
  | _ => none
def WF : Nat := 100000
mutual
def exec (C : Ctx) : Stm → Env → Sto → S
  | .asg t e, en, s => sb (ev C e en s) en fun v s => (bindT t v en).map fun en1 => (.next, en1, s)
  | .asgF o f e, en, s => sb (ev C e en s) en fun v s => sb (ev C o en s) en fun x s => match x with
    | .loc l => (match s[l]? with
      | some (.inst c fs) => if fs.length < 900 then some (.next, en, s.set l (.inst c (putF f v fs))) else none
      | _ => none)
    | _ => none
  | .asgI o i e, en, s => sb (ev C e en s) en fun v s => sb (ev C o en s) en fun x s => sb (ev C i en s) en fun y s => (setV x y v s).map fun s => (.next, en, s)
  | .augN i op e, en, s => match en[i]? with
    | some (some (.int a)) => sb (ev C e en s) en fun v s => (match v, op with
      | .int b, .add => some (.next, en.set i (some (.int (a + b))), s)
      | .int b, .sub => some (.next, en.set i (some (.int (a - b))), s)
      | _, _ => none)
    | _ => none
  | .augF o f op e, en, s => sb (ev C o en s) en fun x s => match x with
    | .loc l => (match s[l]? with
      | some (.inst c fs) => (match fs.lookup f with
        | some (.int a) => sb (ev C e en s) en fun v s => (match v, op with
          | .int b, .add => (addF l c f (a + b) s).map fun s => (.next, en, s)
          | .int b, .sub => (addF l c f (a - b) s).map fun s => (.next, en, s)
          | _, _ => none)
        | _ => none)
      | _ => none)
    | _ => none
  | .expr e, en, s => sb (ev C e en s) en fun _ s => some (.next, en, s)
  | .ret e, en, s => sb (ev C e en s) en fun v s => some (.ret v, en, s)
  | .retN, en, s => some (.ret .non, en, s)
  | .ifS c a b, en, s => sb (ev C c en s) en fun v s => match v with
    | .bl true => execs C a en s
    | .bl false => execs C b en s
    | _ => none
  | .forS t it b, en, s => sb (evi C it en s) en fun w s => forL w.2 (fun v en s => match bindT t v en with
    | some en1 => execs C b en1 s
    | none => none) w.1 en s
  | .forK t e b, en, s => forKeys (ev C e en) (fun v en s => match bindT t v en with
    | some en1 => execs C b en1 s
    | none => none) en s
  | .whl c b, en, s => whlL (ev C c) (execs C b) WF en s
  | .pass, en, s => some (.next, en, s)
  | .brk, en, s => some (.brk, en, s)
  | .cont, en, s => some (.cont, en, s)
  | .stuck, _, _ => none
  | .raise _ _, _, _ => none
  | .tryS _ _ _ _, _, _ => none
def execs (C : Ctx) : List Stm → Env → Sto → S
  | [], en, s => some (.next, en, s)
  | st :: r, en, s => sq (exec C st en s) fun en s => execs C r en s
end
def fin (m : S) : R Val := match m with
  | some (.next, _, s) => ok .non s
  | some (.ret v, _, s) => ok v s
  | some (.err e, _, s) => some (.error e, s)
  | _ => none
def runF (T : Tab) (call init : Nat → List Val → Sto → R Val) (f : Nat) (vs : List Val) (s : Sto) : R Val :=
  match T.code f with
  | none => none
  | some c => if vs.length = c.np then fin (execs { T := T, call := call, init := init } c.body (vs.map some ++ List.replicate (c.ns - c.np) none) s) else none
def callN (T : Tab) : Nat → Nat → List Val → Sto → R Val
  | 0 => fun _ _ _ => none
  | 1 => runF T (fun _ _ _ => none) (fun _ _ _ => none)
  | k + 2 => runF T (callN T (k + 1)) (callN T k)
end Ab
end
section
set_option Elab.async false
set_option linter.all false
set_option autoImplicit false
set_option maxRecDepth 100000
set_option maxHeartbeats 4000000
/-! The machine of Ab against the hand layer's heap: what stands for what. -/
namespace Sn
open PySem L2
open Ab (Val SO Sto Exc R Txt)
/-- where the classes stand, what the attributes are called -/
structure Bs where
  K : PySem.W.Frag
  A : Nat → Addr
  fld : Nat → Str
  inj : ∀ i j, fld i = fld j → i = j
  okC : Nat → Bool
  okF : Nat → Bool
variable {B : Bs}
abbrev str (s : Txt) : Str := ⟨s.toArray⟩
/-- signs that there are -/
def good (s : Txt) : Prop := ∀ c ∈ s, c < 1114112
mutual
def RV (B : Bs) (φ : List Addr) (F : Hp) : Val → V → Prop
  | .non, v => v = .non
  | .bl b, v => v = .bl b
  | .int i, v => v = .int i
  | .str s, v => v = .str (str s) ∧ good s
  | .tup vs, v => ∃ a xs, v = .ref a ∧ F a = some (.tup xs) ∧ RVs B φ F vs xs
  | .lst vs, v => ∃ a xs, v = .ref a ∧ F a = some (.lst xs) ∧ RVs B φ F vs xs
  | .loc l, v => ∃ a, v = .ref a ∧ φ[l]? = some a
  | .scr ns, v => ∃ a, v = .ref a ∧ SqL B.K F a (ns.map V.int)
  | .exc _ _, _ => False
def RVs (B : Bs) (φ : List Addr) (F : Hp) : List Val → List V → Prop
  | [], xs => xs = []
  | v :: vs, xs => ∃ x r, xs = x :: r ∧ RV B φ F v x ∧ RVs B φ F vs r
end
structure Le (φ : List Addr) (F : Hp) (φ' : List Addr) (F' : Hp) : Prop where
  p : ∀ (l : Nat) (a : Addr), φ[l]? = some a → φ'[l]? = some a
  f : ∀ a o, F a = some o → F' a = some o
theorem Le.refl (φ : List Addr) (F : Hp) : Le φ F φ F := ⟨fun _ _ h => h, fun _ _ h => h⟩
theorem Le.trans {φ φ1 φ2 : List Addr} {F F1 F2 : Hp} (a : Le φ F φ1 F1) (b : Le φ1 F1 φ2 F2) : Le φ F φ2 F2 := ⟨fun l x h => b.p l x (a.p l x h), fun x o h => b.f x o (a.f x o h)⟩
mutual
theorem RV.mono {φ φ' : List Addr} {F F' : Hp} (e : Le φ F φ' F') : ∀ {v : Val} {x : V}, RV B φ F v x → RV B φ' F' v x
  | .non, _, h => h
  | .bl _, _, h => h
  | .int _, _, h => h
  | .str _, _, h => h
  | .tup _, _, ⟨a, xs, r, f, q⟩ => ⟨a, xs, r, e.f _ _ f, RVs.mono e q⟩
  | .lst _, _, ⟨a, xs, r, f, q⟩ => ⟨a, xs, r, e.f _ _ f, RVs.mono e q⟩
  | .loc _, _, ⟨a, r, f⟩ => ⟨a, r, e.p _ _ f⟩
  | .scr _, _, ⟨a, r, f⟩ => ⟨a, r, Same.seq (show Same F F' from e.f) f⟩
  | .exc _ _, _, h => h
theorem RVs.mono {φ φ' : List Addr} {F F' : Hp} (e : Le φ F φ' F') : ∀ {v : List Val} {x : List V}, RVs B φ F v x → RVs B φ' F' v x
  | [], _, h => h
  | _ :: _, _, ⟨y, r, q, h1, h2⟩ => ⟨y, r, q, RV.mono e h1, RVs.mono e h2⟩
end
theorem RVs.length {φ : List Addr} {F : Hp} : ∀ {v : List Val} {x : List V}, RVs B φ F v x → v.length = x.length
  | [], _, h => by rw [show _ = [] from h]; rfl
  | _ :: _, _, ⟨y, r, q, h1, h2⟩ => by rw [q, List.length_cons, List.length_cons, RVs.length h2]
theorem RVs.get {φ : List Addr} {F : Hp} : ∀ {v : List Val} {x : List V} {i : Nat} {y : V}, RVs B φ F v x → x[i]? = some y → ∃ u, v[i]? = some u ∧ RV B φ F u y
  | [], _, i, y, h, e => by rw [show _ = [] from h] at e; simp at e
  | _ :: _, _, 0, y, ⟨z, r, q, h1, h2⟩, e => by subst q; simp at e; subst e; exact ⟨_, rfl, h1⟩
  | _ :: _, _, i + 1, y, ⟨z, r, q, h1, h2⟩, e => by
    subst q
    obtain ⟨u, a, b⟩ := RVs.get (i := i) h2 (by simpa using e)
    exact ⟨u, by simpa using a, b⟩
theorem RVs.got {φ : List Addr} {F : Hp} {v : List Val} {x : List V} {i : Nat} {u : Val} (h : RVs B φ F v x) (e : v[i]? = some u) : ∃ y, x[i]? = some y ∧ RV B φ F u y := by
  have hl := h.length
  have hi : i < x.length := by rw [← hl]; exact (List.getElem?_eq_some_iff.mp e).1
  obtain ⟨u', a, b⟩ := h.get (List.getElem?_eq_getElem hi)
  rw [e] at a
  cases a
  exact ⟨_, List.getElem?_eq_getElem hi, b⟩
theorem RVs.append {φ : List Addr} {F : Hp} : ∀ {v w : List Val} {x y : List V}, RVs B φ F v x → RVs B φ F w y → RVs B φ F (v ++ w) (x ++ y)
  | [], _, _, _, h, k => by rw [show _ = [] from h]; exact k
  | _ :: _, _, _, _, ⟨z, r, q, h1, h2⟩, k => ⟨z, r ++ _, by rw [q]; rfl, h1, RVs.append h2 k⟩
theorem RVs.drop {φ : List Addr} {F : Hp} : ∀ {v : List Val} {x : List V} (n : Nat), RVs B φ F v x → RVs B φ F (v.drop n) (x.drop n)
  | _, _, 0, h => h
  | [], _, n + 1, h => by rw [show _ = [] from h]; rfl
  | _ :: _, _, n + 1, ⟨z, r, q, h1, h2⟩ => by rw [q]; exact RVs.drop n h2
theorem RVs.take {φ : List Addr} {F : Hp} : ∀ {v : List Val} {x : List V} (n : Nat), RVs B φ F v x → RVs B φ F (v.take n) (x.take n)
  | _, _, 0, h => rfl
  | [], _, n + 1, h => by rw [show _ = [] from h]; rfl
  | _ :: _, _, n + 1, ⟨z, r, q, h1, h2⟩ => by rw [q]; exact ⟨z, r.take n, rfl, h1, RVs.take n h2⟩
theorem RVs.set {φ : List Addr} {F : Hp} {u : Val} {y : V} (hu : RV B φ F u y) : ∀ {v : List Val} {x : List V} (n : Nat), RVs B φ F v x → RVs B φ F (v.set n u) (x.set n y)
  | [], _, n, h => by rw [show _ = [] from h]; rfl
  | _ :: _, _, 0, ⟨z, r, q, h1, h2⟩ => by rw [q]; exact ⟨y, r, rfl, hu, h2⟩
  | _ :: _, _, n + 1, ⟨z, r, q, h1, h2⟩ => by rw [q]; exact ⟨z, r.set n y, rfl, h1, RVs.set hu n h2⟩
theorem RVs.erase {φ : List Addr} {F : Hp} : ∀ {v : List Val} {x : List V} (n : Nat), RVs B φ F v x → RVs B φ F (v.eraseIdx n) (x.eraseIdx n)
  | [], _, n, h => by rw [show _ = [] from h]; rfl
  | _ :: _, _, 0, ⟨z, r, q, h1, h2⟩ => by rw [q]; exact h2
  | _ :: _, _, n + 1, ⟨z, r, q, h1, h2⟩ => by rw [q]; exact ⟨z, r.eraseIdx n, rfl, h1, RVs.erase n h2⟩
theorem RVs.dropLast {φ : List Addr} {F : Hp} {v : List Val} {x : List V} (h : RVs B φ F v x) : RVs B φ F v.dropLast x.dropLast := by
  rw [List.dropLast_eq_take, List.dropLast_eq_take, h.length]
  exact h.take _
/-! ### attributes -/
def RFs (B : Bs) (φ : List Addr) (F : Hp) : List (Nat × Val) → List (Str × V) → Prop
  | [], xs => xs = []
  | p :: r, xs => ∃ x t, xs = (B.fld p.1, x) :: t ∧ RV B φ F p.2 x ∧ RFs B φ F r t
theorem RFs.mono {φ φ' : List Addr} {F F' : Hp} (e : Le φ F φ' F') : ∀ {v : List (Nat × Val)} {x : List (Str × V)}, RFs B φ F v x → RFs B φ' F' v x
  | [], _, h => h
  | _ :: _, _, ⟨y, r, q, h1, h2⟩ => ⟨y, r, q, h1.mono e, RFs.mono e h2⟩
theorem RFs.look {φ : List Addr} {F : Hp} {f : Nat} {v : Val} : ∀ {fs : List (Nat × Val)} {x : List (Str × V)}, RFs B φ F fs x → fs.lookup f = some v → ∃ y, x.lookup (B.fld f) = some y ∧ RV B φ F v y
  | [], _, h, e => by simp at e
  | (g, u) :: r, _, ⟨y, t, q, h1, h2⟩, e => by
    subst q
    by_cases c : f = g
    · subst c
      simp at e
      subst e
      exact ⟨y, by simp, h1⟩
    · have c1 : (f == g) = false := by simpa using c
      have c2 : (B.fld f == B.fld g) = false := by simpa using fun z => c (B.inj _ _ z)
      rw [List.lookup_cons, c1] at e
      obtain ⟨z, a, b⟩ := RFs.look h2 e
      refine ⟨z, ?_, b⟩
      show List.lookup (B.fld f) ((B.fld g, y) :: t) = some z
      rw [List.lookup_cons, c2]
      exact a
theorem RFs.put {φ : List Addr} {F : Hp} {f : Nat} {v : Val} {y : V} (hv : RV B φ F v y) : ∀ {fs : List (Nat × Val)} {x : List (Str × V)}, RFs B φ F fs x → RFs B φ F (Ab.putF f v fs) (L2.putF (B.fld f) y x)
  | [], _, h => by
    rw [show _ = [] from h]
    exact ⟨y, [], rfl, hv, rfl⟩
  | p :: r, _, ⟨z, t, q, h1, h2⟩ => by
    subst q
    by_cases c : p.1 = f
    · have e1 : Ab.putF f v (p :: r) = (p.1, v) :: r := by simp [Ab.putF, c]
      have e2 : L2.putF (B.fld f) y ((B.fld p.1, z) :: t) = (B.fld p.1, y) :: t := by
        unfold L2.putF
        rw [c, if_pos rfl]
      rw [e1, e2]
      exact ⟨y, t, rfl, hv, h2⟩
    · have e0 : (p.1 == f) = false := beq_eq_false_iff_ne.mpr c
      have e1 : Ab.putF f v (p :: r) = p :: Ab.putF f v r := by rw [Ab.putF, e0]; rfl
      have e2 : L2.putF (B.fld f) y ((B.fld p.1, z) :: t) = (B.fld p.1, z) :: L2.putF (B.fld f) y t := by
        conv => lhs; unfold L2.putF
        exact if_neg fun w => c (B.inj _ _ w)
      rw [e1, e2]
      exact ⟨z, _, rfl, h1, RFs.put hv h2⟩
theorem RFs.length {φ : List Addr} {F : Hp} : ∀ {v : List (Nat × Val)} {x : List (Str × V)}, RFs B φ F v x → v.length = x.length
  | [], _, h => by rw [show _ = [] from h]; rfl
  | _ :: _, _, ⟨y, r, q, h1, h2⟩ => by rw [q, List.length_cons, List.length_cons, RFs.length h2]
/-! ### dicts -/
def keyS (s : Txt) : Key := Sum.inr (str s)
def keyT (k : Ab.AKey) : List Key := k.map fun
  | .inl i => Sum.inl i
  | .inr s => Sum.inr (str s)
def RKs {α κ : Type} (B : Bs) (g : α → κ) (φ : List Addr) (F : Hp) : List (α × Val) → List (κ × V) → Prop
  | [], xs => xs = []
  | p :: r, xs => ∃ x t, xs = (g p.1, x) :: t ∧ RV B φ F p.2 x ∧ RKs B g φ F r t
theorem RKs.mono {α κ : Type} {g : α → κ} {φ φ' : List Addr} {F F' : Hp} (e : Le φ F φ' F') : ∀ {v : List (α × Val)} {x : List (κ × V)}, RKs B g φ F v x → RKs B g φ' F' v x
  | [], _, h => h
  | _ :: _, _, ⟨y, r, q, h1, h2⟩ => ⟨y, r, q, h1.mono e, RKs.mono e h2⟩
/-- the keys' texts are texts -/
def goodK (k : Ab.AKey) : Prop := ∀ t, Sum.inr t ∈ k → good t
/-- what an object of the store is in the heap -/
def RO (B : Bs) (φ : List Addr) (F : Hp) : SO → HO → Prop
  | .list vs, o => ∃ xs, o = .lst xs ∧ RVs B φ F vs xs
  | .dS kvs, o => ∃ xs, o = .dK xs ∧ RKs B keyS φ F kvs xs
  | .dT kvs, o => ∃ xs, o = .dT xs ∧ RKs B keyT φ F kvs xs ∧ ∀ p ∈ kvs, goodK p.1
  | .dTf kvs, o => ∃ od xs, o = .frz od (.dT xs) ∧ RKs B keyT φ F kvs xs ∧ ∀ p ∈ kvs, goodK p.1
  | .inst c fs, o => ∃ dx xs, o = .ins (B.A c) dx xs ∧ RFs B φ F fs xs ∧ B.okC c = true ∧ (fs.all fun p => B.okF p.1) = true
theorem RO.mono {φ φ' : List Addr} {F F' : Hp} (e : Le φ F φ' F') : ∀ {v : SO} {x : HO}, RO B φ F v x → RO B φ' F' v x
  | .list _, _, ⟨xs, q, h⟩ => ⟨xs, q, h.mono e⟩
  | .dS _, _, ⟨xs, q, h⟩ => ⟨xs, q, h.mono e⟩
  | .dT _, _, ⟨xs, q, h, g⟩ => ⟨xs, q, h.mono e, g⟩
  | .dTf _, _, ⟨od, xs, q, h, g⟩ => ⟨od, xs, q, h.mono e, g⟩
  | .inst _ _, _, ⟨dx, xs, q, h, k⟩ => ⟨dx, xs, q, h.mono e, k⟩
/-- the store stands in the heap -/
structure Rp (B : Bs) (φ : List Addr) (F : Hp) (s : Sto) (H : Hp) : Prop where
  len : φ.length = s.length
  nd : ∀ (i j : Nat) a, φ[i]? = some a → φ[j]? = some a → i = j
  obj : ∀ (l : Nat) o, s[l]? = some o → ∃ a ho, φ[l]? = some a ∧ H a = some ho ∧ RO B φ F o ho
  fz : ∀ a o, F a = some o → H a = some o
  ap : ∀ (l : Nat) (a : Addr), φ[l]? = some a → (∀ kvs, s[l]? ≠ some (.dTf kvs)) → F a = none
theorem Rp.same {φ : List Addr} {F : Hp} {s : Sto} {H : Hp} (r : Rp B φ F s H) : Same F H := r.fz
theorem Rp.at {φ : List Addr} {F : Hp} {s : Sto} {H : Hp} (r : Rp B φ F s H) {l : Nat} {a : Addr} {o : SO} (h : φ[l]? = some a) (e : s[l]? = some o) : ∃ ho, H a = some ho ∧ RO B φ F o ho := by
  obtain ⟨b, ho, e1, e2, e3⟩ := r.obj l o e
  rw [h] at e1
  cases e1
  exact ⟨ho, e2, e3⟩
theorem Rp.here {φ : List Addr} {F : Hp} {s : Sto} {H : Hp} (r : Rp B φ F s H) {l : Nat} {a : Addr} (h : φ[l]? = some a) : ∃ ho, H a = some ho := by
  have hl : l < s.length := r.len ▸ (List.getElem?_eq_some_iff.mp h).1
  obtain ⟨ho, e, _⟩ := r.at h (List.getElem?_eq_getElem hl)
  exact ⟨ho, e⟩
/-- from one state to a later one: what is not ours stands, what is new was free -/
structure Ext (φ : List Addr) (F : Hp) (H : Hp) (φ' : List Addr) (F' : Hp) (H' : Hp) : Prop where
  le : Le φ F φ' F'
  keep : ∀ b o, H b = some o → (∀ l : Nat, φ[l]? ≠ some b) → H' b = some o
  fnew : ∀ b o, F' b = some o → F b = some o ∨ H b = none ∨ ∃ xs, H b = some (.tup xs)
  pnew : ∀ (l : Nat) b, φ'[l]? = some b → φ[l]? = some b ∨ H b = none
  there : ∀ b, H' b = none → H b = none
  tup : ∀ b xs, H' b = some (.tup xs) → H b = none ∨ H b = some (.tup xs)
theorem Ext.refl (φ : List Addr) (F H : Hp) : Ext φ F H φ F H := ⟨Le.refl _ _, fun _ _ h _ => h, fun _ _ h => .inl h, fun _ _ h => .inl h, fun _ h => h, fun _ _ h => .inr h⟩
theorem Ext.trans {φ φ1 φ2 : List Addr} {F F1 F2 H H1 H2 : Hp} (a : Ext φ F H φ1 F1 H1) (b : Ext φ1 F1 H1 φ2 F2 H2) : Ext φ F H φ2 F2 H2 where
  le := a.le.trans b.le
  keep := fun c o h n => b.keep c o (a.keep c o h n) fun l e => (a.pnew l c e).elim (n l) fun z => by rw [h] at z; cases z
  fnew := fun c o h => by
    rcases b.fnew c o h with z | z | ⟨xs, z⟩
    · exact a.fnew c o z
    · exact .inr (.inl (a.there c z))
    · exact .inr ((a.tup c xs z).imp id fun y => ⟨xs, y⟩)
  pnew := fun l c h => (b.pnew l c h).elim (a.pnew l c) fun z => .inr (a.there c z)
  there := fun c h => a.there c (b.there c h)
  tup := fun c xs h => (b.tup c xs h).elim (fun z => .inl (a.there c z)) (a.tup c xs)
/-- a heap that has more -/
theorem Ext.grow {φ : List Addr} {F H H' : Hp} (k : Same H H') : Ext φ F H φ F H' := ⟨Le.refl _ _, fun b o h _ => k b o h, fun _ _ h => .inl h, fun _ _ h => .inl h, fun _ h => k.free h, fun b xs h => by
  cases e : H b with
  | none => exact .inl rfl
  | some o => exact .inr (by rw [k b o e] at h; exact h)⟩
/-- a new object that is never written -/
theorem Rp.frozen {φ : List Addr} {F : Hp} {s : Sto} {H : Hp} (r : Rp B φ F s H) {p : Addr} (hp : H p = none) (o : HO) : Ext φ F H φ (upd F p o) (upd H p o) ∧ Rp B φ (upd F p o) s (upd H p o) := by
  have fp : F p = none := r.same.free hp
  have su : Same H (upd H p o) := fun a u h => by rw [upd_ne (ne_of_none h hp)]; exact h
  have e : Le φ F φ (upd F p o) := ⟨fun _ _ h => h, fun a u h => by rw [upd_ne (ne_of_none h fp)]; exact h⟩
  refine ⟨⟨e, fun b u h _ => su b u h, fun b u h => ?_, fun l b h => .inl h, fun b h => su.free h, fun b xs h => (Ext.grow (φ := φ) (F := F) su).tup b xs h⟩, r.len, r.nd, fun l u h => ?_, fun a u h => ?_, fun l a h hs => ?_⟩
  · by_cases c : b = p
    · exact .inr (.inl (c ▸ hp))
    · rw [upd_ne c] at h
      exact .inl h
  · obtain ⟨a, ho, e1, e2, e3⟩ := r.obj l u h
    exact ⟨a, ho, e1, by rw [upd_ne (ne_of_none e2 hp)]; exact e2, e3.mono e⟩
  · by_cases c : a = p
    · subst c
      rw [upd_same] at h ⊢
      exact h
    · rw [upd_ne c] at h ⊢
      exact r.fz a u h
  · obtain ⟨ho, e2⟩ := r.here h
    rw [upd_ne (ne_of_none e2 hp)]
    exact r.ap l a h hs
/-- a heap that has more, all else as it was -/
theorem Rp.grow {φ : List Addr} {F : Hp} {s : Sto} {H H' : Hp} (r : Rp B φ F s H) (k : Same H H') : Rp B φ F s H' :=
  ⟨r.len, r.nd, fun l o e => let ⟨a, ho, e1, e2, e3⟩ := r.obj l o e; ⟨a, ho, e1, k _ _ e2, e3⟩, fun a o e => k _ _ (r.fz a o e), r.ap⟩
theorem same_upd {H : Hp} {p : Addr} {o : HO} (hp : H p = none) : Same H (upd H p o) := fun a u e => by
  rw [upd_ne (ne_of_none e hp)]
  exact e
/-- a new object that may be written -/
theorem Rp.placed {φ : List Addr} {F : Hp} {s : Sto} {H : Hp} (r : Rp B φ F s H) {p : Addr} (hp : H p = none) {o : SO} {ho : HO} (ro : ∀ φ', Le φ F φ' F → RO B φ' F o ho) :
    Ext φ F H (φ ++ [p]) F (upd H p ho) ∧ Rp B (φ ++ [p]) F (s ++ [o]) (upd H p ho) ∧ (φ ++ [p])[s.length]? = some p := by
  have fp : F p = none := r.same.free hp
  have hl := r.len
  have e : Le φ F (φ ++ [p]) F := ⟨fun l a h => by rw [List.getElem?_append_left (List.getElem?_eq_some_iff.mp h).1]; exact h, fun _ _ h => h⟩
  have hp' : (φ ++ [p])[s.length]? = some p := by rw [← hl]; simp
  have old : ∀ (l : Nat) a, (φ ++ [p])[l]? = some a → φ[l]? = some a ∨ (l = s.length ∧ a = p) := fun l a h => by
    by_cases c : l < φ.length
    · rw [List.getElem?_append_left c] at h
      exact .inl h
    · rw [List.getElem?_append_right (by omega)] at h
      by_cases c2 : l - φ.length = 0
      · rw [c2] at h
        simp at h
        exact .inr ⟨by omega, h.symm⟩
      · rw [List.getElem?_eq_none (by simp; omega)] at h
        cases h
  have pn : ∀ (l : Nat), φ[l]? ≠ some p := fun l h => by
    obtain ⟨ho, e2⟩ := r.here h
    rw [hp] at e2
    cases e2
  have su : Same H (upd H p ho) := fun a u h => by rw [upd_ne (ne_of_none h hp)]; exact h
  refine ⟨⟨e, fun b u h _ => su b u h, fun b u h => .inl h, fun l b h => (old l b h).elim .inl fun z => .inr (by rw [z.2]; exact hp), fun b h => su.free h, fun b xs h => (Ext.grow (φ := φ) (F := F) su).tup b xs h⟩, ⟨by simp [hl], fun i j a h1 h2 => ?_, fun l u h => ?_, fun a u h => ?_, fun l a h hs => ?_⟩, hp'⟩
  · rcases old i a h1 with g1 | ⟨g1, q1⟩ <;> rcases old j a h2 with g2 | ⟨g2, q2⟩
    · exact r.nd i j a g1 g2
    · subst q2
      exact absurd g1 (pn i)
    · subst q1
      exact absurd g2 (pn j)
    · omega
  · by_cases c : l < s.length
    · rw [List.getElem?_append_left c] at h
      obtain ⟨a, ho', e1, e2, e3⟩ := r.obj l u h
      exact ⟨a, ho', e.p _ _ e1, by rw [upd_ne (ne_of_none e2 hp)]; exact e2, e3.mono e⟩
    · have c2 : l = s.length := by
        have := (List.getElem?_eq_some_iff.mp h).1
        simp at this
        omega
      subst c2
      simp at h
      subst h
      exact ⟨p, ho, hp', upd_same, ro _ e⟩
  · rw [upd_ne (ne_of_none (r.fz a u h) hp)]
    exact r.fz a u h
  · rcases old l a h with g | ⟨_, rfl⟩
    · refine r.ap l a g fun kvs z => hs kvs ?_
      rw [List.getElem?_append_left (List.getElem?_eq_some_iff.mp z).1]
      exact z
    · exact fp
/-- an object is written -/
theorem Rp.write {φ : List Addr} {F : Hp} {s : Sto} {H : Hp} (r : Rp B φ F s H) {l : Nat} {a : Addr} {o : SO} {ho : HO} (h : φ[l]? = some a) (hs : ∀ kvs, s[l]? ≠ some (.dTf kvs)) (ro : RO B φ F o ho) : Rp B φ F (s.set l o) (upd H a ho) := by
  refine ⟨by simp [r.len], r.nd, fun i u e => ?_, fun b u e => ?_, fun i b hi hk => ?_⟩
  · by_cases c : l = i
    · subst c
      have hl : l < s.length := by rw [← r.len]; exact (List.getElem?_eq_some_iff.mp h).1
      rw [List.getElem?_set_self hl] at e
      cases e
      exact ⟨a, ho, h, upd_same, ro⟩
    · rw [List.getElem?_set_ne c] at e
      obtain ⟨b, ho', e1, e2, e3⟩ := r.obj i u e
      refine ⟨b, ho', e1, ?_, e3⟩
      rw [upd_ne fun z => c (r.nd l i a h (by rw [← z]; exact e1))]
      exact e2
  · rw [upd_ne fun z => by subst z; rw [r.ap l b h hs] at e; cases e]
    exact r.fz b u e
  · refine r.ap i b hi fun kvs z => ?_
    by_cases c : l = i
    · subst c
      exact hs kvs z
    · exact hk kvs (by rw [List.getElem?_set_ne c]; exact z)
/-- .. is a later state -/
theorem Ext.write {φ : List Addr} {F : Hp} {s : Sto} {H : Hp} (r : Rp B φ F s H) {l : Nat} {a : Addr} {ho : HO} (h : φ[l]? = some a) (hn : ∀ xs, ho ≠ .tup xs := by intro _ z; cases z) : Ext φ F H φ F (upd H a ho) where
  le := Le.refl _ _
  keep := fun b o e n => by
    have ne : b ≠ a := fun z => n l (by rw [z]; exact h)
    rw [upd_ne ne]
    exact e
  fnew := fun _ _ e => .inl e
  pnew := fun _ _ e => .inl e
  there := fun b e => by
    by_cases c : b = a
    · subst c
      rw [upd_same] at e
      cases e
    · rw [upd_ne c] at e
      exact e
  tup := fun b xs e => by
    by_cases c : b = a
    · subst c
      rw [upd_same] at e
      exact absurd (Option.some.inj e) (hn xs)
    · rw [upd_ne c] at e
      exact .inr e
/-! ### the frame's names -/
structure REn (B : Bs) (φ : List Addr) (F : Hp) (en : Ab.Env) (σ : L2.St) : Prop where
  len : en.length = σ.length
  at_ : ∀ (i : Nat) v, en[i]? = some (some v) → ∃ x, σ[i]? = some (some x) ∧ RV B φ F v x
theorem REn.mono {φ φ' : List Addr} {F F' : Hp} {en : Ab.Env} {σ : L2.St} (h : REn B φ F en σ) (e : Le φ F φ' F') : REn B φ' F' en σ :=
  ⟨h.len, fun i v q => let ⟨x, a, b⟩ := h.at_ i v q; ⟨x, a, b.mono e⟩⟩
theorem REn.set {φ : List Addr} {F : Hp} {en : Ab.Env} {σ : L2.St} (h : REn B φ F en σ) {v : Val} {x : V} (hv : RV B φ F v x) (i : Nat) : REn B φ F (en.set i (some v)) (σ.set i (some x)) := by
  refine ⟨by simp [h.len], fun j u q => ?_⟩
  by_cases c : i = j
  · subst c
    have hi : i < en.length := by
      have := (List.getElem?_eq_some_iff.mp q).1
      simpa using this
    rw [List.getElem?_set_self hi] at q
    cases q
    exact ⟨x, List.getElem?_set_self (by rw [← h.len]; exact hi), hv⟩
  · rw [List.getElem?_set_ne c] at q
    obtain ⟨y, a, b⟩ := h.at_ j u q
    exact ⟨y, by rw [List.getElem?_set_ne c]; exact a, b⟩
theorem REn.wipe {φ : List Addr} {F : Hp} {en : Ab.Env} {σ : L2.St} (h : REn B φ F en σ) : ∀ vs : List Nat, REn B φ F (Ab.wipe en vs) (L2.wipe σ vs)
  | [] => h
  | v :: vs => by
    have ih := REn.wipe h vs
    refine ⟨by show ((Ab.wipe en vs).set v none).length = ((L2.wipe σ vs).set v none).length; simp [ih.len], fun j u q => ?_⟩
    have q' : ((Ab.wipe en vs).set v none)[j]? = some (some u) := q
    by_cases c : v = j
    · subst c
      have hi : v < (Ab.wipe en vs).length := by
        have := (List.getElem?_eq_some_iff.mp q').1
        simpa using this
      rw [List.getElem?_set_self hi] at q'
      cases q'
    · rw [List.getElem?_set_ne c] at q'
      obtain ⟨y, a, b⟩ := ih.at_ j u q'
      exact ⟨y, by show ((L2.wipe σ vs).set v none)[j]? = _; rw [List.getElem?_set_ne c]; exact a, b⟩
/-! ### what is asked of an end -/
/-- an exception as the layer tells it -/
def RX (B : Bs) (φ : List Addr) (F : Hp) (H : Hp) (e : Exc) (cls : Value) (d : Option Addr) : Prop :=
  cls = .ref (B.A e.cls) ∧ match e.fs with
    | [] => d = none
    | fs => ∃ dx xs, d = some dx ∧ H dx = some (.xd xs) ∧ ∀ f v, fs.lookup f = some v → ∃ x, xs.lookup (B.fld f) = some x ∧ RV B φ F v x
abbrev Rel (α β : Type) := List Addr → Hp → α → β → Prop
def Out {α β : Type} (B : Bs) (W : WX) (rel : Rel α β) (φ : List Addr) (F : Hp) (H : Hp) (r : R α) (σ : L2.St) (Q : β → Hp → Prop) : Prop := match r with
  | none => False
  | some (.ok a, s) => ∀ φ' F' x H', Ext φ F H φ' F' H' → Rp B φ' F' s H' → rel φ' F' a x → Q x H'
  | some (.error e, s) => ∀ φ' F' H' cls d, Ext φ F H φ' F' H' → Rp B φ' F' s H' → RX B φ' F' H' e cls d → W cls d σ H'
section
variable {α β γ δ : Type} {W : WX} {rel : Rel α β} {rel' : Rel γ δ} {φ φ' : List Addr} {F F' H H' : Hp} {r : R α} {σ : L2.St} {Q : β → Hp → Prop}
theorem Out.mono (h : Out B W rel φ F H r σ Q) (e : Ext φ F H φ' F' H') : Out B W rel φ' F' H' r σ Q := by
  match r, h with
  | some (.ok a, s), h => exact fun φ2 F2 x H2 e2 => h φ2 F2 x H2 (e.trans e2)
  | some (.error a, s), h => exact fun φ2 F2 H2 c d e2 => h φ2 F2 H2 c d (e.trans e2)
theorem Out.imp {Q' : β → Hp → Prop} (h : Out B W rel φ F H r σ Q) (k : ∀ x H, Q x H → Q' x H) : Out B W rel φ F H r σ Q' := by
  match r, h with
  | some (.ok a, s), h => exact fun φ2 F2 x H2 e2 p q => k _ _ (h φ2 F2 x H2 e2 p q)
  | some (.error a, s), h => exact h
theorem Out.bnd {k : α → Sto → R γ} {Q : δ → Hp → Prop} (h : Out B W rel' φ F H (Ab.bnd r k) σ Q) :
    Out B W rel φ F H r σ fun x H' => ∃ φ' F' a s', r = some (.ok a, s') ∧ Ext φ F H φ' F' H' ∧ Rp B φ' F' s' H' ∧ rel φ' F' a x ∧ Out B W rel' φ' F' H' (k a s') σ Q := by
  match r, h with
  | some (.ok a, s), h => exact fun φ2 F2 x H2 e2 p q => ⟨φ2, F2, a, s, rfl, e2, p, q, Out.mono h e2⟩
  | some (.error a, s), h => exact h
theorem Out.now {a : α} {s : Sto} {x : β} (h : Out B W rel φ F H (Ab.ok a s) σ Q) (rp : Rp B φ F s H) (q : rel φ F a x) : Q x H := h φ F x H (Ext.refl _ _ _) rp q
theorem Out.fix {a : α} {s : Sto} {x : β} (h : Out B W rel φ F H (Ab.ok a s) σ Q) (e : Ext φ F H φ' F' H') (rp : Rp B φ' F' s H') (q : rel φ' F' a x) : Q x H' := h φ' F' x H' e rp q
end
/-- the readings -/
def tM {α β : Type} (B : Bs) (W : WX) (rel : Rel α β) (m : Ab.Env → Sto → R α) : L2.St → Hp → (β → Hp → Prop) → Prop := fun σ H Q =>
  ∃ φ F en s, Rp B φ F s H ∧ REn B φ F en σ ∧ Out B W rel φ F H (m en s) σ Q
/-- another reading -/
theorem PE_imp {X : Cx} {e : Expr} {t t' : TE} (h : PE X e t) (k : ∀ σ H Q, t' σ H Q → t σ H Q) : PE X e t' := ⟨fun pins s σ H Q I q => h.run pins s σ H Q I (k σ H Q q)⟩
theorem PT_imp {X : Cx} {e : Expr} {t t' : TT} (h : PT X e t) (k : ∀ σ H Q, t' σ H Q → t σ H Q) : PT X e t' := ⟨fun pins s σ H Q I q => h.run pins s σ H Q I (k σ H Q q)⟩
theorem PA_imp {X : Cx} {e : List Expr} {t t' : TA} (h : PA X e t) (k : ∀ σ H Q, t' σ H Q → t σ H Q) : PA X e t' := ⟨fun pos pins s σ H Q I q => h.run pos pins s σ H Q I (k σ H Q q)⟩
theorem PS_imp {X : Cx} {e : Stmt} {t t' : TS} (h : PS X e t) (k : ∀ D σ H, t' D σ H → t D σ H) : PS X e t' := ⟨fun pins s σ H D I q => h.run pins s σ H D I (k D σ H q)⟩
theorem PSs_imp {X : Cx} {e : List Stmt} {t t' : TS} (h : PSs X e t) (k : ∀ D σ H, t' D σ H → t D σ H) : PSs X e t' := ⟨fun pins s σ H D I q => h.run pins s σ H D I (k D σ H q)⟩
end Sn
end
section
set_option Elab.async false
set_option linter.all false
set_option autoImplicit false
set_option maxRecDepth 100000
set_option maxHeartbeats 4000000
/-! What of the syntax must be seen, and calls whose exceptions are wished for at the slots. -/
namespace Sn
open PySem L2
/-! ### syntax -/
def noStar : Expr → Bool
  | .Starred _ _ => false
  | _ => true
def noSlice : Expr → Bool
  | .Slice _ _ _ _ => false
  | _ => true
def noSet : Expr → Bool
  | .Set _ _ _ => false
  | _ => true
/-- no super() -/
def noSup : Expr → Bool
  | .Call (.Name _ _) [] [] _ => false
  | _ => true
/-- no comprehension -/
def noCmp : Expr → Bool
  | .ListComp _ _ _ _ => false
  | .SetComp _ _ _ _ => false
  | .DictComp _ _ _ _ _ => false
  | _ => true
theorem star_cons {e : Expr} {es : List Expr} {env : Env} (h : noStar e = true) : starEach (e :: es) env = (false, eval e env) :: starEach es env := by
  cases e <;> first | rfl | (simp [noStar] at h)
theorem star_any {pos : Pos} {env : Env} : ∀ {es : List Expr}, es.all noStar = true → (backTo pos (starEach es env)).any (·.1) = false
  | [], _ => rfl
  | e :: es, h => by
    obtain ⟨h1, h2⟩ : noStar e = true ∧ es.all noStar = true := by simpa using h
    rw [star_cons h1]
    show (false || (backTo pos (starEach es env)).any (·.1)) = false
    rw [star_any h2]
    rfl
theorem star_len {env : Env} : ∀ {es : List Expr}, es.all noStar = true → ∀ {pos : Pos}, (backTo pos (starEach es env)).all (fun x => !x.1) = true
  | [], _, _ => rfl
  | e :: es, h, pos => by
    obtain ⟨h1, h2⟩ : noStar e = true ∧ es.all noStar = true := by simpa using h
    rw [star_cons h1]
    show (true && (backTo pos (starEach es env)).all (fun x => !x.1)) = true
    rw [star_len h2]
    rfl
theorem few_of {env : Env} {pos : Pos} {es : List Expr} (h : es.all noStar = true) (hl : es.length < 28) : ((backTo pos (starEach es env)).all (fun x => !x.1) && (backToKw pos (keywordEach [] env)).all (fun x => x.1.isSome)
      && decide (es.length + ([] : List Keyword).length + (if ([] : List Keyword).isEmpty then 0 else 1) < 30)) = true := by
  rw [star_len h]
  show (true && true && decide (es.length + 0 + (if true then 0 else 1) < 30)) = true
  simp
  omega
theorem base_of {o : Expr} {m : Str} {env : Env} (h : noSup o = true) : attributeBase o m env (eval o env) = eval o env := by
  unfold attributeBase
  split
  · rename_i heq
    simp [noSup] at h
  · rfl
theorem plainIx_of {i : Expr} (h : noSlice i = true) : ∀ o v, subscripted i false o v = operate [o, v] (getItem o v) := by
  intro o v
  cases i <;> first | rfl | (simp [noSlice] at h)
theorem mark_of {op : CmpOp} {e : Expr} (h : noSet e = true) : behindInMarks op e = false := by
  cases e <;> first | rfl | (simp [noSet] at h)
theorem swap_of {e : Expr} {t : Option Expr} {l : Nat} {env : Env} (h : noCmp e = true) : swapsWith e t l env = pure false := by
  cases e <;> first | rfl | (simp [noCmp] at h)
theorem folded_of {e : Expr} {env : Env} (h : noSet e = true) : ∀ x, foldedSetIterable e env x = pure x := by
  intro x
  cases e <;> first | rfl | (simp [noSet] at h)
/-- forms whose test is the value's truth -/
def plainT : Expr → Bool
  | .UnaryOp .Not _ _ => false
  | .BoolOp _ _ _ => false
  | .IfExp _ _ _ _ => false
  | .Compare _ _ _ _ => false
  | _ => true
theorem test_of {e : Expr} {env : Env} (h : plainT e = true) : ∀ whole, isTrue e env whole = (do let v ← whole; standAt e.pos; holding [v] (truthy v)) := by
  intro whole
  cases e with
  | UnaryOp op x p => cases op <;> first | rfl | (simp [plainT] at h)
  | _ => first | rfl | (simp [plainT] at h)
theorem eval_meth {o : Expr} {m : Str} {apos pos : Pos} {es : List Expr} {env : Env} (hb : noSup o = true) (hs : es.all noStar = true) (hl : es.length < 28) (hp : (apos.endLine == pos.line) = true) :
    eval (.Call (.Attribute o m apos) es [] pos) env = (do
      let ov ← eval o env
      standAt apos.atName
      let (f, first) ← holding [ov] (getMethod ov m (do return (← importBound o env).getD true))
      callWith pos f first (backTo pos (starEach es env)) (backToKw pos (keywordEach [] env))) := by
  have h1 : methodCallForm (es.length + ([] : List Keyword).length) (backTo pos (starEach es env)) (backToKw pos (keywordEach [] env)) = true := few_of hs hl
  rw [eval, base_of hb]
  simp only [methodCall, h1, calleeOf, methodCallPos, hp, Bool.not_true, Bool.false_or, if_true]
  rfl
/-- with a keyword behind -/
theorem few_key {env : Env} {pos kp : Pos} {y : Str} {e : Expr} {es : List Expr} (h : es.all noStar = true) (hl : es.length < 28) : methodCallForm (es.length + [(⟨some y, e, kp⟩ : Keyword)].length) (backTo pos (starEach es env)) (backToKw pos (keywordEach [⟨some y, e, kp⟩] env)) = true := by
  unfold methodCallForm
  rw [star_len h]
  show (true && true && decide (es.length + 1 + 1 < 30)) = true
  simp
  omega
theorem any_key {env : Env} {pos kp : Pos} {y : Str} {e : Expr} {es : List Expr} (h : es.all noStar = true) : ((backTo pos (starEach es env)).any (·.1) || (backToKw pos (keywordEach [⟨some y, e, kp⟩] env)).any (·.1.isNone)) = false := by
  rw [star_any h]
  rfl
theorem eval_key {o e : Expr} {m y : Str} {apos pos kp : Pos} {es : List Expr} {env : Env} (hb : noSup o = true) (hs : es.all noStar = true) (hl : es.length < 28) (hp : (apos.endLine == pos.line) = true) :
    eval (.Call (.Attribute o m apos) es [⟨some y, e, kp⟩] pos) env = (do
      let ov ← eval o env
      standAt apos.atName
      let (f, first) ← holding [ov] (getMethod ov m (do return (← importBound o env).getD true))
      callWith pos f first (backTo pos (starEach es env)) (backToKw pos (keywordEach [⟨some y, e, kp⟩] env))) := by
  rw [eval, base_of hb]
  simp only [methodCall, few_key hs hl, calleeOf, methodCallPos, hp, Bool.not_true, Bool.false_or, if_true]
  rfl
/-! ### calls: the layer's rules by name, over readings of ours -/
/-- readings of ours grow with what is wanted -/
theorem tM_mono {α β : Type} {B : Bs} {W : WX} {rel : Rel α β} {m : Ab.Env → Ab.Sto → Ab.R α} {σ : L2.St} {H : Hp} {Q Q' : β → Hp → Prop} (h : tM B W rel m σ H Q) (k : ∀ x H, Q x H → Q' x H) : tM B W rel m σ H Q' := by
  obtain ⟨φ, F, en, s, rp, re, o⟩ := h
  exact ⟨φ, F, en, s, rp, re, o.imp k⟩
/-- wished for whatever the slots hold -/
def every (W : WX) : XK := fun cls d H => ∀ σ, W cls d σ H
theorem every_passes {X : Cx} {W : WX} (tk : Takes X W) : Passes (L2.CX X.prog X.w) X (every W) := passes_call tk fun _ _ σ _ w => w σ
section
variable {X : Cx} {B : Bs} {W : WX} {k : Nat} {m : Str} {pos apos : Pos} {o : Expr} {mo : Ab.Env → Ab.Sto → Ab.R Ab.Val}
/-- what an object must be to be told m -/
structure Told (X : Cx) (k : Nat) (m : Str) (H : Hp) (a : Addr) (f : Addr) (sp : Sp) : Prop where
  is : ∃ C dx fs, H a = some (.ins C dx fs) ∧ fs.lookup m = none ∧ Cls X.K C ∧ Meth X.K C m f
  ok : ∃ fd ps, Binds X.K fd ps [] ∧ FnOk X.prog X.w X.K X.mg X.base (L2.CX X.prog X.w) k f fd ps sp
/-- o.m(..): what o is, is seen ahead of the arguments -/
def tTold (X : Cx) (W : WX) (k : Nat) (m : Str) (ta : TE) (t : TA) : TE := fun σ H Q => ta σ H fun x H1 => ∃ a f sp, x = .ref a ∧ Told X k m H1 a f sp ∧ t σ H1 fun vs H2 => sp (x :: vs) H2 Q (WE W σ)
theorem told_with {es : List Expr} {t : TA} (hb : noSup o = true) (hs : es.all noStar = true) (hl : es.length < 28) (hp : (apos.endLine == pos.line) = true) (ho : PE X o (tM B W (RV B) mo))
    (hgo : ∀ (pins : List (Addr × Obj)) (s1 : Shared) (σ : L2.St) (H1 : Hp) (Q : VK) (a f : Addr) (sp : Sp), Inv X pins σ H1 s1 → Told X k m H1 a f sp → (t σ H1 fun vs H2 => sp (.ref a :: vs) H2 Q (WE W σ)) →
      wpAny (model X.prog X.w) X.A (callWith pos (.ref f) [.ref a] (backTo pos (starEach es X.env)) (backToKw pos (keywordEach [] X.env))) (EP X pins σ Q) X.xe s1) :
    PE X (.Call (.Attribute o m apos) es [] pos) (tTold X W k m (tM B W (RV B) mo) t) := by
  constructor
  intro pins s σ H Q I h
  apply methcall_of ho I (tM_mono h ?_) (eval_meth hb hs hl hp)
  rintro x H1 ⟨a, f, sp, rfl, T, q⟩
  obtain ⟨C, dx, fs, e1, e2, e3, e4⟩ := T.is
  exact ⟨a, C, dx, fs, f, rfl, e1, e3, e4, e2, fun s1 J => hgo pins s1 σ H1 Q a f sp J T q⟩
theorem pe_told0 (hb : noSup o = true) (hp : (apos.endLine == pos.line) = true) (ho : PE X o (tM B W (RV B) mo)) (hr : Room k X.A) (tk : Takes X W) :
    PE X (.Call (.Attribute o m apos) [] [] pos) (tTold X W k m (tM B W (RV B) mo) tNil) :=
  told_with hb rfl (by decide) hp ho fun pins s1 σ H1 Q a f sp J T q => by
    obtain ⟨_, _, _, _, _, _, M⟩ := T.is
    obtain ⟨fd, ps, b, F⟩ := T.ok
    exact PySem.W.callWith_K0 J.kIn M.kp (run_fnS (E := WE W) F hr b (passAt tk σ) J (Paired.cons (show RelV (.ref a) (Value.ref a) from rfl) .nil) q)
theorem pe_told {e : Expr} {es : List Expr} {t : TA} (hb : noSup o = true) (hs : (e :: es).all noStar = true) (hl : (e :: es).length < 28) (hp : (apos.endLine == pos.line) = true) (ho : PE X o (tM B W (RV B) mo)) (ha : PA X (e :: es) t) (hr : Room k X.A) (tk : Takes X W) :
    PE X (.Call (.Attribute o m apos) (e :: es) [] pos) (tTold X W k m (tM B W (RV B) mo) t) :=
  told_with hb hs hl hp ho fun pins s1 σ H1 Q a f sp J T q => by
    obtain ⟨_, _, _, _, _, _, M⟩ := T.is
    obtain ⟨fd, ps, b, F⟩ := T.ok
    have hs' : noStar e = true ∧ es.all noStar = true := by simpa only [List.all_cons, Bool.and_eq_true] using hs
    refine PySem.W.callWith_K (h₀ := X.base) J.mod.kin M.kp ?_ (star_cons hs'.1) (star_any hs'.2)
    refine thn (ha.run pos pins s1 σ H1 _ J q) ?_
    rintro us s2 ⟨vs, H2, J2, r, w⟩
    exact ⟨J2.kIn, run_fnS (E := WE W) F hr b (passAt tk σ) J2 (Paired.cons (show RelV (.ref a) (Value.ref a) from rfl) r) w⟩
end
/-! ### a last parameter that may lack, or be told by its name -/
/-- how such a def takes its arguments -/
structure Takes1 (K : PySem.W.Frag) (fd : FuncData) (ps : List Str) (y : Str) (d : V) : Prop where
  dflt : ∃ ds, Vals [d] ds ∧ Binds K fd ps ds
  key : KBn K fd ps (ps.length - 1) [y] (fun us ws => us ++ ws) (fun vs zs => vs ++ zs)
section
variable {X : Cx} {B : Bs} {W : WX} {k : Nat} {m y : Str} {d : V} {pos apos : Pos} {o : Expr} {mo : Ab.Env → Ab.Sto → Ab.R Ab.Val}
structure Told1 (X : Cx) (k : Nat) (m y : Str) (d : V) (H : Hp) (a : Addr) (f : Addr) (sp : Sp) : Prop where
  is : ∃ C dx fs, H a = some (.ins C dx fs) ∧ fs.lookup m = none ∧ Cls X.K C ∧ Meth X.K C m f
  ok : ∃ fd ps, Takes1 X.K fd ps y d ∧ FnOk X.prog X.w X.K X.mg X.base (L2.CX X.prog X.w) k f fd ps sp
/-- o.m(e, ..), the last one lacks -/
def tLack (X : Cx) (W : WX) (k : Nat) (m y : Str) (d : V) (ta : TE) (t : TA) : TE := fun σ H Q => ta σ H fun x H1 => ∃ a f sp, x = .ref a ∧ Told1 X k m y d H1 a f sp ∧ t σ H1 fun vs H2 => sp (x :: (vs ++ [d])) H2 Q (every W)
/-- o.m(e, .., y = z) -/
def tKey (X : Cx) (W : WX) (k : Nat) (m y : Str) (d : V) (ta : TE) (t : TA) (te : TE) : TE := fun σ H Q => ta σ H fun x H1 => ∃ a f sp, x = .ref a ∧ Told1 X k m y d H1 a f sp ∧ t σ H1 fun vs H2 => te σ H2 fun z H3 => sp (x :: (vs ++ [z])) H3 Q (every W)
/-- one keyword's value -/
theorem tM_key {te : TE} {σ : L2.St} {H : Hp} {P : V → Hp → Prop} (w : te σ H P) (mono : ∀ {Q Q' : V → Hp → Prop}, te σ H Q → (∀ x H, Q x H → Q' x H) → te σ H Q') : tCons te tNil σ H fun zs H' => ∃ c, zs = [c] ∧ P c H' := mono w fun x H' h => ⟨x, rfl, h⟩
theorem pe_lack {e : Expr} {es : List Expr} {t : TA} (hb : noSup o = true) (hs : (e :: es).all noStar = true) (hl : (e :: es).length < 28) (hp : (apos.endLine == pos.line) = true) (ho : PE X o (tM B W (RV B) mo)) (ha : PA X (e :: es) t) (hr : Room k X.A) (tk : Takes X W) :
    PE X (.Call (.Attribute o m apos) (e :: es) [] pos) (tLack X W k m y d (tM B W (RV B) mo) t) := by
  obtain ⟨s1, s2⟩ : noStar e = true ∧ es.all noStar = true := by simpa only [List.all_cons, Bool.and_eq_true] using hs
  constructor
  intro pins s σ H Q I h
  apply methcall_of ho I (tM_mono h ?_) (eval_meth hb hs hl hp)
  rintro x H1 ⟨a, f, sp, rfl, T, q⟩
  obtain ⟨C, dx, fs, e1, e2, e3, M⟩ := T.is
  obtain ⟨fd, ps, b, F⟩ := T.ok
  obtain ⟨ds, hd, bd⟩ := b.dflt
  refine ⟨a, C, dx, fs, f, rfl, e1, e3, M, e2, fun s1' J => PySem.W.callWith_K (h₀ := X.base) J.mod.kin M.kp ?_ (star_cons s1) (star_any s2)⟩
  refine thn (ha.run pos pins s1' σ H1 _ J q) ?_
  rintro us s3 ⟨vs, H2, J2, r, w⟩
  exact ⟨J2.kIn, run_fn (us := .ref a :: us) (vs := .ref a :: vs) F hr bd hd (every_passes tk) J2 (Paired.cons (show RelV (.ref a) (Value.ref a) from rfl) r) w⟩
theorem pe_key {e z : Expr} {es : List Expr} {t : TA} {mz : Ab.Env → Ab.Sto → Ab.R Ab.Val} {kp : Pos} (hb : noSup o = true) (hs : (e :: es).all noStar = true) (hl : (e :: es).length < 28) (hp : (apos.endLine == pos.line) = true) (ho : PE X o (tM B W (RV B) mo)) (ha : PA X (e :: es) t) (hz : PE X z (tM B W (RV B) mz)) (hr : Room k X.A) (tk : Takes X W) :
    PE X (.Call (.Attribute o m apos) (e :: es) [⟨some y, z, kp⟩] pos) (tKey X W k m y d (tM B W (RV B) mo) t (tM B W (RV B) mz)) := by
  obtain ⟨s1, s2⟩ : noStar e = true ∧ es.all noStar = true := by simpa only [List.all_cons, Bool.and_eq_true] using hs
  constructor
  intro pins s σ H Q I h
  refine PySem.W.methodCall_KW (pl := do return (← importBound o X.env).getD true) (thn (ho.run pins s σ H _ I h) ?_) (eval_key hb hs hl hp)
  rintro u s3 ⟨x, H1, J, rx, a, f, sp, rfl, T, q⟩
  cases rx
  obtain ⟨C, dx, fs, e1, e2, e3, M⟩ := T.is
  obtain ⟨fd, ps, b, F⟩ := T.ok
  apply getmeth_ok J e1 e3 M e2
  refine PySem.W.callWith_KW (first := [.ref a]) (h₀ := X.base) J.mod.kin M.kp rfl ?_ (any_key hs) (star_cons s1)
  refine thn (ha.run pos pins s3 σ H1 _ J q) ?_
  rintro us s4 ⟨vs, H2, J2, r, w⟩
  refine thn ((pk_cons hz pk_nil).run pos pins s4 σ H2 _ J2 (tM_key w fun h k => tM_mono h k)) ?_
  rintro ws s5 ⟨zs, H3, J3, rz, c, rfl, w2⟩
  refine ⟨J3.kIn, ?_⟩
  have hn := F.len _ _ _ _ w2
  refine run_fnN (us := .ref a :: us) (vs := .ref a :: vs) F hr b.key (every_passes tk) J3 (Paired.cons (show RelV (.ref a) (Value.ref a) from rfl) r) rz ?_ rfl w2
  simp only [List.length_cons, List.length_append, List.length_nil] at hn ⊢
  omega
end
/-! ### one of two readings -/
section
variable {X : Cx}
theorem PE_or {e : Expr} {t t' : TE} (h : PE X e t) (h' : PE X e t') : PE X e (fun σ H Q => t σ H Q ∨ t' σ H Q) := ⟨fun pins s σ H Q I q => q.elim (h.run pins s σ H Q I) (h'.run pins s σ H Q I)⟩
theorem PE_no {e : Expr} : PE X e (fun _ _ _ => False) := ⟨fun _ _ _ _ _ _ q => q.elim⟩
theorem PI_or {tg e : Expr} {t t' : TI} (h : PI X tg e t) (h' : PI X tg e t') : PI X tg e (fun σ H Q => t σ H Q ∨ t' σ H Q) := ⟨fun pins s σ H Q I q => q.elim (h.run pins s σ H Q I) (h'.run pins s σ H Q I)⟩
theorem PS_or {e : Stmt} {t t' : TS} (h : PS X e t) (h' : PS X e t') : PS X e (fun σ H Q => t σ H Q ∨ t' σ H Q) := ⟨fun pins s σ H Q I q => q.elim (h.run pins s σ H Q I) (h'.run pins s σ H Q I)⟩
end
end Sn
end
section
set_option Elab.async false
set_option linter.all false
set_option autoImplicit false
set_option maxRecDepth 100000
set_option maxHeartbeats 4000000
/-! Operators. -/
namespace Sn
open PySem L2
open Ab (Val SO Sto Exc R Txt)
variable {B : Bs}
open Ab (toD toDs)
theorem str_beq (a b : Txt) : (str a == str b) = (a == b) := by
  by_cases h : a = b
  · subst h; simp
  · have h2 : ¬ str a = str b := fun e => h (by simpa [str] using e)
    rw [beq_eq_false_iff_ne.mpr h, beq_eq_false_iff_ne.mpr h2]
mutual
theorem pyEq_eqv : ∀ (a b : Val), PyData.eqv (toD a) (toD b) = Ab.pyEq a b
  | .non, b => by cases b <;> simp [toD, PyData.eqv, Ab.pyEq]
  | .bl _, b => by cases b <;> simp [toD, PyData.eqv, Ab.pyEq, Ab.numOf] <;> (try (rename_i x y; cases x <;> cases y <;> rfl))
  | .int _, b => by cases b <;> simp [toD, PyData.eqv, Ab.pyEq, Ab.numOf]
  | .str _, b => by cases b <;> simp [toD, PyData.eqv, Ab.pyEq, str_beq]
  | .loc _, b => by cases b <;> simp [toD, PyData.eqv, Ab.pyEq, Ab.numOf]
  | .scr _, b => by cases b <;> simp [toD, PyData.eqv, Ab.pyEq, Ab.numOf]
  | .exc _ _, b => by cases b <;> simp [toD, PyData.eqv, Ab.pyEq, Ab.numOf]
  | .tup x, b => by
    cases b with
    | tup y => simpa [toD, PyData.eqv, Ab.pyEq] using pyEqs_eqv x y
    | _ => simp [toD, PyData.eqv, Ab.pyEq]
  | .lst x, b => by
    cases b with
    | lst y => simpa [toD, PyData.eqv, Ab.pyEq] using pyEqs_eqv x y
    | _ => simp [toD, PyData.eqv, Ab.pyEq]
theorem pyEqs_eqv : ∀ (a b : List Val), PyData.eqvAll (toDs a) (toDs b) = Ab.pyEqs a b
  | [], b => by cases b <;> simp [toDs, PyData.eqvAll, Ab.pyEqs]
  | x :: a, b => by
    cases b with
    | nil => simp [toDs, PyData.eqvAll, Ab.pyEqs]
    | cons y b => simp [toDs, PyData.eqvAll, Ab.pyEqs, pyEq_eqv x y, pyEqs_eqv a b]
end
theorem any_eqv (d : Val) : ∀ ds : List Val, ((toDs ds).any fun z => PyData.eqv z (toD d)) = ds.any fun z => Ab.pyEq z d
  | [] => rfl
  | x :: r => by
    simp only [toDs, List.any_cons]
    rw [pyEq_eqv x d, any_eqv d r]
theorem mapM_some {α β : Type} {f : α → Option β} : ∀ {l : List α} {r : List β}, l.mapM f = some r → (l = [] ∧ r = []) ∨ ∃ a t b u, l = a :: t ∧ r = b :: u ∧ f a = some b ∧ t.mapM f = some u
  | [], r, h => by simp at h; exact .inl ⟨rfl, h⟩
  | a :: t, r, h => by
    rw [List.mapM_cons] at h
    cases e : f a with
    | none => rw [e] at h; cases h
    | some b =>
      rw [e] at h
      cases e2 : t.mapM f with
      | none => rw [e2] at h; cases h
      | some u =>
        rw [e2] at h
        cases h
        exact .inr ⟨a, t, b, u, rfl, rfl, e, e2⟩
/-- what res reads is data -/
structure Dat (B : Bs) (H : Hp) (n : Nat) (x : V) (w : Val) : Prop where
  d : Dp B.K H x (toD w)
  p : (toD w).canLay0 = true
  h : (toD w).depth ≤ n
theorem dat_all {φ : List Addr} {F : Hp} {s : Sto} {H : Hp} {n : Nat} {f : Val → Option Val} (hf : ∀ v w x, f v = some w → RV B φ F v x → Dat B H n x w) : ∀ {vs ws : List Val} {xs : List V}, vs.mapM f = some ws → RVs B φ F vs xs →
    DpAll B.K H xs (toDs ws) ∧ PyData.canLayAll0 (toDs ws) = true ∧ PyData.depthAll (toDs ws) ≤ n
  | [], ws, xs, h, r => by
    rcases mapM_some h with ⟨_, rfl⟩ | ⟨a, t, b, u, e, _⟩
    · rw [show xs = [] from r]
      exact ⟨.nil, rfl, Nat.zero_le _⟩
    · cases e
  | v :: vs, ws, xs, h, ⟨x, r, e, h1, h2⟩ => by
    rcases mapM_some h with ⟨e, _⟩ | ⟨a, t, b, u, e1, rfl, e2, e3⟩
    · cases e
    · cases e1
      subst e
      obtain ⟨d1, d2, d3⟩ := hf _ _ _ e2 h1
      obtain ⟨g1, g2, g3⟩ := dat_all (s := s) hf e3 h2
      exact ⟨.cons d1 g1, by simp [toDs, PyData.canLayAll0, d2, g2], by simp only [toDs, PyData.depthAll]; omega⟩
theorem res_dat {φ : List Addr} {F : Hp} {s : Sto} {H : Hp} (rp : Rp B φ F s H) : ∀ (n : Nat) (v w : Val) (x : V), Ab.res s n v = some w → RV B φ F v x → Dat B H n x w
  | 0, _, _, _, h, _ => by simp [Ab.res] at h
  | n + 1, v, w, x, h, r => by
    have ih := res_dat rp n
    have mk : ∀ (vs ws : List Val) (xs : List V), vs.mapM (Ab.res s n) = some ws → RVs B φ F vs xs → DpAll B.K H xs (toDs ws) ∧ PyData.canLayAll0 (toDs ws) = true ∧ PyData.depthAll (toDs ws) ≤ n :=
      fun vs ws xs a b => dat_all (s := s) ih a b
    cases v with
    | non => simp [Ab.res] at h; subst h; rw [show x = _ from r]; exact ⟨.non, rfl, Nat.zero_le _⟩
    | bl b => simp [Ab.res] at h; subst h; rw [show x = _ from r]; exact ⟨.bl _, rfl, Nat.zero_le _⟩
    | int b => simp [Ab.res] at h; subst h; rw [show x = _ from r]; exact ⟨.int _, rfl, Nat.zero_le _⟩
    | str b =>
      simp [Ab.res] at h
      subst h
      rw [show x = _ from r.1]
      exact ⟨.str _, by simpa [toD, PyData.canLay0, PyData.strOk, good] using r.2, Nat.zero_le _⟩
    | scr _ => simp [Ab.res] at h
    | exc _ _ => simp [Ab.res] at h
    | tup vs =>
      simp only [Ab.res, Option.map_eq_some_iff] at h
      obtain ⟨ws, h1, rfl⟩ := h
      obtain ⟨a, xs, rfl, hf, hv⟩ := r
      obtain ⟨g1, g2, g3⟩ := mk vs ws xs h1 hv
      exact ⟨.tup (SqT.of (rp.fz _ _ hf)) g1, by simpa [toD, PyData.canLay0] using g2, by simp only [toD, PyData.depth]; omega⟩
    | lst vs =>
      simp only [Ab.res, Option.map_eq_some_iff] at h
      obtain ⟨ws, h1, rfl⟩ := h
      obtain ⟨a, xs, rfl, hf, hv⟩ := r
      obtain ⟨g1, g2, g3⟩ := mk vs ws xs h1 hv
      exact ⟨.lst (SqL.of (rp.fz _ _ hf)) g1, by simpa [toD, PyData.canLay0] using g2, by simp only [toD, PyData.depth]; omega⟩
    | loc l =>
      obtain ⟨a, rfl, ha⟩ := r
      simp only [Ab.res] at h
      split at h
      · rename_i vs e
        simp only [Option.map_eq_some_iff] at h
        obtain ⟨ws, h1, rfl⟩ := h
        obtain ⟨ho, e1, xs, rfl, hv⟩ := rp.at ha e
        obtain ⟨g1, g2, g3⟩ := mk vs ws xs h1 hv
        exact ⟨.lst (SqL.of e1) g1, by simpa [toD, PyData.canLay0] using g2, by simp only [toD, PyData.depth]; omega⟩
      · cases h
/-- a list's items stand in the heap -/
theorem lst_at {φ : List Addr} {F : Hp} {s : Sto} {H : Hp} (rp : Rp B φ F s H) {v : Val} {x : V} {vs : List Val} (h : Ab.lstOf s v = some vs) (r : RV B φ F v x) : ∃ a xs, x = .ref a ∧ H a = some (.lst xs) ∧ RVs B φ F vs xs := by
  cases v with
  | lst ws =>
    simp [Ab.lstOf] at h
    subst h
    obtain ⟨a, xs, rfl, hf, hv⟩ := r
    exact ⟨a, xs, rfl, rp.fz _ _ hf, hv⟩
  | loc l =>
    obtain ⟨a, rfl, ha⟩ := r
    simp only [Ab.lstOf] at h
    split at h
    · rename_i ws e
      cases h
      obtain ⟨ho, e1, xs, rfl, hv⟩ := rp.at ha e
      exact ⟨a, xs, rfl, e1, hv⟩
    · cases h
  | _ => simp [Ab.lstOf] at h
theorem seq_lst {s : Sto} {v : Val} (h : ∀ ws, v ≠ .tup ws) : Ab.seqOf s v = Ab.lstOf s v := by
  cases v <;> first | rfl | exact absurd rfl (h _)
theorem seq_at {φ : List Addr} {F : Hp} {s : Sto} {H : Hp} (rp : Rp B φ F s H) {v : Val} {x : V} {vs : List Val} (h : Ab.seqOf s v = some vs) (r : RV B φ F v x) : ∃ a xs, x = .ref a ∧ (H a = some (.lst xs) ∨ (H a = some (.tup xs) ∧ v = .tup vs)) ∧ RVs B φ F vs xs := by
  by_cases c : ∃ ws, v = .tup ws
  · obtain ⟨ws, rfl⟩ := c
    simp [Ab.seqOf] at h
    subst h
    obtain ⟨a, xs, rfl, hf, hv⟩ := r
    exact ⟨a, xs, rfl, .inr ⟨rp.fz _ _ hf, rfl⟩, hv⟩
  · rw [seq_lst fun ws e => c ⟨ws, e⟩] at h
    obtain ⟨a, xs, e, h1, h2⟩ := lst_at rp h r
    exact ⟨a, xs, e, .inl h1, h2⟩
/-- a new list -/
theorem new_lst {φ : List Addr} {F : Hp} {s : Sto} {H : Hp} {W : WX} {σ : L2.St} {Q : VK} {m : Bool} {vs : List Val} {xs : List V} (rp : Rp B φ F s H) (h : Out B W (RV B) φ F H (Ab.lift (some (Ab.alloc m vs s))) σ Q) (r : RVs B φ F vs xs) {p : Addr} (hp : H p = none) :
    Q (.ref p) (upd H p (.lst xs)) := by
  cases m with
  | true =>
    obtain ⟨e, rp', at'⟩ := rp.placed hp (o := .list vs) (ho := .lst xs) fun φ' e => ⟨xs, rfl, r.mono e⟩
    exact h _ _ _ _ e rp' ⟨p, rfl, at'⟩
  | false =>
    obtain ⟨e, rp'⟩ := rp.frozen hp (.lst xs)
    exact h _ _ _ _ e rp' ⟨p, xs, rfl, upd_same, r.mono e.le⟩
theorem new_tup {φ : List Addr} {F : Hp} {s : Sto} {H : Hp} {W : WX} {σ : L2.St} {Q : VK} {vs : List Val} {xs : List V} (rp : Rp B φ F s H) (h : Out B W (RV B) φ F H (Ab.ok (.tup vs) s) σ Q) (r : RVs B φ F vs xs) {p : Addr} (hp : H p = none) :
    Q (.ref p) (upd H p (.tup xs)) := by
  obtain ⟨e, rp'⟩ := rp.frozen hp (.tup xs)
  exact h _ _ _ _ e rp' ⟨p, xs, rfl, upd_same, r.mono e.le⟩
theorem line_of {n : Nat} (h : n ≤ Ab.LIM) : n ≤ sizeLine := Nat.le_trans h (by decide)
theorem line_lt {n : Nat} (h : n < Ab.LIM) : n < sizeLine := Nat.lt_of_lt_of_le h (by decide)
theorem str_len (s : Txt) : (str s).length = s.length := by simp [str, Str.length]
theorem str_app (a b : Txt) : str a ++ str b = str (a ++ b) := by
  show Str.mk _ = Str.mk _
  simp
/-! ### by values -/
section
variable {X : Cx}
def rStrA : R2 := fun x y H Q => ∃ i j, x = .str i ∧ y = .str j ∧ i.length + j.length ≤ sizeLine ∧ Q (.str (i ++ j)) H
def rBin (K : PySem.W.Frag) : Ab.BOp → R2
  | .add => fun x y H Q => rI0 (fun i j => .int (i + j)) x y H Q ∨ (rStrA x y H Q ∨ (rCat x y H Q ∨ rCatA K x y H Q))
  | .sub => rI0 fun i j => .int (i - j)
  | .mul => rI CMul fun i j => .int (i * j)
  | .fdiv => rI CDiv fun i j => .int (i / j)
  | .mod => rI (fun _ j => 0 < j) fun i j => .int (i % j)
  | .pow => fun _ _ _ _ => False
def opB : Ab.BOp → Operator
  | .add => .Add
  | .sub => .Sub
  | .mul => .Mult
  | .fdiv => .FloorDiv
  | .mod => .Mod
  | .pow => .Pow
theorem op_bin (op : Ab.BOp) : OpR X (binaryOp (opB op)) (rBin X.K op) := by
  cases op with
  | add => exact OpR.or op_add (OpR.or op_add_str (OpR.or op_cat op_catA))
  | sub => exact op_sub
  | mul => exact op_mul
  | fdiv => exact op_fdiv
  | mod => exact op_mod
  | pow => exact fun _ _ _ _ _ _ _ _ _ _ _ _ h => h.elim
theorem bin_ok {φ : List Addr} {F : Hp} {s : Sto} {H : Hp} {W : WX} {σ : L2.St} {Q : VK} {op : Ab.BOp} {m : Bool} {a b : Val} {x y : V} (rp : Rp B φ F s H) (ra : RV B φ F a x) (rb : RV B φ F b y)
    (h : Out B W (RV B) φ F H (Ab.lift (Ab.binV op m a b s)) σ Q) : rBin B.K op x y H Q := by
  have lst : ∀ (a b : Val), RV B φ F a x → RV B φ F b y → Out B W (RV B) φ F H (Ab.lift (match Ab.lstOf s a, Ab.lstOf s b with
      | some x, some y => if x.length + y.length ≤ Ab.LIM then some (Ab.alloc m (x ++ y) s) else none
      | _, _ => none)) σ Q → rBin B.K .add x y H Q := by
    intro a b ra rb h
    cases e1 : Ab.lstOf s a with
    | none => rw [e1] at h; exact h.elim
    | some vs =>
      cases e2 : Ab.lstOf s b with
      | none => rw [e1, e2] at h; exact h.elim
      | some ws =>
        rw [e1, e2] at h
        dsimp only at h
        by_cases c : vs.length + ws.length ≤ Ab.LIM
        · rw [if_pos c] at h
          obtain ⟨p, xs, ex, hp, r1⟩ := lst_at rp e1 ra
          obtain ⟨q, ys, ey, hq, r2⟩ := lst_at rp e2 rb
          rw [r1.length, r2.length] at c
          exact .inr (.inr (.inl ⟨p, q, xs, ys, ex, ey, hp, hq, line_of c, fun l hl => new_lst rp h (r1.append r2) hl⟩))
        · rw [if_neg c] at h
          exact h.elim
  cases op with
  | add =>
    cases a with
    | int i =>
      cases b with
      | int j => exact .inl ⟨i, j, ra, rb, h.now rp rfl⟩
      | _ => exact lst (.int i) _ ra rb h
    | str i =>
      cases b with
      | str j =>
        simp only [Ab.binV] at h
        by_cases c : i.length + j.length ≤ Ab.LIM
        · rw [if_pos c] at h
          refine .inr (.inl ⟨_, _, ra.1, rb.1, by rw [str_len, str_len]; exact line_of c, ?_⟩)
          rw [str_app]
          exact h.now rp ⟨rfl, fun c hc => (List.mem_append.mp hc).elim (ra.2 c) (rb.2 c)⟩
        · rw [if_neg c] at h
          exact h.elim
      | _ => exact lst (.str i) _ ra rb h
    | tup i =>
      cases b with
      | tup j =>
        simp only [Ab.binV] at h
        by_cases c : i.length + j.length ≤ Ab.LIM
        · rw [if_pos c] at h
          obtain ⟨p, xs, rfl, hp, r1⟩ := ra
          obtain ⟨q, ys, rfl, hq, r2⟩ := rb
          rw [r1.length, r2.length] at c
          refine .inr (.inr (.inr ⟨p, q, xs, ys, rfl, rfl, SqT.of (rp.fz _ _ hp), SqT.of (rp.fz _ _ hq), line_of c, fun z => ?_, fun _ z => ?_, fun _ _ l hl => new_tup rp h (r1.append r2) hl⟩))
          · subst z
            have : i = [] := List.eq_nil_of_length_eq_zero r1.length
            subst this
            exact h.now rp ⟨q, ys, rfl, hq, r2⟩
          · subst z
            have : j = [] := List.eq_nil_of_length_eq_zero r2.length
            subst this
            rw [List.append_nil] at h
            exact h.now rp ⟨p, xs, rfl, hp, r1⟩
        · rw [if_neg c] at h
          exact h.elim
      | _ => exact lst (.tup i) _ ra rb h
    | _ => exact lst _ b ra rb h
  | sub => cases a <;> cases b <;> first | exact ⟨_, _, ra, rb, h.now rp rfl⟩ | exact h.elim
  | mul =>
    cases a <;> cases b <;> try exact h.elim
    rename_i i j
    simp only [Ab.binV] at h
    by_cases c : Ab.mulOk i j = true
    · rw [if_pos c] at h
      exact ⟨i, j, ra, rb, by simpa [Ab.mulOk, CMul] using c, h.now rp rfl⟩
    · rw [if_neg c] at h
      exact h.elim
  | fdiv =>
    cases a <;> cases b <;> try exact h.elim
    rename_i i j
    simp only [Ab.binV] at h
    by_cases c : 0 < j ∧ j < 1073741824
    · rw [if_pos c] at h
      exact ⟨i, j, ra, rb, c, h.now rp rfl⟩
    · rw [if_neg c] at h
      exact h.elim
  | mod =>
    cases a <;> cases b <;> try exact h.elim
    rename_i i j
    simp only [Ab.binV] at h
    by_cases c : 0 < j
    · rw [if_pos c] at h
      exact ⟨i, j, ra, rb, c, h.now rp rfl⟩
    · rw [if_neg c] at h
      exact h.elim
  | pow => exact h.elim
end
end Sn
end
section
set_option Elab.async false
set_option linter.all false
set_option autoImplicit false
set_option maxRecDepth 100000
set_option maxHeartbeats 4000000
/-! Comparisons, places, slices. -/
namespace Sn
open PySem L2
open Ab (Val SO Sto Exc R Txt toD toDs)
variable {B : Bs} {X : Cx}
/-! ### comparisons -/
def ngt (n : Bool) (b : Bool) : Bool := if n = true then !b else b
def inOp (n : Bool) : CmpOp := if n = true then .NotIn else .In
/-- in a list of data -/
def rInL (K : PySem.W.Frag) (n : Bool) : R2 := if n = true then rNotInD K else rInD K
theorem op_inL (hu : X.A.units + 65 < cLine) (n : Bool) : OpR X (compareOp (inOp n)) (rInL X.K n) := by
  cases n
  · exact op_inD hu
  · exact op_notInD hu
/-- in a tuple of flat things -/
theorem op_inF (n : Bool) : OpR X (compareOp (inOp n)) (rIn X.K n) := by
  cases n
  · exact op_in_seq
  · exact op_notIn_seq
def rInC (n : Bool) : R2 := fun x y H Q => ∃ (c : Nat) (z : Str), x = .str ⟨#[c]⟩ ∧ y = .str z ∧ Q (.bl (ngt n (decide (c ∈ z.cps.toList)))) H
theorem op_inC (n : Bool) : OpR X (compareOp (inOp n)) (rInC n) := by
  cases n
  · exact op_in_sign
  · exact op_notIn_sign
/-- a key of a dict -/
def rInK (n : Bool) : R2 := fun x y H Q => ∃ a o, y = .ref a ∧ DGet H a x o ∧ Q (.bl (ngt n o.isSome)) H
theorem op_inK (hu : X.A.units + 1 < cLine) (n : Bool) : OpR X (compareOp (inOp n)) (rInK n) := by
  rintro pins s σ H x y v u Q I rx ry ⟨a, o, e, g, q⟩
  have hu' : u = Value.ref a := by rw [e] at ry; exact ry
  rw [hu']
  have fin : ∀ s', Inv X pins σ H s' → EP X pins σ Q (.bool (ngt n o.isSome)) s' := fun s' J => ⟨.bl (ngt n o.isSome), H, J, rfl, q⟩
  cases n
  · exact d_in hu I g rx fin
  · exact d_notIn hu I g rx fin
def rCmp (K : PySem.W.Frag) : Ab.COp → R2
  | .eq => rEqD K
  | .ne => rNeD K
  | .lt => rI0 fun i j => .bl (decide (i < j))
  | .le => rI0 fun i j => .bl (decide (i ≤ j))
  | .gt => rI0 fun i j => .bl (decide (j < i))
  | .ge => rI0 fun i j => .bl (decide (j ≤ i))
  | .inn => fun x y H Q => rInL K false x y H Q ∨ (rIn K false x y H Q ∨ (rInC false x y H Q ∨ rInK false x y H Q))
  | .notin => fun x y H Q => rInL K true x y H Q ∨ (rIn K true x y H Q ∨ (rInC true x y H Q ∨ rInK true x y H Q))
def opC : Ab.COp → CmpOp
  | .eq => .Eq
  | .ne => .NotEq
  | .lt => .Lt
  | .le => .LtE
  | .gt => .Gt
  | .ge => .GtE
  | .inn => .In
  | .notin => .NotIn
theorem op_cmp (hu : X.A.units + 66 < cLine) (op : Ab.COp) : OpR X (compareOp (opC op)) (rCmp X.K op) := by
  cases op with
  | eq => exact op_eqD (by omega)
  | ne => exact op_neD (by omega)
  | lt => exact op_lt
  | le => exact op_le
  | gt => exact op_gt
  | ge => exact op_ge
  | inn => exact OpR.or (op_inL (by omega) false) (OpR.or (op_inF false) (OpR.or (op_inC false) (op_inK (by omega) false)))
  | notin => exact OpR.or (op_inL (by omega) true) (OpR.or (op_inF true) (OpR.or (op_inC true) (op_inK (by omega) true)))
/-! ### dicts -/
theorem str_inj {a b : Txt} : str a = str b ↔ a = b := by simp [str]
theorem keyS_inj {a b : Txt} : keyS a = keyS b ↔ a = b := by simp [keyS, str]
theorem keyT_inj : ∀ {a b : Ab.AKey}, keyT a = keyT b ↔ a = b
  | [], [] => by simp [keyT]
  | [], _ :: _ => by simp [keyT]
  | _ :: _, [] => by simp [keyT]
  | x :: a, y :: b => by
    have ih := @keyT_inj a b
    have h1 : ((keyT (x :: a)) = keyT (y :: b)) ↔ ((match x with | .inl i => (Sum.inl i : Key) | .inr s => Sum.inr (str s)) = (match y with | .inl i => (Sum.inl i : Key) | .inr s => Sum.inr (str s)) ∧ keyT a = keyT b) := by
      show List.cons _ _ = List.cons _ _ ↔ _
      rw [List.cons.injEq]
      rfl
    rw [h1, ih, List.cons.injEq]
    cases x <;> cases y <;> simp [str_inj]
/-- what is found, or nothing -/
def Got (B : Bs) (φ : List Addr) (F : Hp) (o : Option Val) (o' : Option V) : Prop := match o with
  | some v => ∃ z, o' = some z ∧ RV B φ F v z
  | none => o' = none
section
variable {α κ : Type} [DecidableEq α] [DecidableEq κ] {g : α → κ}
theorem RKs.get {φ : List Addr} {F : Hp} (hg : ∀ a b, g a = g b ↔ a = b) (k : α) : ∀ {kvs : List (α × Val)} {xs : List (κ × V)}, RKs B g φ F kvs xs → Got B φ F (Ab.dget kvs k) (valV xs (g k))
  | [], xs, h => by
    rw [show xs = [] from h]
    exact valV_nil
  | p :: r, xs, ⟨x, t, e, h1, h2⟩ => by
    subst e
    unfold Ab.dget
    by_cases q : p.1 = k
    · rw [if_pos q]
      exact ⟨x, valV_pos (congrArg g q), h1⟩
    · rw [if_neg q, valV_neg fun z => q ((hg _ _).mp z)]
      exact RKs.get hg k h2
theorem RKs.len {φ : List Addr} {F : Hp} : ∀ {kvs : List (α × Val)} {xs : List (κ × V)}, RKs B g φ F kvs xs → kvs.length = xs.length
  | [], xs, h => by rw [show xs = [] from h]; rfl
  | p :: r, xs, ⟨x, t, e, h1, h2⟩ => by rw [e, List.length_cons, List.length_cons, RKs.len h2]
theorem RKs.repl {φ : List Addr} {F : Hp} (hg : ∀ a b, g a = g b ↔ a = b) (k : α) {u : Val} {y : V} (hu : RV B φ F u y) : ∀ {kvs : List (α × Val)} {xs : List (κ × V)}, RKs B g φ F kvs xs →
    RKs B g φ F (kvs.map fun p => (p.1, if p.1 = k then u else p.2)) (xs.map fun q => if q.1 = g k then (q.1, y) else q)
  | [], xs, h => by rw [show xs = [] from h]; rfl
  | p :: r, xs, ⟨x, t, e, h1, h2⟩ => by
    subst e
    have ih := RKs.repl hg k hu h2
    by_cases q : p.1 = k
    · refine ⟨y, _, ?_, by simpa [q] using hu, ih⟩
      simp [q]
    · have q2 : ¬ g p.1 = g k := fun z => q ((hg _ _).mp z)
      refine ⟨x, _, ?_, by simpa [q] using h1, ih⟩
      simp [q2]
theorem RKs.snoc {φ : List Addr} {F : Hp} {k : α} {u : Val} {y : V} (hu : RV B φ F u y) : ∀ {kvs : List (α × Val)} {xs : List (κ × V)}, RKs B g φ F kvs xs → RKs B g φ F (kvs ++ [(k, u)]) (xs ++ [(g k, y)])
  | [], xs, h => by rw [show xs = [] from h]; exact ⟨y, [], rfl, hu, rfl⟩
  | p :: r, xs, ⟨x, t, e, h1, h2⟩ => by
    subst e
    exact ⟨x, _, rfl, h1, RKs.snoc hu h2⟩
theorem RKs.put {φ : List Addr} {F : Hp} (hg : ∀ a b, g a = g b ↔ a = b) {k : α} {u : Val} {y : V} (hu : RV B φ F u y) {kvs : List (α × Val)} {xs : List (κ × V)} (h : RKs B g φ F kvs xs) : RKs B g φ F (Ab.dput kvs k u) (putK xs (g k) y) := by
  have e := RKs.get hg k h
  unfold Ab.dput
  cases c : Ab.dget kvs k with
  | none =>
    rw [c] at e
    rw [putK_new y (show valV xs (g k) = none from e)]
    exact RKs.snoc hu h
  | some v =>
    rw [c] at e
    obtain ⟨z, e, _⟩ := e
    have there : (xs.any fun kv => decide (kv.1 = g k)) = true := by rw [valV_any, e]; rfl
    unfold putK
    rw [if_pos there]
    exact RKs.repl hg k hu h
end
/-- a key that is a tuple -/
theorem key_of_vals {φ : List Addr} {F : Hp} : ∀ {ks : List Val} {k : Ab.AKey} {xs : List V}, Ab.keyOf ks = some k → RVs B φ F ks xs → xs = (keyT k).map kV
  | [], k, xs, h, r => by
    simp [Ab.keyOf] at h
    subst h
    exact r
  | .int i :: r, k, xs, h, ⟨x, t, e, h1, h2⟩ => by
    simp only [Ab.keyOf, Option.map_eq_some_iff] at h
    obtain ⟨k', e1, rfl⟩ := h
    rw [e, key_of_vals e1 h2, show x = _ from h1]
    rfl
  | .str i :: r, k, xs, h, ⟨x, t, e, h1, h2⟩ => by
    simp only [Ab.keyOf, Option.map_eq_some_iff] at h
    obtain ⟨k', e1, rfl⟩ := h
    rw [e, key_of_vals e1 h2, show x = _ from h1.1]
    rfl
  | .non :: _, _, _, h, _ => by simp [Ab.keyOf] at h
  | .bl _ :: _, _, _, h, _ => by simp [Ab.keyOf] at h
  | .tup _ :: _, _, _, h, _ => by simp [Ab.keyOf] at h
  | .lst _ :: _, _, _, h, _ => by simp [Ab.keyOf] at h
  | .loc _ :: _, _, _, h, _ => by simp [Ab.keyOf] at h
  | .scr _ :: _, _, _, h, _ => by simp [Ab.keyOf] at h
  | .exc _ _ :: _, _, _, h, _ => by simp [Ab.keyOf] at h
/-- what a dict holds, by the heap -/
theorem dlook_ok {φ : List Addr} {F : Hp} {s : Sto} {H : Hp} (rp : Rp B φ F s H) {d k : Val} {x y : V} {o : Option Val} (rd : RV B φ F d x) (rk : RV B φ F k y) (h : Ab.dlook s d k = some o) :
    ∃ a o', x = .ref a ∧ DGet H a y o' ∧ IsD H a ∧ Got B φ F o o' := by
  cases d with
  | loc l =>
    obtain ⟨a, rfl, ha⟩ := rd
    cases e : s[l]? with
    | none => simp [Ab.dlook, e] at h
    | some ob =>
      cases ob with
      | dS kvs =>
        cases k with
        | str t =>
          simp only [Ab.dlook, e, Option.some.injEq] at h
          subst h
          obtain ⟨ho, e1, xs, rfl, hv⟩ := rp.at ha e
          rw [show y = _ from rk.1]
          exact ⟨a, _, rfl, DGet.k (k := keyS t) e1, .inl ⟨xs, Rd.of e1⟩, RKs.get (g := keyS) (fun _ _ => keyS_inj) t hv⟩
        | _ => simp [Ab.dlook, e] at h
      | dT kvs =>
        cases k with
        | tup ks =>
          simp only [Ab.dlook, e, Option.map_eq_some_iff] at h
          obtain ⟨k', e2, rfl⟩ := h
          obtain ⟨ho, e1, xs, rfl, hv, _⟩ := rp.at ha e
          obtain ⟨b, ys, rfl, hb, hk⟩ := rk
          have hb' : H b = some (.tup ((keyT k').map kV)) := by
            rw [← key_of_vals e2 hk]
            exact rp.fz _ _ hb
          exact ⟨a, _, rfl, DGet.t (k := keyT k') e1 hb', .inr ⟨xs, Rd.of e1⟩, RKs.get (g := keyT) (fun _ _ => keyT_inj) k' hv⟩
        | _ => simp [Ab.dlook, e] at h
      | dTf kvs =>
        cases k with
        | tup ks =>
          simp only [Ab.dlook, e, Option.map_eq_some_iff] at h
          obtain ⟨k', e2, rfl⟩ := h
          obtain ⟨ho, e1, od, xs, rfl, hv, _⟩ := rp.at ha e
          obtain ⟨b, ys, rfl, hb, hk⟩ := rk
          have hb' : H b = some (.tup ((keyT k').map kV)) := by
            rw [← key_of_vals e2 hk]
            exact rp.fz _ _ hb
          exact ⟨a, _, rfl, .inr ⟨xs, keyT k', b, .inr ⟨od, e1⟩, rfl, hb', rfl⟩, .inr ⟨xs, .inr ⟨od, e1⟩⟩, RKs.get (g := keyT) (fun _ _ => keyT_inj) k' hv⟩
        | _ => simp [Ab.dlook, e] at h
      | _ => simp [Ab.dlook, e] at h
  | _ => simp [Ab.dlook] at h
/-- texts of a key are texts -/
theorem good_of {φ : List Addr} {F : Hp} : ∀ {vs : List Val} {xs : List V} {k : Ab.AKey}, Ab.keyOf vs = some k → RVs B φ F vs xs → goodK k
  | [], _, k, h, _ => by
    cases h
    intro t ht
    cases ht
  | .int i :: r, _, k, h, ⟨_, _, _, _, h2⟩ => by
    simp only [Ab.keyOf, Option.map_eq_some_iff] at h
    obtain ⟨k', e1, rfl⟩ := h
    intro t ht
    rcases List.mem_cons.mp ht with z | z
    · cases z
    · exact good_of e1 h2 t z
  | .str x :: r, _, k, h, ⟨_, _, _, h1, h2⟩ => by
    simp only [Ab.keyOf, Option.map_eq_some_iff] at h
    obtain ⟨k', e1, rfl⟩ := h
    intro t ht
    rcases List.mem_cons.mp ht with z | z
    · cases z
      exact h1.2
    · exact good_of e1 h2 t z
  | .non :: _, _, _, h, _ => by simp [Ab.keyOf] at h
  | .bl _ :: _, _, _, h, _ => by simp [Ab.keyOf] at h
  | .tup _ :: _, _, _, h, _ => by simp [Ab.keyOf] at h
  | .lst _ :: _, _, _, h, _ => by simp [Ab.keyOf] at h
  | .loc _ :: _, _, _, h, _ => by simp [Ab.keyOf] at h
  | .scr _ :: _, _, _, h, _ => by simp [Ab.keyOf] at h
  | .exc _ _ :: _, _, _, h, _ => by simp [Ab.keyOf] at h
theorem put_good {kvs : List (Ab.AKey × Val)} {k : Ab.AKey} {v : Val} (h : ∀ p ∈ kvs, goodK p.1) (hk : goodK k) : ∀ p ∈ Ab.dput kvs k v, goodK p.1 := by
  intro p hp
  unfold Ab.dput at hp
  split at hp
  · obtain ⟨q, hq, rfl⟩ := List.mem_map.mp hp
    exact h q hq
  · rcases List.mem_append.mp hp with z | z
    · exact h p z
    · rw [List.mem_singleton.mp z]
      exact hk
theorem setV_ok {φ : List Addr} {F : Hp} {s s' : Sto} {H : Hp} (rp : Rp B φ F s H) {o i v : Val} {x y z : V} (ro : RV B φ F o x) (ri : RV B φ F i y) (rv : RV B φ F v z) (h : Ab.setV o i v s = some s') :
    ∃ a H', x = .ref a ∧ Ext φ F H φ F H' ∧ Rp B φ F s' H' ∧ ((∃ xs k j, y = .int k ∧ H a = some (.lst xs) ∧ L2.ixN xs.length k = some j ∧ H' = upd H a (.lst (xs.set j z))) ∨ DPut H a y z H') := by
  cases o with
  | loc l =>
    obtain ⟨a, rfl, ha⟩ := ro
    cases e : s[l]? with
    | none => simp [Ab.setV, e] at h
    | some ob =>
      cases ob with
      | list xs =>
        cases i with
        | int k =>
          simp only [Ab.setV, e, Option.map_eq_some_iff] at h
          obtain ⟨j, e2, rfl⟩ := h
          obtain ⟨ho, e1, ys, rfl, hv⟩ := rp.at ha e
          refine ⟨a, _, rfl, Ext.write rp ha, rp.write ha (fun _ z => by rw [e] at z; cases z) (o := .list (xs.set j v)) ⟨_, rfl, hv.set rv j⟩, .inl ⟨ys, k, j, ri, e1, ?_, rfl⟩⟩
          rw [← hv.length]
          exact e2
        | _ => simp [Ab.setV, e] at h
      | dS kvs =>
        cases i with
        | str t =>
          simp only [Ab.setV, e] at h
          by_cases c : kvs.length < Ab.LIM
          · rw [if_pos c] at h
            cases h
            obtain ⟨ho, e1, xs, rfl, hv⟩ := rp.at ha e
            rw [show y = _ from ri.1]
            exact ⟨a, _, rfl, Ext.write rp ha, rp.write ha (fun _ z => by rw [e] at z; cases z) (o := .dS (Ab.dput kvs t v)) ⟨_, rfl, RKs.put (fun _ _ => keyS_inj) rv hv⟩, .inr (DPut.k (k := keyS t) e1 (by rw [← RKs.len hv]; exact line_lt c))⟩
          · rw [if_neg c] at h
            cases h
        | _ => simp [Ab.setV, e] at h
      | dT kvs =>
        cases i with
        | tup ks =>
          simp only [Ab.setV, e] at h
          by_cases c : kvs.length < Ab.LIM
          · rw [if_pos c, Option.map_eq_some_iff] at h
            obtain ⟨k', e2, rfl⟩ := h
            obtain ⟨ho, e1, xs, rfl, hv, gk⟩ := rp.at ha e
            obtain ⟨b, ys, rfl, hb, hk⟩ := ri
            have hb' : H b = some (.tup ((keyT k').map kV)) := by
              rw [← key_of_vals e2 hk]
              exact rp.fz _ _ hb
            exact ⟨a, _, rfl, Ext.write rp ha, rp.write ha (fun _ z => by rw [e] at z; cases z) (o := .dT (Ab.dput kvs k' v)) ⟨_, rfl, RKs.put (fun _ _ => keyT_inj) rv hv, put_good gk (good_of e2 hk)⟩, .inr (DPut.t (k := keyT k') e1 hb' (by rw [← RKs.len hv]; exact line_lt c))⟩
          · rw [if_neg c] at h
            cases h
        | _ => simp [Ab.setV, e] at h
      | dTf kvs => simp [Ab.setV, e] at h
      | inst c fs => simp [Ab.setV, e] at h
  | _ => simp [Ab.setV] at h
/-! ### cmpV -/
theorem Dat.shaped {H : Hp} {x : V} {w : Val} (D : Dat B H Ab.DEEP x w) : SeqAt.shaped (toD w) = true := by
  simp only [SeqAt.shaped, D.p, Bool.true_and, decide_eq_true_eq]
  exact Nat.le_trans D.h (by decide)
/-- a flat value's own -/
def ownV : Val → V
  | .bl b => .bl b
  | .int i => .int i
  | .str s => .str (str s)
  | _ => .non
theorem flat_is {φ : List Addr} {F : Hp} {v : Val} {x : V} (r : RV B φ F v x) (h : Ab.flat v = true) : x = ownV v := by
  cases v with
  | str s => exact r.1
  | non => exact r
  | bl b => exact r
  | int i => exact r
  | _ => cases h
theorem flat_ok {φ : List Addr} {F : Hp} {v : Val} {x : V} (r : RV B φ F v x) (h : Ab.flat v = true) : flatV x = true := by
  rw [flat_is r h]
  cases v <;> rfl
theorem flats_ok {φ : List Addr} {F : Hp} : ∀ {vs : List Val} {xs : List V}, RVs B φ F vs xs → vs.all Ab.flat = true → xs.all flatV = true
  | [], xs, r, _ => by rw [show xs = [] from r]; rfl
  | v :: vs, xs, ⟨x, t, e, h1, h2⟩, h => by
    obtain ⟨g1, g2⟩ : Ab.flat v = true ∧ vs.all Ab.flat = true := by simpa using h
    simp [e, flat_ok h1 g1, flats_ok h2 g2]
theorem own_eq : ∀ (a b : Val), Ab.flat a = true → Ab.flat b = true → L2.eqV (ownV a) (ownV b) = Ab.pyEq a b := by
  intro a b ha hb
  cases a <;> first | (cases ha; done) | (cases b <;> first | (cases hb; done) | skip)
  all_goals first | rfl | (simp [ownV, L2.eqV, Ab.pyEq, Ab.numOf, str_beq]; done) | (rename_i p q; cases p <;> cases q <;> rfl)
theorem flat_eq {φ : List Addr} {F : Hp} {a b : Val} {x y : V} (ra : RV B φ F a x) (rb : RV B φ F b y) (ha : Ab.flat a = true) (hb : Ab.flat b = true) : L2.eqV x y = Ab.pyEq a b := by
  rw [flat_is ra ha, flat_is rb hb, own_eq a b ha hb]
theorem flat_in {φ : List Addr} {F : Hp} {a : Val} {x : V} (ra : RV B φ F a x) (ha : Ab.flat a = true) : ∀ {vs : List Val} {xs : List V}, RVs B φ F vs xs → vs.all Ab.flat = true → L2.inV x xs = vs.any fun z => Ab.pyEq z a
  | [], xs, r, _ => by rw [show xs = [] from r]; rfl
  | v :: vs, xs, ⟨y, t, e, h1, h2⟩, h => by
    obtain ⟨g1, g2⟩ : Ab.flat v = true ∧ vs.all Ab.flat = true := by simpa using h
    have ih := flat_in ra ha h2 g2
    rw [e, List.any_cons, ← ih, ← flat_eq h1 ra g1 ha]
    rfl
theorem eqV_ok {φ : List Addr} {F : Hp} {s : Sto} {H : Hp} {a b : Val} {x y : V} {c : Bool} (rp : Rp B φ F s H) (ra : RV B φ F a x) (rb : RV B φ F b y) (h : Ab.eqV s a b = some c) :
    ∃ d e, Dp B.K H x d ∧ Dp B.K H y e ∧ SeqAt.shaped d = true ∧ SeqAt.shaped e = true ∧ PyData.eqv d e = c := by
  simp only [Ab.eqV] at h
  split at h
  · rename_i u w e1 e2
    cases h
    have D1 := res_dat rp _ _ _ _ e1 ra
    have D2 := res_dat rp _ _ _ _ e2 rb
    exact ⟨_, _, D1.d, D2.d, D1.shaped, D2.shaped, pyEq_eqv _ _⟩
  · cases h
def isIn (s : Sto) (a b : Val) : Option Bool := match b with
  | .tup vs => Ab.inT a vs
  | _ => Ab.inV s a b
theorem inT_ok {φ : List Addr} {F : Hp} {H : Hp} {a : Val} {vs : List Val} {x : V} {xs : List V} {p : Addr} {c n : Bool} {Q : VK} (ra : RV B φ F a x) (hv : RVs B φ F vs xs) (hp : SqT B.K H p xs) (h : Ab.inT a vs = some c) (q : Q (.bl (ngt n c)) H) : rIn B.K n x (.ref p) H Q := by
  simp only [Ab.inT] at h
  split at h
  · rename_i f
    cases h
    refine ⟨p, xs, rfl, .inr hp, flat_ok ra f.1, flats_ok hv f.2, ?_⟩
    rw [flat_in ra f.1 hv f.2]
    exact q
  · cases h
theorem inS_ok {φ : List Addr} {F : Hp} {s : Sto} {H : Hp} {a b : Val} {x y : V} {c n : Bool} {Q : VK} (rp : Rp B φ F s H) (ra : RV B φ F a x) (rb : RV B φ F b y)
    (h : isIn s a b = some c) (q : Q (.bl (ngt n c)) H) : rInL B.K n x y H Q ∨ (rIn B.K n x y H Q ∨ (rInC n x y H Q ∨ rInK n x y H Q)) := by
  have list : ∀ b, RV B φ F b y → (match Ab.res s Ab.DEEP a, Ab.res s Ab.DEEP b with
      | some d, some (.lst ds) => some (ds.any fun z => Ab.pyEq z d)
      | _, _ => none) = some c → rInL B.K n x y H Q := by
    intro b rb h
    split at h
    · rename_i d ds e1 e2
      cases h
      have D1 := res_dat rp _ _ _ _ e1 ra
      have D2 := res_dat rp _ _ _ _ e2 rb
      cases n
      · exact ⟨_, _, D1.d, D2.d, D1.shaped, D2.shaped, by rw [any_eqv]; exact q⟩
      · exact ⟨_, _, D1.d, D2.d, D1.shaped, D2.shaped, by rw [any_eqv]; exact q⟩
    · cases h
  have dict : ∀ b, RV B φ F b y → (Ab.dlook s b a).map (·.isSome) = some c → rInK n x y H Q := by
    intro b rb h
    simp only [Option.map_eq_some_iff] at h
    obtain ⟨o, e1, rfl⟩ := h
    obtain ⟨p, o', e2, g, _, k⟩ := dlook_ok rp rb ra e1
    refine ⟨p, o', e2, g, ?_⟩
    have : o'.isSome = o.isSome := by
      cases o with
      | none => rw [show o' = none from k]; rfl
      | some v => obtain ⟨z, rfl, _⟩ := k; rfl
    rw [this]
    exact q
  cases b with
  | tup vs =>
    obtain ⟨p, xs, rfl, hp, hv⟩ := rb
    exact .inr (.inl (inT_ok ra hv (SqT.of (rp.fz _ _ hp)) h q))
  | str t =>
    simp only [isIn, Ab.inV] at h
    split at h
    · rename_i k
      cases h
      exact .inr (.inr (.inl ⟨k, str t, ra.1, rb.1, by simpa [str] using q⟩))
    · cases h
  | lst vs =>
    simp only [isIn, Ab.inV] at h
    exact .inl (list _ rb h)
  | loc l =>
    simp only [isIn, Ab.inV] at h
    split at h
    · exact .inl (list _ rb h)
    · exact .inr (.inr (.inr (dict _ rb h)))
    · cases h
  | _ => simp [isIn, Ab.inV] at h
theorem cmp_ok {φ : List Addr} {F : Hp} {s : Sto} {H : Hp} {W : WX} {σ : L2.St} {Q : VK} {op : Ab.COp} {a b : Val} {x y : V} (rp : Rp B φ F s H) (ra : RV B φ F a x) (rb : RV B φ F b y)
    (h : Out B W (RV B) φ F H (Ab.pur s ((Ab.cmpV op a b s).map .bl)) σ Q) : rCmp B.K op x y H Q := by
  cases e : Ab.cmpV op a b s with
  | none => rw [e] at h; exact h.elim
  | some c =>
    rw [e] at h
    have q : Q (.bl c) H := Out.now (a := Val.bl c) h rp rfl
    cases op with
    | eq =>
      obtain ⟨d, f, h1, h2, h3, h4, rfl⟩ := eqV_ok rp ra rb e
      exact ⟨d, f, h1, h2, h3, h4, q⟩
    | ne =>
      simp only [Ab.cmpV, Option.map_eq_some_iff] at e
      obtain ⟨c', e, rfl⟩ := e
      obtain ⟨d, f, h1, h2, h3, h4, rfl⟩ := eqV_ok rp ra rb e
      exact ⟨d, f, h1, h2, h3, h4, q⟩
    | inn => exact inS_ok (n := false) rp ra rb (by cases b <;> exact e) q
    | notin =>
      have e' : (isIn s a b).map not = some c := by cases b <;> exact e
      simp only [Option.map_eq_some_iff] at e'
      obtain ⟨c', e2, rfl⟩ := e'
      exact inS_ok (n := true) rp ra rb e2 q
    | lt =>
      cases a <;> cases b <;> simp [Ab.cmpV] at e
      subst e
      exact ⟨_, _, ra, rb, q⟩
    | le =>
      cases a <;> cases b <;> simp [Ab.cmpV] at e
      subst e
      exact ⟨_, _, ra, rb, q⟩
    | gt =>
      cases a <;> cases b <;> simp [Ab.cmpV] at e
      subst e
      exact ⟨_, _, ra, rb, q⟩
    | ge =>
      cases a <;> cases b <;> simp [Ab.cmpV] at e
      subst e
      exact ⟨_, _, ra, rb, q⟩
/-! ### places -/
theorem atI_ok {φ : List Addr} {F : Hp} {vs : List Val} {xs : List V} {k : Int} {v : Val} (r : RVs B φ F vs xs) (h : L2.atI vs k = some v) : ∃ x, L2.atI xs k = some x ∧ RV B φ F v x := by
  unfold L2.atI at h ⊢
  rw [← r.length]
  cases e : L2.ixN vs.length k with
  | none => rw [e] at h; cases h
  | some j =>
    rw [e] at h
    exact r.got (show vs[j]? = some v from h)
theorem atI_mem {α : Type} {xs : List α} {k : Int} {c : α} (h : L2.atI xs k = some c) : c ∈ xs := by
  unfold L2.atI at h
  cases e : L2.ixN xs.length k with
  | none => rw [e] at h; cases h
  | some j =>
    rw [e] at h
    exact List.mem_of_getElem? (show xs[j]? = some c from h)
/-- a place among items or signs -/
theorem item_seq {φ : List Addr} {F : Hp} {s : Sto} {H : Hp} {W : WX} {σ : L2.St} {Q : VK} {a : Val} {k : Int} {x y : V} (rp : Rp B φ F s H) (ra : RV B φ F a x) (ri : RV B φ F (.int k) y)
    (h : Out B W (RV B) φ F H (Ab.pur s (Ab.itemV a (.int k) s)) σ Q) : rIx B.K x y H Q := by
  cases e : Ab.itemV a (.int k) s with
  | none => rw [e] at h; exact h.elim
  | some v =>
    rw [e] at h
    have q : ∀ z, RV B φ F v z → Q z H := fun z hz => Out.now (a := v) h rp hz
    by_cases d : ∃ t, a = .str t
    · obtain ⟨t, rfl⟩ := d
      simp only [Ab.itemV] at e
      split at e
      · rename_i hl
        simp only [Option.map_eq_some_iff] at e
        obtain ⟨c, e, rfl⟩ := e
        refine .inr (.inr ⟨str t, k, c, ra.1, ri, by rw [str_len]; exact line_of hl, ?_, q _ ⟨rfl, fun d hd => ra.2 d (by rw [List.mem_singleton.mp hd]; exact atI_mem e)⟩⟩)
        exact e
      · cases e
    · have e' : (Ab.seqOf s a).bind (fun vs => L2.atI vs k) = some v := by
        cases a <;> first | exact e | exact absurd ⟨_, rfl⟩ d
      cases e1 : Ab.seqOf s a with
      | none => rw [e1] at e'; cases e'
      | some vs =>
        rw [e1] at e'
        obtain ⟨p, xs, e2, hp, hv⟩ := seq_at rp e1 ra
        obtain ⟨z, e3, hz⟩ := atI_ok hv e'
        rcases hp with hp | ⟨hp, _⟩
        · exact .inl ⟨p, xs, k, z, e2, ri, SqL.of hp, e3, q _ hz⟩
        · exact .inr (.inl ⟨p, xs, k, z, e2, ri, SqT.of hp, e3, q _ hz⟩)
/-- what a dict holds -/
theorem item_dict {φ : List Addr} {F : Hp} {s : Sto} {H : Hp} {W : WX} {σ : L2.St} {Q : VK} {a i : Val} {x y : V} (rp : Rp B φ F s H) (ra : RV B φ F a x) (ri : RV B φ F i y) (c : ∀ k, i ≠ .int k)
    (h : Out B W (RV B) φ F H (Ab.pur s (Ab.itemV a i s)) σ Q) : ∃ a v, x = .ref a ∧ DGet H a y (some v) ∧ Q v H := by
  have e' : Ab.itemV a i s = (Ab.dlook s a i).bind id := by
    cases a <;> cases i <;> first | rfl | exact absurd rfl (c _)
  rw [e'] at h
  cases e1 : Ab.dlook s a i with
  | none => rw [e1] at h; exact h.elim
  | some o =>
    rw [e1] at h
    cases o with
    | none => exact h.elim
    | some v =>
      obtain ⟨p, o', e2, g, _, z, rfl, hz⟩ := dlook_ok rp ra ri e1
      exact ⟨p, z, e2, g, Out.now (a := v) h rp hz⟩
theorem cut_eq {α : Type} (xs : List α) (lo hi : Option Int) : Ab.cut xs lo hi = (xs.drop (HT.sIx xs.length 0 lo)).take (HT.sIx xs.length xs.length hi - HT.sIx xs.length 0 lo) := List.drop_take
theorem cut_ok {φ : List Addr} {F : Hp} {vs : List Val} {xs : List V} {lo hi : Option Int} (r : RVs B φ F vs xs) : RVs B φ F (Ab.cut vs lo hi) (cutV xs lo hi) := by
  have e : cutV xs lo hi = Ab.cut xs lo hi := (cut_eq xs lo hi).symm
  rw [e]
  unfold Ab.cut
  rw [← r.length]
  exact (r.take _).drop _
def rSlc (K : PySem.W.Frag) : V → Option Int → Option Int → Hp → VK → Prop := fun x lo hi H Q => rSlL K x lo hi H Q ∨ (rSlA K x lo hi H Q ∨ rSlS x lo hi H Q)
theorem sl_any : SlR X (rSlc X.K) := SlR.or sl_list (SlR.or sl_tupA sl_str)
theorem slice_ok {φ : List Addr} {F : Hp} {s : Sto} {H : Hp} {W : WX} {σ : L2.St} {Q : VK} {m : Bool} {a : Val} {lo hi : Option Int} {x : V} (rp : Rp B φ F s H) (ra : RV B φ F a x)
    (h : Out B W (RV B) φ F H (Ab.lift (Ab.sliceV m a lo hi s)) σ Q) : rSlc B.K x lo hi H Q := by
  have list : ∀ a, RV B φ F a x → Out B W (RV B) φ F H (Ab.lift ((Ab.lstOf s a).map fun vs => Ab.alloc m (Ab.cut vs lo hi) s)) σ Q → rSlL B.K x lo hi H Q := by
    intro a ra h
    cases e : Ab.lstOf s a with
    | none => rw [e] at h; exact h.elim
    | some vs =>
      rw [e] at h
      obtain ⟨p, xs, e2, hp, hv⟩ := lst_at rp e ra
      exact ⟨p, xs, e2, SqL.of hp, fun l hl => new_lst rp h (cut_ok hv) hl⟩
  cases a with
  | str t =>
    simp only [Ab.sliceV] at h
    by_cases c : t.length ≤ Ab.LIM
    · rw [if_pos c] at h
      refine .inr (.inr ⟨str t, ra.1, by rw [str_len]; exact line_of c, ?_⟩)
      have e : cutS (str t) lo hi = str (Ab.cut t lo hi) := by
        unfold cutS
        rw [cut_eq, str_len]
      rw [e]
      exact h.now rp ⟨rfl, fun d hd => ra.2 d (List.mem_of_mem_take (List.mem_of_mem_drop hd))⟩
    · rw [if_neg c] at h
      exact h.elim
  | tup vs =>
    obtain ⟨p, xs, rfl, hp, hv⟩ := ra
    refine .inr (.inl ⟨p, xs, rfl, SqT.of (rp.fz _ _ hp), fun w => ?_, fun _ l hl => new_tup rp h (cut_ok hv) hl⟩)
    have e : Ab.cut vs lo hi = vs := by
      unfold Ab.cut
      rw [hv.length, w.1, w.2, List.drop_zero, ← hv.length, List.take_length]
    have h' : Out B W (RV B) φ F H (Ab.ok (.tup vs) s) σ Q := by rw [← e]; exact h
    exact h'.now rp ⟨p, xs, rfl, hp, hv⟩
  | _ => exact .inl (list _ ra h)
end Sn
end
section
set_option Elab.async false
set_option linter.all false
set_option autoImplicit false
set_option maxRecDepth 100000
set_option maxHeartbeats 4000000
/-! Rules that the hand layer lacks: remove and count over data, max with default, len(set(texts)). -/
namespace Sn
open PySem L2
open Ab (unl unl_le)
section
variable {X : Cx}
/-- xs.remove(y), over data -/
def rRem (K : PySem.W.Frag) : V → List V → Hp → VK → Prop := fun x xs H Q => ∃ (a : Addr) (us : List V) (y : V) (d : PyData) (ds : List PyData) (j : Nat),
  x = .ref a ∧ xs = [y] ∧ H a = some (.lst us) ∧ DpAll K H us ds ∧ Dp K H y d ∧ SeqAt.shaped (.list ds) = true ∧ SeqAt.shaped d = true ∧ SeqAt.dataPlace ds d = some j ∧ Q .non (upd H a (.lst (us.eraseIdx j)))
theorem vals_erase : ∀ {us : List V} {its : List Value} (j : Nat), Vals us its → Vals (us.eraseIdx j) (its.eraseIdx j)
  | _, _, j, .nil => by simp; exact .nil
  | _, _, 0, .cons _ t => t
  | _, _, j + 1, .cons r t => .cons r (vals_erase j t)
theorem mt_rem (hu : X.A.units + 65 < cLine) : MtM X "list.remove" (rRem X.K) := by
  rintro pins s σ H x xs v us Q I rx rxs ⟨a, ws, y, d, ds, j, rfl, rfl, hH, hds, hd, sl, sd, hp, q⟩
  cases rx
  obtain ⟨u, hus, ru⟩ := rxs.one
  subst hus
  have look := I.lstM hH
  obtain ⟨z, its, n, r, hl, e⟩ := look
  obtain ⟨as, rs⟩ := Dp.readsAll I ds ws its hds r
  obtain ⟨bs, ry⟩ := Dp.reads I d y u hd ru
  have c1 : PyData.canLayAll0 ds = true := SeqAt.canLay_of_shaped sl
  have c2 : d.canLay0 = true := SeqAt.canLay_of_shaped sd
  have isl : s.heap.IsList a its.toArray := ⟨_, e, rfl, n, rfl⟩
  refine SeqAt.remove_list_data (j := j) isl (by simpa using rs) ry (PyData.plainAll_of_canLay0 ds c1) (PyData.plain_of_canLay0 d c2) (PyProof.Rows.room_in_shaped sd hu) hp (by simp; omega) ?_
  refine ⟨.non, _, I.lset (its' := its.eraseIdx j) (t' := s.toks) hH e ?_ (vals_erase j r) ?_, rfl, q⟩
  · rw [List.eraseIdxIfInBounds_toArray]
  · have := List.length_eraseIdx_le ws j
    omega
/-- xs.count(y), over data -/
def rCnt (K : PySem.W.Frag) : V → List V → Hp → VK → Prop := fun x xs H Q => ∃ (a : Addr) (us : List V) (y : V) (d : PyData) (ds : List PyData),
  x = .ref a ∧ xs = [y] ∧ SqL K H a us ∧ DpAll K H us ds ∧ Dp K H y d ∧ SeqAt.shaped (.list ds) = true ∧ SeqAt.shaped d = true ∧ Q (.int ((ds.countP fun z => PyData.eqv z d : Nat) : Int)) H
theorem mt_cnt (hu : X.A.units + 65 < cLine) : MtR X "list.count" (rCnt X.K) := by
  rintro pins s σ H x xs v us Q I rx rxs ⟨a, ws, y, d, ds, rfl, rfl, hH, hds, hd, sl, sd, q⟩
  cases rx
  obtain ⟨u, hus, ru⟩ := rxs.one
  subst hus
  obtain ⟨its, r, pl, hz⟩ := I.list hH
  obtain ⟨as, rs⟩ := Dp.readsAll I ds ws its hds r
  obtain ⟨bs, ry⟩ := Dp.reads I d y u hd ru
  have c1 : PyData.canLayAll0 ds = true := SeqAt.canLay_of_shaped sl
  have c2 : d.canLay0 = true := SeqAt.canLay_of_shaped sd
  refine SeqAt.count_list_data pl.isList (by simpa using rs) ry (PyData.plainAll_of_canLay0 ds c1) (PyData.plain_of_canLay0 d c2) (PyProof.Rows.room_in_shaped sd hu) ?_
  exact ⟨.int _, H, I.tok _, ⟨s.toks, rfl⟩, q⟩
/-- max(ns, default=i), over whole numbers -/
def rMaxD (K : PySem.W.Frag) : List V → List V → Hp → VK → Prop := fun xs zs H Q => ∃ (a : Addr) (ns : List Int) (i : Int), xs = [.ref a] ∧ zs = [.int i] ∧ SqL K H a (ns.map V.int) ∧ Q (.int (match ns with
  | [] => i
  | n :: r => r.foldl max n)) H
theorem dp_ints (K : PySem.W.Frag) (H : Hp) : ∀ ns : List Int, DpAll K H (ns.map V.int) (ns.map PyData.int)
  | [] => .nil
  | n :: ns => .cons (.int n) (dp_ints K H ns)
theorem depth_ints : ∀ ns : List Int, PyData.depthAll (ns.map PyData.int) = 0
  | [] => rfl
  | n :: ns => by
    have := depth_ints ns
    simp only [List.map_cons, PyData.depthAll, PyData.depth, this]
    rfl
theorem alike_ints (ns : List Int) : PySem.W.AlikeAll (ns.map PyData.int) := by
  refine ⟨fun x hx y hy => ?_, fun x hx => ?_⟩
  · obtain ⟨i, _, rfl⟩ := List.mem_map.mp hx
    obtain ⟨j, _, rfl⟩ := List.mem_map.mp hy
    rfl
  · obtain ⟨i, _, rfl⟩ := List.mem_map.mp hx
    intro z
    cases z
theorem reads_int {h : Heap} {v : Value} {i : Int} {as : List Addr} (r : Reads h v (.int i) as) : RelV (.int i) v := by
  cases r
  exact ⟨_, rfl⟩
theorem cr_maxD (hc : X.calm = true) (hu : X.A.units + 40 < cLine) : CallRK X (.builtin "max") [Str.ofString "default"] (rMaxD X.K) := by
  rintro pins s σ H xs zs us ws Q I rx rz ⟨a, ns, i, rfl, rfl, hq, q⟩
  rw [Vals.ref1 rx]
  obtain ⟨w, rfl, rw'⟩ := rz.one
  have look := I.list hq
  obtain ⟨its, r, pl, hz⟩ := look
  obtain ⟨as, rs⟩ := Dp.readsAll I _ _ its (dp_ints X.K H ns) r
  have keep : ∀ (h' : Heap) (tk : Nat), (∀ b o, s.heap.get? b = some o → h'.get? b = some o) → Inv X pins σ H { s with heap := h', toks := tk } := fun h' tk k => I.kept k
  refine PySem.W.max_list_default (I.ok.hd hc) pl.isList (by simpa using rs) (alike_ints ns) (by rw [depth_ints]; omega) (fun e h' tk k => ?_) fun y ys j v h' tk bs e hv hr k => ?_
  · have e2 : ns = [] := List.map_eq_nil_iff.mp e
    subst e2
    exact ⟨.int i, H, keep h' tk k, rw', q⟩
  · cases ns with
    | nil => cases e
    | cons n ns =>
      rw [List.map_cons] at e
      injection e with e1 e2
      subst e1
      subst e2
      rw [PySem.W.maxD_ints] at hr
      exact ⟨.int (ns.foldl max n), H, keep h' tk k, reads_int hr, q⟩
end
/-! ### len(set(texts)) -/
section
variable {prog : Program} {w : World} {A : Around} {κ : Type} [DecidableEq κ] [BEq κ] [LawfulBEq κ] {kd : KeyKind prog w κ}
theorem add_all {R : Result → Shared → Prop} {I S : Addr} {fp wr : List Addr} {G : Array GenState → Array GenState → Prop} {n : Nat} {P : Nat → Value → Prop} {St : Nat → Shared → Prop} (W : WalksS prog w A.in1 I fp wr G n P St) (hS : S ∉ fp) {ks : List κ} (hn : ks.length = n) (hb : n + 1 < scanBound)
    (hv : ∀ i v, P i v → ∃ k, ks[i]? = some k ∧ kd.is k v = true ∧ v.scannable = true) : ∀ (m i : Nat) (s : Shared), m = n - i → i ≤ n → St i s → s.heap.SetOf kd S (fun k => decide (k ∈ ks.take i)) (unl ks i) →
      (∀ s', Moved (S :: wr) G s s' → s'.heap.SetOf kd S (fun k => decide (k ∈ ks)) (unl ks n) → R (.ok (.ret .none)) s') → codeAny (model prog w) A (.builtin "set.update.loop" ⟨[.ref S, .ref I], []⟩) R s := by
  have out : S ∉ wr := fun z => hS (W.sub _ z)
  have wide : ∀ b ∈ wr, b ∈ S :: wr := fun b z => List.mem_cons_of_mem _ z
  have moved : ∀ {h h' : Heap} {f : κ → Bool} {c : Nat}, (∀ o, h.get? S = some o → h'.get? S = some o) → h.SetOf kd S f c → h'.SetOf kd S f c := by
    rintro h h' f c k ⟨o, es, ep, t, ho, rest⟩
    exact ⟨o, es, ep, t, k o ho, rest⟩
  intro m
  induction m with
  | zero =>
    intro i s hm hi st so k
    obtain rfl : i = n := by omega
    apply codeAny_builtin PyProof.Rows.F.entry_set_update_loop
    rw [Around.under_plainId PyProof.Rows.F.plain_set_update_loop]
    apply wpAny_bind
    apply W.done s _ _ st
    intro s' hm
    apply wpAny_pure
    apply k s' (hm.mono wide)
    have e : ks.take i = ks := by rw [← hn, List.take_length]
    rw [e] at so
    exact moved (fun o q => hm.heap S o out q) so
  | succ m ih =>
    intro i s hm hi st so k
    have lt : i < n := by omega
    apply codeAny_builtin PyProof.Rows.F.entry_set_update_loop
    rw [Around.under_plainId PyProof.Rows.F.plain_set_update_loop]
    apply wpAny_bind
    apply W.item i s _ _ lt st
    intro v s1 pv st1 mv
    obtain ⟨x, hx, hk, hsc⟩ := hv i v pv
    apply wpAny_bind (m := holding [v] (setAdd S v))
    apply wpAny_holding
    unfold setAdd
    apply wpAny_holding
    apply wpAny_bind
    apply kd.pyHash hk
    have few := unl_le ks i
    apply wpAny_setAddHashed_of (knd := kd) (s := { s1 with toks := s1.toks + 1 }) hk hsc (moved (fun o q => mv.heap S o out q) so) (by omega)
    intro h2 sb so2
    have so3 : h2.SetOf kd S (fun k => decide (k ∈ ks.take (i + 1))) (unl ks (i + 1)) := by
      refine PyProof.Rows.SetOf_congr so2 (fun y => ?_) ?_
      · rw [List.take_add_one, hx]
        by_cases c : y = x <;> simp [c]
      · show (if decide (x ∈ ks.take i) = true then unl ks i else unl ks i + 1) = unl ks i + _
        rw [hx]
        by_cases c : x ∈ ks.take i <;> simp [c]
    have nS : ∀ b ∈ fp, b ≠ S := fun b z q => hS (q ▸ z)
    refine wpAny_pure ⟨plainId_quiet PyProof.Rows.F.plain_set_update_loop _, ih (i + 1) _ (by omega) lt (W.frame _ s1 _ _ st1 (Nat.le_succ _) fun b z o q => (sb.2 b (nS b z)).trans q) so3 fun s3 mv3 so4 => k s3 ?_ so4⟩
    refine Moved.trans W.gtrans ((mv.mono wide).then_heap (Nat.le_succ _) fun b o z q => ?_) mv3
    exact (sb.2 b fun y => z (by rw [y]; exact List.mem_cons_self)).trans q
end
/-- a set as it is made -/
def setN (led : Bool) : Obj := { cls := .type "set", dict := none, data := .set #[] 0 (.fresh 0 0 led) }
section
variable {prog : Program} {w : World} {A : Around} {E : Value → Shared → Prop} {s : Shared} {κ : Type} [DecidableEq κ] [BEq κ] [LawfulBEq κ] {kd : KeyKind prog w κ}
/-- what is known behind set(xs) -/
def Made (kd : KeyKind prog w κ) (s : Shared) (ks : List κ) (h' : Heap) : Prop := h'.SetOf kd s.heap.objs.size (fun k => decide (k ∈ ks)) (unl ks ks.length) ∧ ∀ b o, b < s.heap.objs.size → s.heap.get? b = some o → h'.get? b = some o
theorem init_set {l : Addr} {its : Array Value} {ks : List κ} {led : Bool} (hh : A.handled = none) (hl : s.heap.IsList l its) (hn : ks.length = its.size) (hb : its.size + 1 < scanBound) (hv : ∀ (i : Nat) v, its[i]? = some v → ∃ k, ks[i]? = some k ∧ kd.is k v = true ∧ v.scannable = true) :
    codeAny (model prog w) A (.call (.builtin "set.__init__") ⟨[.ref s.heap.objs.size, .ref l], []⟩) (wants (fun r s2 => r = .none ∧ ∃ h' tk, s2 = { s with heap := h', toks := tk } ∧ Made kd s ks h') E) { s with heap := s.heap.push (setN led) } := by
  have g0 : (s.heap.push (setN led)).get? s.heap.objs.size = some (setN led) := Heap.get?_push_size _ rfl
  have ty : Shared.TypeIs { s with heap := s.heap.push (setN led) } (.ref s.heap.objs.size) "set" := ⟨_, g0, rfl⟩
  refine PySem.codeAny_call_builtin PySem.F.called_set.init.plain PySem.F.entry_set_init (check_set_init_1 ty ?_)
  obtain ⟨⟨c, dd, data, sl⟩, ho, hc, n, hd⟩ := hl
  simp only at hc hd
  subst hc hd
  have ho1 : (s.heap.push (setN led)).get? l = some ⟨.type "list", dd, .seq its n, sl⟩ := Heap.get?_push_of_some _ ho
  have n1 := PySem.F.sub_list_set
  have n2 := PySem.F.sub_list_frozenset
  have n3 : (Value.type "list" == Value.type "dict") = false := by decide
  have il : (s.heap.push (setN led)).IsList l its := ⟨_, ho1, rfl, n, rfl⟩
  unfold Builtin.«set.__init__»
  unfold noKeywords
  unfold Builtin.Frozenset.updateFrom
  generalize hIt : pyIter = IT
  wp_walk
  subst hIt
  apply wpAny_pyIter_list il
  apply wpAny_bind
  apply wpAny_runValue
  have ll : l < s.heap.objs.size := Heap.lt_size ho
  have sz : (s.heap.push (setN led)).objs.size = s.heap.objs.size + 1 := Heap.size_push ..
  have a1 : l ≠ (s.heap.push (setN led)).objs.size := by rw [sz]; exact Nat.ne_of_lt (Nat.lt_succ_of_lt ll)
  have a2 : s.heap.objs.size ∉ [(s.heap.push (setN led)).objs.size, l] := by
    rw [sz]
    intro z
    rcases List.mem_cons.mp z with q | q
    · exact Nat.ne_of_lt (Nat.lt_succ_self _) q
    · exact Nat.ne_of_gt ll (List.mem_singleton.mp q)
  have h3 : A.in1.in1.handled = none := by simp [hh]
  refine add_all (kd := kd) (ks := ks) (n := its.size) ((Walks.list h3 _ l a1 its).toS) a2 hn hb (fun i v q => hv i v q) its.size 0 _ (by omega) (Nat.zero_le _) ?_ ?_ ?_
  · exact ⟨⟨_, Heap.get?_push_size _ rfl, rfl, rfl⟩, il.push _⟩
  · have g1 : ((s.heap.push (setN led)).push { cls := .type "list_iterator", data := .fields #[.ref l, .int 0 0] }).get? s.heap.objs.size = some (setN led) := Heap.get?_push_of_some _ g0
    exact PyProof.Rows.SetOf_congr ((PyProof.Rows.setObjOf_fresh (knd := kd) led).setOf g1 (by unfold scanBound; omega)) (fun _ => by simp) rfl
  · rintro ⟨h', gg, dr, tk, oo⟩ mv so
    obtain rfl : gg = s.gens := mv.gens
    obtain rfl : dr = s.drawn := mv.drawn
    obtain rfl : oo = s.os := mv.os
    apply wpAny_pure
    show wpAny _ _ (ret .none) _ _ _
    refine wpAny_pure ⟨rfl, h', tk, rfl, by rw [hn]; exact so, fun b o hb' e => mv.heap b o ?_ (Heap.get?_push_of_some _ (Heap.get?_push_of_some _ e))⟩
    rw [sz]
    intro z
    rcases List.mem_cons.mp z with q | q
    · exact absurd q (Nat.ne_of_lt hb')
    · exact absurd (List.mem_singleton.mp q) (Nat.ne_of_lt (Nat.lt_succ_of_lt hb'))
/-- set(xs), xs a list -/
theorem call_set {l : Addr} {its : Array Value} {ks : List κ} {Q : Value → Shared → Prop} (hh : A.handled = none) (hl : s.heap.IsList l its) (hn : ks.length = its.size) (hb : its.size + 1 < scanBound) (hv : ∀ (i : Nat) v, its[i]? = some v → ∃ k, ks[i]? = some k ∧ kd.is k v = true ∧ v.scannable = true)
    (h : ∀ h' tk, Made kd s ks h' → Q (.ref s.heap.objs.size) { s with heap := h', toks := tk }) : wpAny (model prog w) A (call (.type "set") [.ref l]) Q E s := by
  have m0 := PySem.F.called_set.mro
  obtain ⟨c, tl, hmro⟩ := m0
  have m1 := PySem.F.called_set.made
  have m2 := PySem.F.called_set.sub
  have m3 := PySem.F.called_set.notType
  have m4 := PySem.F.called_set.canCreate
  have m5 := PySem.F.typeCall_set_1 (.ref l)
  apply wpAny_call
  apply codeAny_of_tree
  show wpAny _ (Around.in1 A) (callAny (.type "set") ⟨[.ref l], []⟩) _ _ s
  apply wpAny_pure
  refine ⟨Code.quiet_builtin _ (by decide +kernel), ?_⟩
  apply codeAny_builtin PySem.F.entry_type_call
  have wgt := weight_type_call_type "set" [.ref l] []
  rw [Around.under_plain wgt rfl]
  repeat any_goals (first | wp_step | assumption)
  have new := code_set_new_1 (prog := prog) (w := w) (A := A.in1) (E := E) (s := s) (.ref l) (Q₁ := fun o s1 => ∃ led, o = .ref s.heap.objs.size ∧ s1 = { s with heap := s.heap.push (setN led) }) fun led => ⟨led, rfl, rfl⟩
  refine codeAny_mono new fun r s1 hr => ?_
  cases r with
  | error e => exact hr
  | ok fl =>
    cases fl with
    | ret v =>
      obtain ⟨led, rfl, rfl⟩ := hr
      have g0 : (s.heap.push (setN led)).get? s.heap.objs.size = some (setN led) := Heap.get?_push_size _ rfl
      have ty : Shared.TypeIs { s with heap := s.heap.push (setN led) } (.ref s.heap.objs.size) "set" := ⟨_, g0, rfl⟩
      have k1 := PySem.F.called_set.init.lookup
      have k2 := PySem.F.called_set.init.bind (.ref s.heap.objs.size)
      repeat any_goals (first | wp_step | assumption)
      refine codeAny_mono (init_set (kd := kd) (A := A.in1) (E := E) (led := led) (by simp [hh]) hl hn hb hv) fun r2 s2 hr2 => ?_
      cases r2 with
      | error e => exact hr2
      | ok fl2 =>
        cases fl2 with
        | ret v2 =>
          obtain ⟨rfl, h', tk, rfl, m⟩ := hr2
          repeat any_goals (first | wp_step | assumption)
          exact h h' tk m
        | _ => exact hr2.elim
    | _ => exact hr.elim
end
section
variable {X : Cx}
theorem strs_its : ∀ {xs : List Str} {its : List Value}, Vals (xs.map V.str) its → ∀ (i : Nat) v, its[i]? = some v → ∃ k, xs[i]? = some k ∧ (PySem.strKind X.prog X.w).is k v = true ∧ v.scannable = true
  | [], _, .nil, i, v, h => by simp at h
  | x :: xs, _, .cons r t, 0, v, h => by
    obtain ⟨tk, rfl⟩ := r
    cases h
    exact ⟨x, rfl, PySem.strKind_is _ _ _ _, rfl⟩
  | x :: xs, _, .cons r t, i + 1, v, h => by
    obtain ⟨k, h1, h2⟩ := strs_its t i v (by simpa using h)
    exact ⟨k, by simpa using h1, h2⟩
/-- len(set(texts)) -/
def tLenS (K : PySem.W.Frag) (ta : TE) : TE := fun σ H Q => ta σ H fun x H1 => ∃ (l : Addr) (xs : List Str), x = .ref l ∧ SqL K H1 l (xs.map V.str) ∧ xs.length ≤ 4000 ∧ Q (.int (unl xs xs.length : Nat)) H1
theorem pe_lenS {a : Expr} {ta : TE} {p p2 q pos : Pos} (hc : X.calm = true) (hg : Gl X "len") (hm : X.mg "len" = none) (hg2 : Gl X "set") (hm2 : X.mg "set" = none) (ha : PE X a ta)
    (na : starEach [a] X.env = (false, eval a X.env) :: starEach [] X.env) : PE X (.Call (.Name "len" p) [.Call (.Name "set" p2) [a] [] q] [] pos) (tLenS X.K ta) := by
  constructor
  intro pins s σ H Q I h
  refine PyProof.Rows.Call_ (?_)
  apply ld_blt I hg hm PySem.boot_len
  apply PyProof.Rows.callWith_builtin1 (h := PyProof.Rows.args_cons ?_ rfl) rfl rfl
  refine PyProof.Rows.Call_ (?_)
  apply ld_blt I hg2 hm2 PyProof.Rows.boot_set
  refine PyProof.Rows.callWith_type1 (PyProof.Rows.args_cons (thn (ha.run pins s σ H _ I h) fun v s1 z => PyProof.Rows.args_nil ?_) na) na rfl
  obtain ⟨x, H1, J, rx, l, xs, rfl, hq, hl, k⟩ := z
  cases rx
  obtain ⟨its, r, pl, hz⟩ := J.list hq
  have len : its.toArray.size = xs.length := by rw [List.size_toArray, ← r.length, List.length_map]
  have its_ := strs_its (X := X) r
  refine call_set (kd := PySem.strKind X.prog X.w) (ks := xs) (J.ok.hd hc) pl.isList len.symm (by unfold scanBound; omega) (fun i v e => its_ i v (by simpa using e)) fun h' tk m => PyProof.Rows.args_nil ?_
  obtain ⟨⟨o, es, ep, t, ho, ex, hd, _, _, _, hf, hn⟩, old⟩ := m
  have le := unl_le xs xs.length
  have J2 : Inv X pins σ H1 { s1 with heap := h', toks := tk } := J.kept fun b o e => old b o (Heap.lt_size e) e
  exact call_len_set ho ex hd hf (by omega) ⟨.int (unl xs xs.length : Nat), H1, J2.tok _, ⟨_, by rw [hn]⟩, k⟩
end
end Sn
end
section
set_option Elab.async false
set_option linter.all false
set_option autoImplicit false
set_option maxRecDepth 100000
set_option maxHeartbeats 4000000
/-! zip of a tuple and a list. -/
namespace Sn
open PySem L2
/-- what walks in step: the tuple at a, the list at b -/
def ItzM (K : PySem.W.Frag) (a b : Addr) : It where
  go := fun i H => ∃ (xs ys : List V) (x y : V), (SqT K H a xs ∧ xs[i]? = some x) ∧ SqL K H b ys ∧ ys[i]? = some y
  yld := fun i H v H' => ∃ T x y, v = .ref T ∧ H T = none ∧ H' = upd H T (.tup [x, y]) ∧ (∀ zs, SqT K H a zs → zs[i]? = some x) ∧ ∀ zs, SqL K H b zs → zs[i]? = some y
  stop := fun i H => ∃ xs ys : List V, (SqT K H a xs ∧ i ≤ xs.length) ∧ (SqL K H b ys ∧ i ≤ ys.length) ∧ (i = xs.length ∨ i = ys.length)
theorem sepM {z TI TO i1 i2 a b : Addr} (D : ZipApart z TI TO i1 i2 a b) : ZipSep2 z TI TO i1 i2 [i1, a] [i2, b] where
  TIz := D.TIz
  TOz := D.TOz
  TITO := D.TITO
  TIi1 := D.TIi1
  mem1 := List.mem_cons_self
  zf1 := by simp; exact ⟨fun e => D.i1z e.symm, fun e => D.l1z e.symm⟩
  Tf1 := by simp; exact ⟨D.TOi1, fun e => D.l1TO e.symm⟩
  TIi2 := D.TIi2
  mem2 := List.mem_cons_self
  zf2 := by simp; exact ⟨fun e => D.i2z e.symm, fun e => D.l2z e.symm⟩
  Tf2 := by simp; exact ⟨D.TOi2, fun e => D.l2TO e.symm⟩
  sep1_2 := by simp; exact ⟨D.i12, fun e => D.l2i1 e.symm⟩
  sep2_1 := by simp; exact ⟨fun e => D.i12 e.symm, fun e => D.l1i2 e.symm⟩
theorem five {p : Addr → Prop} {c z TI TO i1 i2 : Addr} (h : c ∈ [z, TI, TO, i1, i2]) (h1 : p z) (h2 : p TI) (h3 : p TO) (h4 : p i1) (h5 : p i2) : p c := by
  simp only [List.mem_cons, List.not_mem_nil, or_false] at h
  rcases h with rfl | rfl | rfl | rfl | rfl <;> assumption
theorem not_five {c z TI TO i1 i2 : Addr} (h : c ∉ [z, TI, TO, i1, i2]) : c ≠ z ∧ c ≠ TO ∧ c ≠ i1 ∧ c ≠ i2 := by
  simp only [List.mem_cons, List.not_mem_nil, or_false, not_or] at h
  exact ⟨h.1, h.2.2.1, h.2.2.2.1, h.2.2.2.2⟩
/-- where it stands -/
def AtM (a b z TI TO i1 i2 : Addr) (i : Nat) (h : Heap) : Prop := IsZip h z TI TO .none ∧ IsTupOf2 h TI (.ref i1) (.ref i2) ∧ (∃ x y, IsTupOf2 h TO x y) ∧ h.IsTupleIter i1 a i ∧ h.IsListIter i2 b i
theorem AtM.lt {a b z TI TO i1 i2 : Addr} {i : Nat} {h : Heap} (st : AtM a b z TI TO i1 i2 i h) {c : Addr} (hc : c ∈ [z, TI, TO, i1, i2]) : ∃ o, h.get? c = some o ∧ ∀ v, o.data ≠ .cell v := by
  obtain ⟨hz, h1, ⟨x, y, h2⟩, ⟨o1, e1, _, d1⟩, ⟨o2, e2, _, d2⟩⟩ := st
  exact five (p := fun c => ∃ o, h.get? c = some o ∧ ∀ v, o.data ≠ .cell v) hc ⟨_, hz, fun v q => nomatch q⟩ ⟨_, h1, fun v q => nomatch q⟩ ⟨_, h2, fun v q => nomatch q⟩ ⟨o1, e1, fun v q => by rw [d1] at q; cases q⟩ ⟨o2, e2, fun v q => by rw [d2] at q; cases q⟩
theorem turn_zipM {P : Program} {w : World} {K : PySem.W.Frag} {elts : List Expr} {kk : Nat} {tpos : Pos} {a b z TI TO i1 i2 : Addr} (D : ZipApart z TI TO i1 i2 a b) :
    Turn P w K (.Tuple elts kk tpos) (ItzM K a b) [z, TI, TO, i1, i2] z (AtM a b z TI TO i1 i2) where
  mem := List.mem_cons_self
  obj := fun i h st c hc => st.lt hc
  keep := fun i h h' ⟨hz, h1, ⟨x, y, h2⟩, h3, h4⟩ k => ⟨k _ (by simp) _ hz, k _ (by simp) _ h1, ⟨x, y, k _ (by simp) _ h2⟩, h3.at fun o q => k _ (by simp) o q, h4.at fun o q => k _ (by simp) o q⟩
  item := by
    rintro X rfl rfl rfl hc i pins s σ H E I hf st ⟨xs, ys, x, y, ⟨qx, hx⟩, qy, hy⟩
    have lt := fun c (h : c ∈ [z, TI, TO, i1, i2]) => st.lt h
    obtain ⟨hz, h1, ⟨x0, y0, h2⟩, h3, h4⟩ := st
    obtain ⟨us, ru, pu, _⟩ := I.tuple qx
    obtain ⟨ws, rw_, pw, _⟩ := I.list qy
    obtain ⟨u, hu, su⟩ := ru.get hx
    obtain ⟨v, hv, sv⟩ := rw_.get hy
    have hd : X.A.in1.handled = none := by simpa using I.ok.hd hc
    have lu : i < us.toArray.size := by simpa using (List.getElem?_eq_some_iff.mp hu).1
    have lv : i < ws.toArray.size := by simpa using (List.getElem?_eq_some_iff.mp hv).1
    refine PySem.wpAny_pyNext_zipD2_item (sepM D) (Draws.tuple hd i1 a D.l1i1 us.toArray) (Draws.list hd i2 b D.l2i2 ws.toArray) hz h1 h2 ⟨h3, pu⟩ ⟨h4, pw.isList⟩ lu lv fun x1 x2 h' tk e1 e2 hz' h2' st1 st2 hT hsz hk => ?_
    have e1 : x1 = u := by
      have e3 : us[i]? = some x1 := by simpa using e1
      rw [hu] at e3
      exact (Option.some.inj e3).symm
    have e2 : x2 = v := by
      have e3 : ws[i]? = some x2 := by simpa using e2
      rw [hv] at e3
      exact (Option.some.inj e3).symm
    subst e1
    subst e2
    have lz : z < s.heap.objs.size := Heap.lt_size hz
    refine ⟨_, rfl, wpAny_letOwnedTupleGo_zip (s := { s with heap := h', toks := tk }) hz' fun g gz sb => ?_⟩
    have keep : ∀ c o, c ∉ [z, TI, TO, i1, i2] → s.heap.get? c = some o → g.get? c = some o := fun c o h q => by
      obtain ⟨n1, n2, n3, n4⟩ := not_five h
      exact (sb.2 c n1).trans (hk c o n1 n2 n3 n4 q)
    have gT : g.get? s.heap.objs.size = some { cls := .type "tuple", data := .seq #[x1, x2] } := (sb.2 _ (Nat.ne_of_gt lz)).trans hT
    have new : ObjOk X.prog X.w (upd H s.heap.objs.size (.tup [x, y])) g s.heap.objs.size (.tup [x, y]) := ⟨by show 2 ≤ sizeLine; decide, [x1, x2], .cons su (.cons sv .nil), ⟨_, gT, rfl, _, rfl⟩⟩
    have J : Inv X pins σ (upd H s.heap.objs.size (.tup [x, y])) { s with heap := g, toks := tk } := I.turnedNew (ch := [z, TI, TO, i1, i2]) keep hf (Nat.le_refl _) new
    refine ⟨.ref s.heap.objs.size, _, J, rfl, ⟨_, x, y, rfl, I.hok.fresh (Nat.le_refl _), rfl, fun l hl => ?_, fun l hl => ?_⟩, ⟨gz, ?_, ⟨x1, x2, ?_⟩, ?_, ?_⟩, fun c hcm => ?_⟩
    · obtain ⟨us2, ru2, pu2, _⟩ := I.tuple hl
      rw [I.tuple_inj hl qx]
      exact hx
    · rw [I.list_inj hl qy]
      exact hy
    · exact (sb.2 _ D.TIz).trans (hk _ _ D.TIz D.TITO D.TIi1 D.TIi2 h1)
    · exact (sb.2 _ D.TOz).trans h2'
    · exact st1.1.at fun o q => (sb.2 _ D.i1z).trans q
    · exact st2.1.at fun o q => (sb.2 _ D.i2z).trans q
    · obtain ⟨o, ho, _⟩ := lt c hcm
      have ne := Nat.ne_of_lt (Heap.lt_size ho)
      rw [upd_ne ne]
      exact (hf c hcm).1
  done := by
    rintro X rfl rfl rfl hc i pins s σ H E I hf ⟨hz, h1, ⟨x0, y0, h2⟩, h3, h4⟩ ⟨xs, ys, ⟨qx, lx⟩, ⟨qy, ly⟩, hend⟩
    obtain ⟨us, ru, pu, _⟩ := I.tuple qx
    obtain ⟨ws, rw_, pw, _⟩ := I.list qy
    have l1 := ru.length
    have l2 := rw_.length
    have hd : X.A.in1.handled = none := by simpa using I.ok.hd hc
    refine PySem.wpAny_pyNext_zipD2_end (sepM D) (Draws.tuple hd i1 a D.l1i1 us.toArray) (Draws.list hd i2 b D.l2i2 ws.toArray) hz h1 h2 ⟨h3, pu⟩ ⟨h4, pw.isList⟩ (by simp; omega) (by simp; omega) (by simp; omega) fun h' tk hk => ⟨rfl, ?_⟩
    exact I.turnedL (ch := [z, TI, TO, i1, i2]) (fun c o h q => by obtain ⟨n1, n2, n3, n4⟩ := not_five h; exact hk c o n1 n2 n3 n4 q) hf
  self := fun _ _ _ _ _ st q => wpAny_pyIter_zip (And.left st) q
def iZipM (K : PySem.W.Frag) (ta : TA) : TI := fun σ H R => ta σ H fun vs H1 => ∃ a b xs ys, vs = [.ref a, .ref b] ∧ (SqT K H1 a xs ∧ SqL K H1 b ys) ∧ R (ItzM K a b) H1
theorem pi_zipM {X : Cx} {e e2 : Expr} {ta : TA} {p pos tpos : Pos} {elts : List Expr} {kk : Nat} (hg : Gl X "zip") (hm : X.mg "zip" = none) (ha : PA X [e, e2] ta) (hs : starEach [e, e2] X.env = (false, eval e X.env) :: starEach [e2] X.env)
    (hp : (backTo pos (starEach [e2] X.env)).any (·.1) = false) : PI X (.Tuple elts kk tpos) (.Call (.Name "zip" p) [e, e2] [] pos) (iZipM X.K ta) := by
  constructor
  intro pins s σ H R I h
  refine PyProof.Rows.Call_ (ld_blt I hg hm PyProof.Rows.boot_zip (PyProof.Rows.callWith_type1 (thn (ha.run pos pins s σ H _ I h) fun us s1 z => ?_) hs hp))
  obtain ⟨vs, H1, J, r1, a, b, xs, ys, rfl, ⟨qx, qy⟩, k⟩ := z
  obtain ⟨c, d, rfl, r2, r3⟩ : ∃ c d, us = [c, d] ∧ RelV (.ref a) c ∧ RelV (.ref b) d := by
    match us, r1 with
    | [_, _], .cons r (.cons r' .nil) => exact ⟨_, _, rfl, r, r'⟩
  cases r2
  cases r3
  obtain ⟨ts, rt, pt, _⟩ := J.tuple qx
  obtain ⟨ls, rl, pl, _⟩ := J.list qy
  have la : a < s1.heap.objs.size := by
    obtain ⟨o, ho, _⟩ := id pt
    exact Heap.lt_size ho
  refine PySem.zip_begins2 (begins_tuple a ts.toArray) (begins_list b ls.toArray) pt pl.isList fun h' hz hTI hTO h1 h2 hsz hk => wpAny_pyIter_zip hz ?_
  have J2 : Inv X pins σ H1 { s1 with heap := h' } := J.kept (t' := s1.toks) hk
  have i1 : h'.IsTupleIter s1.heap.objs.size a 0 := ⟨_, h1, rfl, rfl⟩
  have i2 : h'.IsListIter (s1.heap.objs.size + 1) b 0 := ⟨_, h2, rfl, rfl⟩
  refine ⟨s1.heap.objs.size + 4, [s1.heap.objs.size + 4, s1.heap.objs.size + 2, s1.heap.objs.size + 3, s1.heap.objs.size, s1.heap.objs.size + 1], _, _, H1, rfl, J2, turn_zipM (PySem.W.ktu_apart s1.heap.objs.size a b la pl.lt), ⟨hz, hTI, ⟨_, _, hTO⟩, i1, i2⟩, fun c hc => ?_, k⟩
  have hle : s1.heap.objs.size ≤ c := five (p := fun c => s1.heap.objs.size ≤ c) hc (Nat.le_add_right _ _) (Nat.le_add_right _ _) (Nat.le_add_right _ _) (Nat.le_refl _) (Nat.le_add_right _ _)
  exact J.fpOk hle (J.hok.fresh hle)
end Sn
end
section
set_option Elab.async false
set_option linter.all false
set_option autoImplicit false
set_option maxRecDepth 100000
set_option maxHeartbeats 4000000
/-! Built-in functions. -/
namespace Sn
open PySem L2
open Ab (Val SO Sto Exc R Txt toD toDs BI)
variable {B : Bs} {X : Cx}
/-! ### what they ask, by values -/
abbrev RCall := List V → Hp → VK → Prop
def rLen (K : PySem.W.Frag) : RCall := fun xs H Q => (∃ x n, xs = [x] ∧ LenV K x H n ∧ Q (.int n) H) ∨ ∃ p kvs, xs = [V.ref p] ∧ H p = some (.dK kvs) ∧ Q (.int kvs.length) H
theorem call_lens : CallR X (.builtin "len") (rLen X.K) := by
  rintro pins s σ H xs us Q I r (h | ⟨p, kvs, e, hp, q⟩)
  · exact call_len pins s σ H xs us Q I r h
  · subst e
    rw [Vals.ref1 r]
    exact d_len I (Rd.of hp) fun t s' J => ⟨.int kvs.length, H, J, ⟨t, rfl⟩, q⟩
def rLst (K : PySem.W.Frag) : RCall := fun xs H Q => ∃ p ys, xs = [.ref p] ∧ (SqL K H p ys ∨ SqT K H p ys) ∧ ∀ l, H l = none → Q (.ref l) (upd H l (.lst ys))
def rTpl (K : PySem.W.Frag) : RCall := fun xs H Q => ∃ p ys, xs = [.ref p] ∧ ((SqL K H p ys ∧ ∀ l, H l = none → Q (.ref l) (upd H l (.tup ys))) ∨ (SqT K H p ys ∧ Q (.ref p) H))
/-- sorted(xs): the values in the order of their data -/
def rSrt (K : PySem.W.Frag) : RCall := fun xs H Q => ∃ p ys ds, xs = [.ref p] ∧ SqL K H p ys ∧ DpAll K H ys ds ∧ PySem.W.AllAlike ds ∧ PySem.W.Sortable ds ∧ ds.length ≤ sizeLine ∧ (∀ d ∈ ds, d.depth ≤ 16) ∧
  ∀ l, H l = none → Q (.ref l) (upd H l (.lst (((ys.zip ds).mergeSort (PySem.W.dataLe false Prod.snd)).map Prod.fst)))
theorem DpAll.each {H : Hp} {pins : List (Addr × Obj)} {σ : L2.St} {s : Shared} (I : Inv X pins σ H s) : ∀ {ys : List V} {ds : List PyData} {its : List Value}, DpAll X.K H ys ds → Vals ys its →
    PySem.W.EachIs (fun v (b : V × PyData) => RelV b.1 v ∧ ∃ as, PySem.Reads s.heap v b.2 as) its (ys.zip ds)
  | [], [], _, .nil, .nil => .nil
  | y :: ys, d :: ds, _, .cons h t, .cons r rs => .cons ⟨r, Dp.reads I d y _ h r⟩ (DpAll.each I t rs)
theorem dp_len {K : PySem.W.Frag} {H : Hp} : ∀ {ys : List V} {ds : List PyData}, DpAll K H ys ds → ys.length = ds.length
  | _, _, .nil => rfl
  | _, _, .cons _ t => by simp [dp_len t]
theorem vals_each {ws : List Value} : ∀ {bs : List (V × PyData)} {P : Value → V × PyData → Prop}, PySem.W.EachIs (fun v b => RelV b.1 v ∧ P v b) ws bs → Vals (bs.map Prod.fst) ws := by
  intro bs P h
  induction h with
  | nil => exact .nil
  | cons a _ ih => exact .cons a.1 ih
theorem call_srt (hu : X.A.units + 40 < cLine) : CallR X (.builtin "sorted") (rSrt X.K) := by
  rintro pins s σ H xs us Q I r ⟨p, ys, ds, rfl, hp, hd, al, so, hl, dp, q⟩
  rw [Vals.ref1 r]
  obtain ⟨its, rv, pl, _⟩ := I.list hp
  have E := DpAll.each I hd rv
  have len := dp_len hd
  have zs : (ys.zip ds).map Prod.snd = ds := List.map_snd_zip (by omega)
  have zl : (ys.zip ds).length = ds.length := by simp [len]
  refine PySem.W.sorted_data (enc := Prod.snd) pl.isList E (E.mono fun _ _ h => h.2) (by rw [zs]; exact al) (by rw [zs]; exact so) (by rw [zl]; exact hl) (fun b hb => ?_) fun out ol oe => ?_
  · have := dp b.2 (by rw [← zs]; exact List.mem_map_of_mem hb)
    omega
  · obtain ⟨e, he⟩ := PyProof.Rows.sortedAll_at s.heap its out.toArray
    have hv := vals_each oe
    have J : Inv X pins σ _ { s with heap := PyProof.Rows.sortedAll s.heap its out.toArray, toks := s.toks } :=
      I.laid (o := .lst (((ys.zip ds).mergeSort (PySem.W.dataLe false Prod.snd)).map Prod.fst)) (fun _ _ z => PyProof.Rows.sortedAll_old z) (Nat.le_succ _) ⟨by simpa [len] using hl, out, e, hv, he⟩
    exact ⟨.ref (s.heap.objs.size + 1), _, J, rfl, q _ (I.hok.fresh (Nat.le_succ _))⟩
def rInt : RCall := fun xs H Q => (∃ i, xs = [.int i] ∧ Q (.int i) H) ∨ ∃ k, xs = [.bl k] ∧ Q (.int (if k then 1 else 0)) H
def rMx : RCall := fun xs H Q => ∃ i j, xs = [.int i, .int j] ∧ Q (.int (if j > i then j else i)) H
def rMn : RCall := fun xs H Q => ∃ i j, xs = [.int i, .int j] ∧ Q (.int (if j < i then j else i)) H
/-! ### kinds -/
def kindOf : BI → String
  | .isB => "bool"
  | .isI => "int"
  | .isS => "str"
  | .isT => "tuple"
  | _ => "list"
def isIs : BI → Bool
  | .isB => true
  | .isI => true
  | .isS => true
  | .isT => true
  | .isL => true
  | _ => false
/-- the kind of a value -/
def kind (s : Sto) : Val → Option String
  | .non => some "NoneType"
  | .bl _ => some "bool"
  | .int _ => some "int"
  | .str _ => some "str"
  | .tup _ => some "tuple"
  | .lst _ => some "list"
  | .loc l => match s[l]? with
    | some (.list _) => some "list"
    | _ => none
  | _ => none
theorem kinds : (["NoneType", "bool", "int", "str", "tuple", "list"].all fun a => [BI.isB, .isI, .isS, .isT, .isL].all fun b => kitB a (kindOf b) == some (a == kindOf b || (a == "bool" && kindOf b == "int"))) = true := by decide +kernel
theorem kind_ok {φ : List Addr} {F : Hp} {s : Sto} {H : Hp} (rp : Rp B φ F s H) {v : Val} {x : V} {b : BI} {c : Bool} (r : RV B φ F v x) (hb : isIs b = true) (h : Ab.isKind b s v = some c) : ∃ t, TyX B.K H x (.type t) ∧ kitB t (kindOf b) = some c := by
  have K := kinds
  simp only [List.all_cons, List.all_nil, Bool.and_true, Bool.and_eq_true, beq_iff_eq] at K
  obtain ⟨⟨n1, n2, n3, n4, n5⟩, ⟨b1, b2, b3, b4, b5⟩, ⟨i1, i2, i3, i4, i5⟩, ⟨s1, s2, s3, s4, s5⟩, ⟨t1, t2, t3, t4, t5⟩, ⟨l1, l2, l3, l4, l5⟩⟩ := K
  have fin : ∀ t, TyX B.K H x (.type t) → kitB t (kindOf b) = some c → ∃ t, TyX B.K H x (.type t) ∧ kitB t (kindOf b) = some c := fun t a b => ⟨t, a, b⟩
  cases v with
  | non => obtain rfl := r; refine fin _ (.base .non) ?_; cases b <;> simp [isIs] at hb <;> simp [Ab.isKind] at h <;> subst h <;> (first | exact n1 | exact n2 | exact n3 | exact n4 | exact n5)
  | bl k => obtain rfl := r; refine fin _ (.base (.bl k)) ?_; cases b <;> simp [isIs] at hb <;> simp [Ab.isKind] at h <;> subst h <;> (first | exact b1 | exact b2 | exact b3 | exact b4 | exact b5)
  | int k => obtain rfl := r; refine fin _ (.base (.int k)) ?_; cases b <;> simp [isIs] at hb <;> simp [Ab.isKind] at h <;> subst h <;> (first | exact i1 | exact i2 | exact i3 | exact i4 | exact i5)
  | str k => obtain ⟨rfl, _⟩ := r; refine fin _ (.base (.str _)) ?_; cases b <;> simp [isIs] at hb <;> simp [Ab.isKind] at h <;> subst h <;> (first | exact s1 | exact s2 | exact s3 | exact s4 | exact s5)
  | tup vs => obtain ⟨a, xs, rfl, hf, _⟩ := r; refine fin _ (.base (.tup (rp.fz _ _ hf))) ?_; cases b <;> simp [isIs] at hb <;> simp [Ab.isKind] at h <;> subst h <;> (first | exact t1 | exact t2 | exact t3 | exact t4 | exact t5)
  | lst vs => obtain ⟨a, xs, rfl, hf, _⟩ := r; refine fin _ (.base (.lst (rp.fz _ _ hf))) ?_; cases b <;> simp [isIs] at hb <;> simp [Ab.isKind] at h <;> subst h <;> (first | exact l1 | exact l2 | exact l3 | exact l4 | exact l5)
  | loc l =>
    obtain ⟨a, rfl, ha⟩ := r
    cases e : s[l]? with
    | none => simp [Ab.isKind, e] at h
    | some o =>
      cases o with
      | list vs =>
        obtain ⟨ho, e1, xs, rfl, _⟩ := rp.at ha e
        refine fin _ (.base (.lst e1)) ?_
        cases b <;> simp [isIs] at hb <;> simp [Ab.isKind, e] at h <;> subst h <;> (first | exact l1 | exact l2 | exact l3 | exact l4 | exact l5)
      | _ => simp [Ab.isKind, e] at h
  | _ => simp [Ab.isKind] at h
/-! ### bools, ints, texts of a list -/
theorem bools_ok {φ : List Addr} {F : Hp} : ∀ {vs : List Val} {bs : List Bool} {xs : List V}, Ab.boolsOf vs = some bs → RVs B φ F vs xs → xs = bs.map V.bl
  | [], bs, xs, h, r => by
    simp [Ab.boolsOf] at h
    rw [h, show xs = [] from r]
    rfl
  | v :: vs, bs, xs, h, ⟨x, t, e, h1, h2⟩ => by
    cases v with
    | bl b =>
      simp only [Ab.boolsOf, Option.map_eq_some_iff] at h
      obtain ⟨cs, h, rfl⟩ := h
      rw [e, bools_ok h h2, show x = _ from h1]
      rfl
    | _ => simp [Ab.boolsOf] at h
theorem strs_ok {φ : List Addr} {F : Hp} : ∀ {vs : List Val} {ts : List Txt} {xs : List V}, Ab.strsOf vs = some ts → RVs B φ F vs xs → xs = (ts.map str).map V.str ∧ ∀ t ∈ ts, good t
  | [], bs, xs, h, r => by
    simp [Ab.strsOf] at h
    rw [h, show xs = [] from r]
    exact ⟨rfl, fun _ h => nomatch h⟩
  | v :: vs, bs, xs, h, ⟨x, t, e, h1, h2⟩ => by
    cases v with
    | str b =>
      simp only [Ab.strsOf, Option.map_eq_some_iff] at h
      obtain ⟨cs, h, rfl⟩ := h
      obtain ⟨g1, g2⟩ := strs_ok h h2
      rw [e, g1, h1.1]
      exact ⟨rfl, fun u hu => (List.mem_cons.mp hu).elim (fun z => z ▸ h1.2) (g2 u)⟩
    | _ => simp [Ab.strsOf] at h
theorem ints_ok {φ : List Addr} {F : Hp} : ∀ {vs : List Val} {ns : List Int} {xs : List V}, Ab.intsOf vs = some ns → RVs B φ F vs xs → xs = ns.map V.int
  | [], bs, xs, h, r => by
    simp [Ab.intsOf] at h
    rw [h, show xs = [] from r]
    rfl
  | v :: vs, bs, xs, h, ⟨x, t, e, h1, h2⟩ => by
    cases v with
    | int b =>
      simp only [Ab.intsOf, Option.map_eq_some_iff] at h
      obtain ⟨cs, h, rfl⟩ := h
      rw [e, ints_ok h h2, show x = _ from h1]
      rfl
    | _ => simp [Ab.intsOf] at h
/-! ### sorted -/
theorem shape_is {v : Val} {n : Nat} (h : Ab.shape v = n) (hn : n ≠ 0) : (n = 1 ∧ ∃ i, v = .int i) ∨ (n = 2 ∧ ∃ x, v = .str x) ∨ (n = 3 ∧ ∃ x y, v = .tup [.str x, .str y]) ∨ (n = 4 ∧ ∃ x y z, v = .tup [.str x, .str y, .str z]) := by
  unfold Ab.shape at h
  split at h
  · exact .inl ⟨h.symm, _, rfl⟩
  · exact .inr (.inl ⟨h.symm, _, rfl⟩)
  · exact .inr (.inr (.inl ⟨h.symm, _, _, rfl⟩))
  · exact .inr (.inr (.inr ⟨h.symm, _, _, _, rfl⟩))
  · exact absurd h.symm hn
theorem plain_of {vs : List Val} (h : Ab.sortable vs = true) : ∃ n, ∀ v ∈ vs, Ab.shape v = n ∧ n ≠ 0 := by
  cases vs with
  | nil => exact ⟨0, fun _ h => nomatch h⟩
  | cons v r =>
    simp only [Ab.sortable, Bool.and_eq_true, bne_iff_ne, List.all_eq_true, beq_iff_eq] at h
    refine ⟨Ab.shape v, fun w hw => ⟨?_, h.1⟩⟩
    rcases List.mem_cons.mp hw with z | z
    · rw [z]
    · exact h.2 w z
theorem plain_dp {φ : List Addr} {F : Hp} {s : Sto} {H : Hp} (rp : Rp B φ F s H) {v : Val} {x : V} (r : RV B φ F v x) (h : Ab.shape v ≠ 0) : Dp B.K H x (toD v) ∧ (toD v).depth ≤ 16 := by
  have e : Ab.res s Ab.DEEP v = some v := by
    rcases shape_is rfl h with ⟨_, i, rfl⟩ | ⟨_, t, rfl⟩ | ⟨_, t, u, rfl⟩ | ⟨_, t, u, w, rfl⟩ <;> rfl
  have D := res_dat rp _ _ _ _ e r
  exact ⟨D.d, Nat.le_trans D.h (by decide)⟩
theorem plain_dps {φ : List Addr} {F : Hp} {s : Sto} {H : Hp} (rp : Rp B φ F s H) : ∀ {vs : List Val} {xs : List V}, RVs B φ F vs xs → (∀ v ∈ vs, Ab.shape v ≠ 0) → DpAll B.K H xs (toDs vs) ∧ ∀ d ∈ toDs vs, d.depth ≤ 16
  | [], xs, r, _ => by rw [show xs = [] from r]; exact ⟨.nil, fun _ h => nomatch h⟩
  | v :: vs, xs, ⟨x, t, e, h1, h2⟩, h => by
    obtain ⟨g1, g2⟩ := plain_dp rp h1 (h v (List.mem_cons_self))
    obtain ⟨k1, k2⟩ := plain_dps rp h2 fun w hw => h w (List.mem_cons_of_mem _ hw)
    rw [e]
    exact ⟨.cons g1 k1, fun d hd => (List.mem_cons.mp (show d ∈ toD v :: toDs vs from hd)).elim (fun z => z ▸ g2) (k2 d)⟩
theorem toDs_map : ∀ vs : List Val, toDs vs = vs.map toD
  | [] => rfl
  | v :: vs => by simp [toDs, toDs_map vs]
theorem sortable_ok {vs : List Val} (h : Ab.sortable vs = true) : PySem.W.AllAlike (toDs vs) ∧ PySem.W.Sortable (toDs vs) := by
  obtain ⟨n, hn⟩ := plain_of h
  rw [toDs_map]
  constructor
  · intro d hd d' hd'
    obtain ⟨v, hv, rfl⟩ := List.mem_map.mp hd
    obtain ⟨w, hw, rfl⟩ := List.mem_map.mp hd'
    obtain ⟨a, z⟩ := hn v hv
    obtain ⟨b, _⟩ := hn w hw
    rcases shape_is a z with ⟨e, i, rfl⟩ | ⟨e, t, rfl⟩ | ⟨e, t, u, rfl⟩ | ⟨e, t, u, k, rfl⟩ <;> rcases shape_is b z with ⟨e', i', rfl⟩ | ⟨e', t', rfl⟩ | ⟨e', t', u', rfl⟩ | ⟨e', t', u', k', rfl⟩ <;> first | omega | rfl
  · cases vs with
    | nil => exact .inr fun d hd => nomatch hd
    | cons v0 r0 =>
      obtain ⟨a, z⟩ := hn v0 List.mem_cons_self
      by_cases c : n ≤ 2
      · refine .inr fun d hd => ?_
        obtain ⟨v, hv, rfl⟩ := List.mem_map.mp hd
        rcases shape_is (hn v hv).1 z with ⟨e, i, rfl⟩ | ⟨e, t, rfl⟩ | ⟨e, t, u, rfl⟩ | ⟨e, t, u, k, rfl⟩ <;> first | omega | simp [toD]
      · refine .inl fun d hd => ?_
        obtain ⟨v, hv, rfl⟩ := List.mem_map.mp hd
        rcases shape_is (hn v hv).1 z with ⟨e, i, rfl⟩ | ⟨e, t, rfl⟩ | ⟨e, t, u, rfl⟩ | ⟨e, t, u, k, rfl⟩ <;> first | omega | exact ⟨_, _, rfl⟩
theorem RVs.mem {φ : List Addr} {F : Hp} : ∀ {vs : List Val} {xs : List V}, RVs B φ F vs xs → ∀ p ∈ vs.zip xs, RV B φ F p.1 p.2
  | [], xs, r, p, hp => by simp at hp
  | v :: vs, xs, ⟨x, t, e, h1, h2⟩, p, hp => by
    subst e
    rcases List.mem_cons.mp (show p ∈ (v, x) :: vs.zip t from hp) with z | z
    · subst z
      exact h1
    · exact RVs.mem h2 p z
theorem RVs.pairs {φ : List Addr} {F : Hp} : ∀ {zs : List (Val × V)}, (∀ p ∈ zs, RV B φ F p.1 p.2) → RVs B φ F (zs.map Prod.fst) (zs.map Prod.snd)
  | [], _ => rfl
  | p :: r, h => ⟨p.2, r.map Prod.snd, rfl, h p List.mem_cons_self, RVs.pairs fun q hq => h q (List.mem_cons_of_mem _ hq)⟩
/-- the values sorted, beside the items sorted -/
theorem sort_ok {φ : List Addr} {F : Hp} {vs : List Val} {xs : List V} (r : RVs B φ F vs xs) : RVs B φ F (Ab.sortV vs) (((xs.zip (toDs vs)).mergeSort (PySem.W.dataLe false Prod.snd)).map Prod.fst) := by
  have hl := r.length
  let le : Val × V → Val × V → Bool := PySem.W.dataLe false fun p => toD p.1
  have e1 : ((vs.zip xs).mergeSort le).map Prod.fst = Ab.sortV vs := by
    have := PySem.W.sort_maps (r := le) (s := PySem.W.dataLe false toD) Prod.fst (l := vs.zip xs) fun _ _ _ _ => rfl
    rw [this, List.map_fst_zip (by omega)]
    rfl
  have e2 : ((vs.zip xs).mergeSort le).map (fun p => (p.2, toD p.1)) = (xs.zip (toDs vs)).mergeSort (PySem.W.dataLe false Prod.snd) := by
    have := PySem.W.sort_maps (r := le) (s := PySem.W.dataLe false (Prod.snd : V × PyData → PyData)) (fun p => (p.2, toD p.1)) (l := vs.zip xs) fun _ _ _ _ => rfl
    rw [this]
    congr 1
    rw [toDs_map]
    clear this e1
    have : ∀ (vs : List Val) (xs : List V), (vs.zip xs).map (fun p => (p.2, toD p.1)) = xs.zip (vs.map toD) := by
      intro vs
      induction vs with
      | nil => intro xs; simp
      | cons v vs ih =>
        intro xs
        cases xs with
        | nil => simp
        | cons x xs => simp [ih xs]
    exact this vs xs
  have e3 : (((xs.zip (toDs vs)).mergeSort (PySem.W.dataLe false Prod.snd)).map Prod.fst) = ((vs.zip xs).mergeSort le).map Prod.snd := by
    rw [← e2, List.map_map]
    rfl
  rw [e3, ← e1]
  exact RVs.pairs fun p hp => r.mem p ((List.mem_mergeSort).mp hp)
/-! ### biV -/
/-- what each asks -/
def rBi (K : PySem.W.Frag) : BI → RCall
  | .len => rLen K
  | .list => rLst K
  | .tuple => rTpl K
  | .sorted => rSrt K
  | .all => rAll K
  | .any => rAny K
  | .int => rInt
  | .max2 => rMx
  | .min2 => rMn
  | _ => fun _ _ _ => False
/-- what each is -/
def biIs : BI → Value
  | .len => .builtin "len"
  | .list => .type "list"
  | .tuple => .type "tuple"
  | .sorted => .builtin "sorted"
  | .all => .builtin "all"
  | .any => .builtin "any"
  | .int => .type "int"
  | .max2 => .builtin "max"
  | .min2 => .builtin "min"
  | _ => .builtin "len"
theorem call_bi (hc : X.calm = true) (hu : X.A.units + 40 < cLine) (b : BI) : CallR X (biIs b) (rBi X.K b) := by
  cases b with
  | len => exact call_lens
  | list => exact call_list_of
  | tuple => exact call_tuple_of
  | sorted => exact call_srt hu
  | all => exact cr_all hc
  | any => exact cr_any hc
  | int => exact call_int1
  | max2 => exact call_max2 hc
  | min2 => exact call_min2 hc
  | _ => exact fun _ _ _ _ _ _ _ _ _ h => h.elim
theorem bi_ok {φ : List Addr} {F : Hp} {s : Sto} {H : Hp} {W : WX} {σ : L2.St} {Q : VK} {b : BI} {m : Bool} {vs : List Val} {xs : List V} (hb : isIs b = false) (rp : Rp B φ F s H) (r : RVs B φ F vs xs)
    (h : Out B W (RV B) φ F H (Ab.lift (Ab.biV b m vs s)) σ Q) (h1 : b ≠ .maxD) (h2 : b ≠ .lenset) : rBi B.K b xs H Q := by
  have one : ∀ v, vs = [v] → ∃ x, xs = [x] ∧ RV B φ F v x := by
    rintro v rfl
    obtain ⟨x, t, e, g1, g2⟩ := r
    exact ⟨x, by rw [e, show t = [] from g2], g1⟩
  have two : ∀ v w, vs = [v, w] → ∃ x y, xs = [x, y] ∧ RV B φ F v x ∧ RV B φ F w y := by
    rintro v w rfl
    obtain ⟨x, t, e, g1, y, u, e2, g2, g3⟩ := r
    exact ⟨x, y, by rw [e, e2, show u = [] from g3], g1, g2⟩
  cases b with
  | isB => cases hb
  | isI => cases hb
  | isS => cases hb
  | isT => cases hb
  | isL => cases hb
  | maxD => exact absurd rfl h1
  | lenset => exact absurd rfl h2
  | len =>
    match vs, one, h with
    | [], _, h => exact h.elim
    | v :: _ :: _, _, h => cases v <;> exact h.elim
    | [v], one, h =>
      obtain ⟨x, rfl, rv⟩ := one v rfl
      have seq : ∀ ws, Ab.seqOf s v = some ws → Q (.int ws.length) H → rLen B.K [x] H Q := fun ws e q => by
        obtain ⟨p, ys, rfl, hp, hv⟩ := seq_at rp e rv
        rw [hv.length] at q
        rcases hp with hp | ⟨hp, _⟩
        · exact .inl ⟨_, _, rfl, .inl ⟨ys, SqL.of hp, rfl⟩, q⟩
        · exact .inl ⟨_, _, rfl, .inr ⟨ys, SqT.of hp, rfl⟩, q⟩
      cases v with
      | str t =>
        simp only [Ab.biV] at h
        split at h
        · rename_i hl
          rw [show x = _ from rv.1]
          exact .inl ⟨_, t.length, rfl, ⟨by rw [str_len]; exact line_of hl, (str_len t).symm⟩, Out.now h rp rfl⟩
        · exact h.elim
      | scr ns =>
        obtain ⟨a, rfl, ha⟩ := rv
        exact .inl ⟨_, ns.length, rfl, .inl ⟨_, rp.same.seq ha, by simp⟩, Out.now h rp rfl⟩
      | tup ws => exact seq ws rfl (Out.now h rp rfl)
      | lst ws => exact seq ws rfl (Out.now h rp rfl)
      | loc l =>
        cases e : s[l]? with
        | none => simp only [Ab.biV, e] at h; exact h.elim
        | some o =>
          cases o with
          | list ws =>
            simp only [Ab.biV, e] at h
            exact seq ws (by simp [Ab.seqOf, Ab.lstOf, e]) (Out.now h rp rfl)
          | dS kvs =>
            simp only [Ab.biV, e] at h
            obtain ⟨a, rfl, ha⟩ := rv
            obtain ⟨ho, e1, ks, rfl, hk⟩ := rp.at ha e
            have q : Q (.int kvs.length) H := Out.now h rp rfl
            rw [RKs.len hk] at q
            exact .inr ⟨a, ks, rfl, e1, q⟩
          | _ => simp only [Ab.biV, e] at h; exact h.elim
      | _ => exact h.elim
  | list =>
    match vs, one, h with
    | [], _, h => exact h.elim
    | v :: _ :: _, _, h => cases v <;> exact h.elim
    | [v], one, h =>
      obtain ⟨x, rfl, rv⟩ := one v rfl
      by_cases c : ∃ ns, v = .scr ns
      · obtain ⟨ns, rfl⟩ := c
        obtain ⟨a, rfl, ha⟩ := rv
        have hv : ∀ ns : List Int, RVs B φ F (ns.map .int) (ns.map V.int) := by
          intro ns
          induction ns with
          | nil => rfl
          | cons n ns ih => exact ⟨_, _, rfl, rfl, ih⟩
        exact ⟨a, _, rfl, .inl (rp.same.seq ha), fun l hl => new_lst rp h (hv ns) hl⟩
      · have h' : Out B W (RV B) φ F H (Ab.lift ((Ab.seqOf s v).map fun vs => Ab.alloc m vs s)) σ Q := by
          cases v <;> first | exact h | exact absurd ⟨_, rfl⟩ c
        cases e : Ab.seqOf s v with
        | none => rw [e] at h'; exact h'.elim
        | some ws =>
          rw [e] at h'
          obtain ⟨p, ys, rfl, hp, hv⟩ := seq_at rp e rv
          exact ⟨p, ys, rfl, hp.imp SqL.of fun z => SqT.of z.1, fun l hl => new_lst rp h' hv hl⟩
  | tuple =>
    match vs, one, h with
    | [], _, h => exact h.elim
    | v :: _ :: _, _, h => cases v <;> exact h.elim
    | [v], one, h =>
      obtain ⟨x, rfl, rv⟩ := one v rfl
      cases e : Ab.seqOf s v with
      | none => simp only [Ab.biV, e] at h; exact h.elim
      | some ws =>
        simp only [Ab.biV, e] at h
        obtain ⟨p, ys, rfl, hp, hv⟩ := seq_at rp e rv
        rcases hp with hp | ⟨hp, rfl⟩
        · exact ⟨p, ys, rfl, .inl ⟨SqL.of hp, fun l hl => new_tup rp h hv hl⟩⟩
        · exact ⟨p, ys, rfl, .inr ⟨SqT.of hp, Out.now h rp rv⟩⟩
  | sorted =>
    match vs, one, h with
    | [], _, h => exact h.elim
    | v :: _ :: _, _, h => cases v <;> exact h.elim
    | [v], one, h =>
      obtain ⟨x, rfl, rv⟩ := one v rfl
      cases e : Ab.lstOf s v with
      | none => simp only [Ab.biV, e] at h; exact h.elim
      | some ws =>
        simp only [Ab.biV, e, Option.bind_some] at h
        split at h
        · rename_i c
          obtain ⟨p, ys, rfl, hp, hv⟩ := lst_at rp e rv
          obtain ⟨n, hn⟩ := plain_of c.1
          obtain ⟨d1, d2⟩ := plain_dps rp hv fun v hv => by obtain ⟨a, b⟩ := hn v hv; rw [a]; exact b
          obtain ⟨al, so⟩ := sortable_ok c.1
          exact ⟨p, ys, toDs ws, rfl, SqL.of hp, d1, al, so, by rw [toDs_map, List.length_map]; exact line_of (Nat.le_trans (Nat.le_of_lt c.2) (by decide)), d2, fun l hl => new_lst rp h (sort_ok hv) hl⟩
        · exact h.elim
  | all =>
    match vs, one, h with
    | [], _, h => exact h.elim
    | v :: _ :: _, _, h => cases v <;> exact h.elim
    | [v], one, h =>
      obtain ⟨x, rfl, rv⟩ := one v rfl
      cases e : Ab.lstOf s v with
      | none => simp only [Ab.biV, e] at h; exact h.elim
      | some ws =>
        cases e2 : Ab.boolsOf ws with
        | none => simp only [Ab.biV, e, Option.bind_some, e2] at h; exact h.elim
        | some bs =>
          simp only [Ab.biV, e, Option.bind_some, e2] at h
          obtain ⟨p, ys, rfl, hp, hv⟩ := lst_at rp e rv
          exact ⟨p, bs, rfl, SqL.of (by rw [hp, bools_ok e2 hv]), Out.now h rp rfl⟩
  | any =>
    match vs, one, h with
    | [], _, h => exact h.elim
    | v :: _ :: _, _, h => cases v <;> exact h.elim
    | [v], one, h =>
      obtain ⟨x, rfl, rv⟩ := one v rfl
      cases e : Ab.lstOf s v with
      | none => simp only [Ab.biV, e] at h; exact h.elim
      | some ws =>
        cases e2 : Ab.boolsOf ws with
        | none => simp only [Ab.biV, e, Option.bind_some, e2] at h; exact h.elim
        | some bs =>
          simp only [Ab.biV, e, Option.bind_some, e2] at h
          obtain ⟨p, ys, rfl, hp, hv⟩ := lst_at rp e rv
          exact ⟨p, bs, rfl, SqL.of (by rw [hp, bools_ok e2 hv]), Out.now h rp rfl⟩
  | int =>
    match vs, one, h with
    | [], _, h => exact h.elim
    | v :: _ :: _, _, h => cases v <;> exact h.elim
    | [v], one, h =>
      obtain ⟨x, rfl, rv⟩ := one v rfl
      cases v with
      | int i => exact .inl ⟨i, by rw [show x = _ from rv], Out.now h rp rfl⟩
      | bl k => exact .inr ⟨k, by rw [show x = _ from rv], Out.now h rp rfl⟩
      | _ => exact h.elim
  | max2 =>
    match vs, two, h with
    | [], _, h => exact h.elim
    | [v], _, h => cases v <;> exact h.elim
    | v :: w :: _ :: _, _, h => cases v <;> cases w <;> exact h.elim
    | [v, w], two, h =>
      obtain ⟨x, y, rfl, rv, rw'⟩ := two v w rfl
      cases v <;> cases w <;> first | exact h.elim | exact ⟨_, _, by rw [show x = _ from rv, show y = _ from rw'], Out.now h rp rfl⟩
  | min2 =>
    match vs, two, h with
    | [], _, h => exact h.elim
    | [v], _, h => cases v <;> exact h.elim
    | v :: w :: _ :: _, _, h => cases v <;> cases w <;> exact h.elim
    | [v, w], two, h =>
      obtain ⟨x, y, rfl, rv, rw'⟩ := two v w rfl
      cases v <;> cases w <;> first | exact h.elim | exact ⟨_, _, by rw [show x = _ from rv, show y = _ from rw'], Out.now h rp rfl⟩
end Sn
end
section
set_option Elab.async false
set_option linter.all false
set_option autoImplicit false
set_option maxRecDepth 100000
set_option maxHeartbeats 4000000
/-! Methods of built-in types. -/
namespace Sn
open PySem L2
open Ab (Val SO Sto Exc R toD toDs BM)
variable {B : Bs} {X : Cx}
def bmName : BM → Str
  | .append => "append"
  | .pop => "pop"
  | .popAt => "pop"
  | .remove => "remove"
  | .index => "index"
  | .indexD => "index"
  | .clear => "clear"
  | .extend => "extend"
  | .count => "count"
  | .join => "join"
  | .sindex => "index"
  | .get1 => "get"
  | .get2 => "get"
  | .update => "update"
/-- list methods with arguments, without -/
def isL1 : BM → Bool
  | .append => true
  | .popAt => true
  | .index => true
  | .indexD => true
  | .remove => true
  | .count => true
  | .extend => true
  | _ => false
def isL0 : BM → Bool
  | .pop => true
  | .clear => true
  | _ => false
/-- what they ask, by values -/
def rM (K : PySem.W.Frag) : BM → V → List V → Hp → VK → Prop
  | .append => rAppend
  | .popAt => rPopAt
  | .index => rIndex K
  | .indexD => rIndexD K
  | .remove => rRem K
  | .count => rCnt K
  | .extend => rExtend
  | .pop => rPop
  | .clear => rClear
  | _ => fun _ _ _ _ => False
section
variable {o e : Expr} {es : List Expr} {to : TE} {t : TA} {apos pos : Pos}
theorem pe_l1 {b : BM} (hu : X.A.units + 65 < cLine) (h1 : isL1 b = true) (ho : PE X o to) (ha : PA X (e :: es) t) (hb : noSup o = true) (hs : (e :: es).all noStar = true) (hl : (e :: es).length < 28) (hp : (apos.endLine == pos.line) = true) :
    PE X (.Call (.Attribute o (bmName b) apos) (e :: es) [] pos) (tBM X.K "list" (rM X.K b) to t) := by
  obtain ⟨s1, s2⟩ : noStar e = true ∧ es.all noStar = true := by simpa using hs
  cases b with
  | append => exact pe_bm F.plainAttrs_list F.slot_list_append F.type_list_append mt_append ho ha (base_of hb) (few_of hs hl) hp (star_cons s1) (star_any s2)
  | popAt => exact pe_bm F.plainAttrs_list F.slot_list_pop F.type_list_pop mt_popAt ho ha (base_of hb) (few_of hs hl) hp (star_cons s1) (star_any s2)
  | index => exact pe_bm F.plainAttrs_list F.slot_list_index F.type_list_index mt_index ho ha (base_of hb) (few_of hs hl) hp (star_cons s1) (star_any s2)
  | indexD => exact pe_bm F.plainAttrs_list F.slot_list_index F.type_list_index (mt_indexD hu) ho ha (base_of hb) (few_of hs hl) hp (star_cons s1) (star_any s2)
  | remove => exact pe_bm F.plainAttrs_list F.slot_list_remove F.type_list_remove (mt_rem hu) ho ha (base_of hb) (few_of hs hl) hp (star_cons s1) (star_any s2)
  | count => exact pe_bm F.plainAttrs_list F.slot_list_count F.type_list_count (mt_cnt hu) ho ha (base_of hb) (few_of hs hl) hp (star_cons s1) (star_any s2)
  | extend => exact pe_bm F.plainAttrs_list F.slot_list_extend F.type_list_extend mt_extend ho ha (base_of hb) (few_of hs hl) hp (star_cons s1) (star_any s2)
  | _ => cases h1
theorem pe_l0 {b : BM} (h1 : isL0 b = true) (ho : PE X o to) (hb : noSup o = true) (hp : (apos.endLine == pos.line) = true) : PE X (.Call (.Attribute o (bmName b) apos) [] [] pos) (tBM0 X.K "list" (rM X.K b) to) := by
  cases b with
  | pop => exact pe_bm0 F.plainAttrs_list F.slot_list_pop F.type_list_pop mt_pop ho (base_of hb) hp
  | clear => exact pe_bm0 F.plainAttrs_list F.slot_list_clear F.type_list_clear mt_clear ho (base_of hb) hp
  | _ => cases h1
end
/-! ### texts joined -/
theorem tl_str (t : Ab.Txt) : TL.tl (str t) = t := by simp [str, TL.tl]
theorem str_tl (x : Str) : str (TL.tl x) = x := by
  cases x
  simp [str, TL.tl]
theorem join_str (sep : Ab.Txt) (xs : List Ab.Txt) : PySem.Txt.join (str sep) (xs.map str) = str (Ab.joinT sep xs) := by
  have e : xs.map (TL.tl ∘ str) = xs := by
    have := List.map_congr_left (f := TL.tl ∘ str) (g := id) (l := xs) fun a _ => tl_str a
    rw [this, List.map_id]
  rw [TL.join_eq, ← str_tl (Str.join _ _), TL.tl_join, tl_str, List.map_map, e]
  rfl
theorem join_good {sep : Ab.Txt} (hs : good sep) : ∀ {xs : List Ab.Txt}, (∀ t ∈ xs, good t) → good (Ab.joinT sep xs)
  | [], _ => fun c hc => nomatch hc
  | [x], h => h x List.mem_cons_self
  | x :: y :: r, h => by
    intro c hc
    have e : Ab.joinT sep (x :: y :: r) = x ++ (sep ++ Ab.joinT sep (y :: r)) := rfl
    rw [e, List.mem_append, List.mem_append] at hc
    rcases hc with hc | hc | hc
    · exact h x List.mem_cons_self c hc
    · exact hs c hc
    · exact join_good hs (xs := y :: r) (fun t ht => h t (List.mem_cons_of_mem _ ht)) c hc
/-! ### a first place -/
theorem first_is {α : Type} {p : α → Bool} : ∀ {l : List α} {j : Nat}, Ab.first p l = some j → ∃ x, l[j]? = some x ∧ p x = true ∧ ∀ (m : Nat) y, m < j → l[m]? = some y → p y = false
  | [], _, h => by simp [Ab.first] at h
  | x :: r, j, h => by
    by_cases c : p x = true
    · simp only [Ab.first, c, if_true, Option.some.injEq] at h
      subst h
      exact ⟨x, rfl, c, fun m y hm => absurd hm (Nat.not_lt_zero m)⟩
    · have h' : (Ab.first p r).map (· + 1) = some j := by simpa [Ab.first, c] using h
      obtain ⟨i, hi, rfl⟩ := Option.map_eq_some_iff.mp h'
      obtain ⟨y, a1, a2, a3⟩ := first_is hi
      refine ⟨y, a1, a2, fun m z hm hz => ?_⟩
      cases m with
      | zero =>
        cases hz
        simpa using c
      | succ m => exact a3 m z (by omega) hz
/-! ### bmV -/
section
variable {φ : List Addr} {F : Hp} {s : Sto} {H : Hp} {W : WX} {σ : L2.St} {Q : VK} {b : BM} {o : Val} {x : V} {vs : List Val} {xs : List V}
theorem ty_list (rp : Rp B φ F s H) (ro : RV B φ F o x) (h : (Ab.lstOf s o).isSome = true) : tyV B.K "list" x H := by
  cases e : Ab.lstOf s o with
  | none => rw [e] at h; cases h
  | some vs =>
    obtain ⟨a, xs, rfl, ha, _⟩ := lst_at rp e ro
    exact .inl ⟨rfl, xs, SqL.of ha⟩
/-- a list that may be written -/
theorem own_list (rp : Rp B φ F s H) {l : Nat} (ro : RV B φ F (.loc l) x) {ws : List Val} (e : s[l]? = some (.list ws)) : ∃ a ys, x = .ref a ∧ φ[l]? = some a ∧ H a = some (.lst ys) ∧ RVs B φ F ws ys := by
  obtain ⟨a, rfl, ha⟩ := ro
  obtain ⟨ho, e1, ys, rfl, hv⟩ := rp.at ha e
  exact ⟨a, ys, rfl, ha, e1, hv⟩
theorem rv_one {v : Val} (r : RVs B φ F [v] xs) : ∃ y, xs = [y] ∧ RV B φ F v y := by
  obtain ⟨y, t, e, h1, h2⟩ := r
  exact ⟨y, by rw [e, show t = [] from h2], h1⟩
theorem rv_two {v w : Val} (r : RVs B φ F [v, w] xs) : ∃ y z, xs = [y, z] ∧ RV B φ F v y ∧ RV B φ F w z := by
  obtain ⟨y, t, e, h1, h2⟩ := r
  obtain ⟨z, rfl, h3⟩ := rv_one h2
  exact ⟨y, z, e, h1, h3⟩
/-- a written list's end -/
theorem wrote (rp : Rp B φ F s H) {l : Nat} {a : Addr} (ha : φ[l]? = some a) {us : List Val} (hs : s[l]? = some (.list us)) {ws : List Val} {ys : List V} (hv : RVs B φ F ws ys) {v : Val} {y : V} (rv : RV B φ F v y)
    (h : Out B W (RV B) φ F H (Ab.lift (some (v, s.set l (.list ws)))) σ Q) : Q y (upd H a (.lst ys)) := Out.fix (a := v) h (Ext.write rp ha) (rp.write ha (fun _ z => by rw [hs] at z; cases z) (o := .list ws) ⟨ys, rfl, hv⟩) rv
theorem append_ok (rp : Rp B φ F s H) (ro : RV B φ F o x) (r : RVs B φ F vs xs) (h : Out B W (RV B) φ F H (Ab.lift (Ab.bmV .append o vs s)) σ Q) : rAppend x xs H Q := by
  cases o with
  | loc l =>
    match vs, r, h with
    | [], _, h => exact h.elim
    | _ :: _ :: _, _, h => exact h.elim
    | [v], r, h =>
      obtain ⟨y, rfl, rv⟩ := rv_one r
      cases e : s[l]? with
      | none => simp only [Ab.bmV, Ab.bmO, Ab.bmR, Ab.bmC, Ab.bmI, e] at h; exact h.elim
      | some ob =>
        cases ob with
        | list ws =>
          simp only [Ab.bmV, Ab.bmO, Ab.bmR, Ab.bmC, Ab.bmI, e] at h
          split at h
          · rename_i c
            obtain ⟨a, ys, rfl, ha, e1, hv⟩ := own_list rp ro e
            exact ⟨a, ys, y, rfl, rfl, e1, by rw [← hv.length]; exact line_lt c, wrote rp ha e (hv.append (show RVs B φ F [v] [y] from ⟨y, [], rfl, rv, rfl⟩)) (v := .non) (y := .non) rfl h⟩
          · exact h.elim
        | _ => simp only [Ab.bmV, Ab.bmO, Ab.bmR, Ab.bmC, Ab.bmI, e] at h; exact h.elim
  | _ => exact h.elim
theorem pop_ok (rp : Rp B φ F s H) (ro : RV B φ F o x) (r : RVs B φ F vs xs) (h : Out B W (RV B) φ F H (Ab.lift (Ab.bmV .pop o vs s)) σ Q) : rPop x xs H Q := by
  cases o with
  | loc l =>
    match vs, r, h with
    | _ :: _, _, h => exact h.elim
    | [], r, h =>
      cases e : s[l]? with
      | none => simp only [Ab.bmV, Ab.bmO, Ab.bmR, Ab.bmC, Ab.bmI, e] at h; exact h.elim
      | some ob =>
        cases ob with
        | list ws =>
          cases e2 : ws[ws.length - 1]? with
          | none => simp only [Ab.bmV, Ab.bmO, Ab.bmR, Ab.bmC, Ab.bmI, e, e2] at h; exact h.elim
          | some v =>
            simp only [Ab.bmV, Ab.bmO, Ab.bmR, Ab.bmC, Ab.bmI, e, e2] at h
            obtain ⟨a, ys, rfl, ha, e1, hv⟩ := own_list rp ro e
            obtain ⟨y, g1, g2⟩ := hv.got e2
            rw [hv.length] at g1
            exact ⟨a, ys, y, rfl, r, e1, g1, wrote rp ha e hv.dropLast g2 h⟩
        | _ => simp only [Ab.bmV, Ab.bmO, Ab.bmR, Ab.bmC, Ab.bmI, e] at h; exact h.elim
  | _ => exact h.elim
theorem popAt_ok (rp : Rp B φ F s H) (ro : RV B φ F o x) (r : RVs B φ F vs xs) (h : Out B W (RV B) φ F H (Ab.lift (Ab.bmV .popAt o vs s)) σ Q) : rPopAt x xs H Q := by
  cases o with
  | loc l =>
    match vs, r, h with
    | [], _, h => exact h.elim
    | u :: _ :: _, _, h => cases u <;> exact h.elim
    | [v], r, h =>
      obtain ⟨y, rfl, rv⟩ := rv_one r
      cases v with
      | int i =>
        cases e : s[l]? with
        | none => simp only [Ab.bmV, Ab.bmO, Ab.bmR, Ab.bmC, Ab.bmI, e] at h; exact h.elim
        | some ob =>
          cases ob with
          | list ws =>
            simp only [Ab.bmV, Ab.bmO, Ab.bmR, Ab.bmC, Ab.bmI, e] at h
            split at h
            · rename_i c
              cases e2 : ws[i.toNat]? with
              | none => simp only [e2] at h; exact h.elim
              | some v =>
                simp only [e2] at h
                obtain ⟨a, ys, rfl, ha, e1, hv⟩ := own_list rp ro e
                obtain ⟨z, g1, g2⟩ := hv.got e2
                have hi : i.toNat < ys.length := (List.getElem?_eq_some_iff.mp g1).1
                have hs : seqIndex? i ys.length = some i.toNat := by
                  have := (L2.ixN_seq (n := ys.length) (i := i) (j := i.toNat) (by unfold L2.ixN; rw [if_pos c.1, if_pos (by omega)])).1
                  exact this
                exact ⟨a, ys, i, i.toNat, z, rfl, by rw [show y = _ from rv], e1, by omega, by omega, hs, g1, wrote rp ha e (hv.erase _) g2 h⟩
            · exact h.elim
          | _ => simp only [Ab.bmV, Ab.bmO, Ab.bmR, Ab.bmC, Ab.bmI, e] at h; exact h.elim
      | _ => exact h.elim
  | _ => exact h.elim
theorem clear_ok (rp : Rp B φ F s H) (ro : RV B φ F o x) (r : RVs B φ F vs xs) (h : Out B W (RV B) φ F H (Ab.lift (Ab.bmV .clear o vs s)) σ Q) : rClear x xs H Q := by
  cases o with
  | loc l =>
    match vs, r, h with
    | _ :: _, _, h => exact h.elim
    | [], r, h =>
      cases e : s[l]? with
      | none => simp only [Ab.bmV, Ab.bmO, Ab.bmR, Ab.bmC, Ab.bmI, e] at h; exact h.elim
      | some ob =>
        cases ob with
        | list ws =>
          simp only [Ab.bmV, Ab.bmO, Ab.bmR, Ab.bmC, Ab.bmI, e] at h
          obtain ⟨a, ys, rfl, ha, e1, hv⟩ := own_list rp ro e
          exact ⟨a, ys, rfl, r, e1, wrote rp ha e (show RVs B φ F [] [] from rfl) (v := .non) (y := .non) rfl h⟩
        | _ => simp only [Ab.bmV, Ab.bmO, Ab.bmR, Ab.bmC, Ab.bmI, e] at h; exact h.elim
  | _ => exact h.elim
theorem extend_ok (rp : Rp B φ F s H) (ro : RV B φ F o x) (r : RVs B φ F vs xs) (h : Out B W (RV B) φ F H (Ab.lift (Ab.bmV .extend o vs s)) σ Q) : rExtend x xs H Q := by
  cases o with
  | loc l =>
    match vs, r, h with
    | [], _, h => exact h.elim
    | _ :: _ :: _, _, h => exact h.elim
    | [v], r, h =>
      obtain ⟨y, rfl, rv⟩ := rv_one r
      cases e : s[l]? with
      | none => simp only [Ab.bmV, Ab.bmO, Ab.bmR, Ab.bmC, Ab.bmI, e] at h; exact h.elim
      | some ob =>
        cases ob with
        | list ws =>
          cases e2 : Ab.lstOf s v with
          | none => simp only [Ab.bmV, Ab.bmO, Ab.bmR, Ab.bmC, Ab.bmI, e, e2] at h; exact h.elim
          | some us =>
            simp only [Ab.bmV, Ab.bmO, Ab.bmR, Ab.bmC, Ab.bmI, e, e2] at h
            split at h
            · rename_i c
              obtain ⟨a, ys, rfl, ha, e1, hv⟩ := own_list rp ro e
              obtain ⟨q, zs, rfl, e3, hz⟩ := lst_at rp e2 rv
              exact ⟨a, q, ys, zs, rfl, rfl, e1, e3, by rw [← hv.length, ← hz.length]; exact line_of c, wrote rp ha e (hv.append hz) (v := .non) (y := .non) rfl h⟩
            · exact h.elim
        | _ => simp only [Ab.bmV, Ab.bmO, Ab.bmR, Ab.bmC, Ab.bmI, e] at h; exact h.elim
  | _ => exact h.elim
theorem index_ok (rp : Rp B φ F s H) (ro : RV B φ F o x) (r : RVs B φ F vs xs) (h : Out B W (RV B) φ F H (Ab.lift (Ab.bmV .index o vs s)) σ Q) : rIndex B.K x xs H Q := by
  match vs, r, h with
  | [], _, h => exact h.elim
  | _ :: _ :: _, _, h => exact h.elim
  | [v], r, h =>
    obtain ⟨y, rfl, rv⟩ := rv_one r
    cases e : Ab.lstOf s o with
    | none => simp only [Ab.bmV, Ab.bmO, Ab.bmR, Ab.bmC, Ab.bmI, e] at h; exact h.elim
    | some ws =>
      simp only [Ab.bmV, Ab.bmO, Ab.bmR, Ab.bmC, Ab.bmI, e] at h
      split at h
      · rename_i c
        cases e2 : Ab.first (fun z => Ab.pyEq z v) ws with
        | none => rw [e2] at h; exact h.elim
        | some j =>
          rw [e2] at h
          obtain ⟨a, ys, rfl, e1, hv⟩ := lst_at rp e ro
          obtain ⟨u, g1, g2, g3⟩ := first_is e2
          obtain ⟨z, k1, k2⟩ := hv.got g1
          have fl : ∀ w ∈ ws, Ab.flat w = true := List.all_eq_true.mp c.2
          refine ⟨a, ys, y, j, z, rfl, rfl, SqL.of e1, flat_ok rv c.1, flats_ok hv c.2, k1, ?_, fun m z' hm hz => ?_, Out.now (a := Val.int j) h rp rfl⟩
          · rw [flat_eq k2 rv (fl u (List.mem_of_getElem? g1)) c.1]
            exact g2
          · obtain ⟨w, n1, n2⟩ := hv.get hz
            rw [flat_eq n2 rv (fl w (List.mem_of_getElem? n1)) c.1]
            exact g3 m w hm n1
      · exact h.elim
/-- a list's data -/
theorem data_of {ws ds : List Val} {ys : List V} (rp : Rp B φ F s H) (hv : RVs B φ F ws ys) (e : ws.mapM (Ab.res s Ab.DEEP) = some ds) : DpAll B.K H ys (toDs ds) ∧ SeqAt.shaped (.list (toDs ds)) = true := by
  obtain ⟨d1, d2, d3⟩ := dat_all (s := s) (n := Ab.DEEP) (fun v w x h r => res_dat rp _ v w x h r) e hv
  refine ⟨d1, ?_⟩
  unfold SeqAt.shaped
  have e2 : (PyData.list (toDs ds)).canLay0 = true := by rw [PyData.canLay0]; exact d2
  rw [e2, Bool.true_and, decide_eq_true_eq, PyData.depth]
  have e3 : PyData.depthAll (toDs ds) ≤ 12 := d3
  omega
theorem datum_of {v d : Val} {y : V} (rp : Rp B φ F s H) (rv : RV B φ F v y) (e : Ab.res s Ab.DEEP v = some d) : Dp B.K H y (toD d) ∧ SeqAt.shaped (toD d) = true := by
  have D := res_dat rp _ _ _ _ e rv
  refine ⟨D.d, ?_⟩
  unfold SeqAt.shaped
  simp only [D.p, Bool.true_and, decide_eq_true_eq]
  have e3 : (toD d).depth ≤ 12 := D.h
  omega
theorem place_is (d : Val) : ∀ ds : List Val, SeqAt.dataPlace (toDs ds) (toD d) = Ab.first (fun z => Ab.pyEq z d) ds
  | [] => rfl
  | x :: r => by
    have ih := place_is d r
    unfold SeqAt.dataPlace at ih ⊢
    simp only [toDs, List.findIdx?_cons, pyEq_eqv, Ab.first, ih]
theorem cnt_is (d : Val) : ∀ ds : List Val, (toDs ds).countP (fun z => PyData.eqv z (toD d)) = ds.countP fun z => Ab.pyEq z d
  | [] => rfl
  | x :: r => by
    have ih := cnt_is d r
    simp only [toDs, List.countP_cons, pyEq_eqv, ih]
theorem remove_ok (rp : Rp B φ F s H) (ro : RV B φ F o x) (r : RVs B φ F vs xs) (h : Out B W (RV B) φ F H (Ab.lift (Ab.bmV .remove o vs s)) σ Q) : rRem B.K x xs H Q := by
  cases o with
  | loc l =>
    match vs, r, h with
    | [], _, h => exact h.elim
    | _ :: _ :: _, _, h => exact h.elim
    | [v], r, h =>
      obtain ⟨y, rfl, rv⟩ := rv_one r
      cases e : s[l]? with
      | none => simp only [Ab.bmV, Ab.bmO, Ab.bmR, Ab.bmC, Ab.bmI, e] at h; exact h.elim
      | some ob =>
        cases ob with
        | list ws =>
          simp only [Ab.bmV, Ab.bmO, Ab.bmR, Ab.bmC, Ab.bmI, e] at h
          split at h
          · rename_i ds d e1 e2
            cases e3 : Ab.first (fun z => Ab.pyEq z d) ds with
            | none => rw [e3] at h; exact h.elim
            | some j =>
              rw [e3] at h
              obtain ⟨a, ys, rfl, ha, e4, hv⟩ := own_list rp ro e
              obtain ⟨g1, g2⟩ := data_of rp hv e1
              obtain ⟨g3, g4⟩ := datum_of rp rv e2
              exact ⟨a, ys, y, _, _, j, rfl, rfl, e4, g1, g3, g2, g4, by rw [place_is, e3], wrote rp ha e (hv.erase j) (v := .non) (y := .non) rfl h⟩
          · exact h.elim
        | _ => simp only [Ab.bmV, Ab.bmO, Ab.bmR, Ab.bmC, Ab.bmI, e] at h; exact h.elim
  | _ => exact h.elim
theorem count_ok (rp : Rp B φ F s H) (ro : RV B φ F o x) (r : RVs B φ F vs xs) (h : Out B W (RV B) φ F H (Ab.lift (Ab.bmV .count o vs s)) σ Q) : rCnt B.K x xs H Q := by
  match vs, r, h with
  | [], _, h => exact h.elim
  | _ :: _ :: _, _, h => exact h.elim
  | [v], r, h =>
    obtain ⟨y, rfl, rv⟩ := rv_one r
    cases e : Ab.lstOf s o with
    | none => simp only [Ab.bmV, Ab.bmO, Ab.bmR, Ab.bmC, Ab.bmI, e] at h; exact h.elim
    | some ws =>
      simp only [Ab.bmV, Ab.bmO, Ab.bmR, Ab.bmC, Ab.bmI, e] at h
      split at h
      · rename_i ds d e1 e2
        obtain ⟨a, ys, rfl, e4, hv⟩ := lst_at rp e ro
        obtain ⟨g1, g2⟩ := data_of rp hv e1
        obtain ⟨g3, g4⟩ := datum_of rp rv e2
        exact ⟨a, ys, y, _, _, rfl, rfl, SqL.of e4, g1, g3, g2, g4, by rw [cnt_is]; exact Out.now h rp rfl⟩
      · exact h.elim
theorem indexD_ok (rp : Rp B φ F s H) (ro : RV B φ F o x) (r : RVs B φ F vs xs) (h : Out B W (RV B) φ F H (Ab.lift (Ab.bmV .indexD o vs s)) σ Q) : rIndexD B.K x xs H Q := by
  match vs, r, h with
  | [], _, h => exact h.elim
  | _ :: _ :: _, _, h => exact h.elim
  | [v], r, h =>
    obtain ⟨y, rfl, rv⟩ := rv_one r
    cases e : Ab.lstOf s o with
    | none => simp only [Ab.bmV, Ab.bmO, Ab.bmR, Ab.bmC, Ab.bmI, e] at h; exact h.elim
    | some ws =>
      simp only [Ab.bmV, Ab.bmO, Ab.bmR, Ab.bmC, Ab.bmI, e] at h
      split at h
      · rename_i ds d e1 e2
        cases e3 : Ab.first (fun z => Ab.pyEq z d) ds with
        | none => rw [e3] at h; exact h.elim
        | some j =>
          rw [e3] at h
          obtain ⟨a, ys, rfl, e4, hv⟩ := lst_at rp e ro
          obtain ⟨g1, g2⟩ := data_of rp hv e1
          obtain ⟨g3, g4⟩ := datum_of rp rv e2
          obtain ⟨z, k1, k2, k3⟩ := first_is e3
          refine ⟨a, y, _, _, j, toD z, rfl, rfl, .lst (SqL.of e4) g1, g3, g2, g4, ?_, ?_, fun m z' hm hz => ?_, Out.now h rp rfl⟩
          · rw [toDs_map, List.getElem?_map, k1]
            rfl
          · rw [pyEq_eqv]
            exact k2
          · rw [toDs_map, List.getElem?_map, Option.map_eq_some_iff] at hz
            obtain ⟨z0, hz0, rfl⟩ := hz
            rw [pyEq_eqv]
            exact k3 m z0 hm hz0
      · exact h.elim
theorem join_ok (rp : Rp B φ F s H) (ro : RV B φ F o x) (r : RVs B φ F vs xs) (h : Out B W (RV B) φ F H (Ab.lift (Ab.bmV .join o vs s)) σ Q) :
    ∃ a p, ∃ ys : List Str, x = .str a ∧ xs = [.ref p] ∧ (SqL B.K H p (ys.map V.str) ∨ SqT B.K H p (ys.map V.str)) ∧ (ys.map (·.length)).sum + ys.length * a.length ≤ 16777216 ∧ Q (.str (PySem.Txt.join a ys)) H := by
  cases o with
  | str sep =>
    match vs, r, h with
    | [], _, h => exact h.elim
    | _ :: _ :: _, _, h => exact h.elim
    | [v], r, h =>
      obtain ⟨y, rfl, rv⟩ := rv_one r
      cases e : Ab.lstOf s v with
      | none => simp only [Ab.bmV, Ab.bmO, Ab.bmR, Ab.bmC, Ab.bmI, e] at h; exact h.elim
      | some ws =>
        cases e2 : Ab.strsOf ws with
        | none => simp only [Ab.bmV, Ab.bmO, Ab.bmR, Ab.bmC, Ab.bmI, e, Option.bind_some, e2] at h; exact h.elim
        | some ts =>
          simp only [Ab.bmV, Ab.bmO, Ab.bmR, Ab.bmC, Ab.bmI, e, Option.bind_some, e2] at h
          split at h
          · rename_i c
            obtain ⟨a, ys, rfl, e1, hv⟩ := lst_at rp e rv
            obtain ⟨rfl, gs⟩ := strs_ok e2 hv
            refine ⟨str sep, a, ts.map str, ro.1, rfl, .inl (SqL.of e1), ?_, ?_⟩
            · have e3 : (ts.map str).map (·.length) = ts.map List.length := by
                rw [List.map_map]
                exact List.map_congr_left fun t _ => str_len t
              rw [e3, List.length_map, str_len]
              exact Nat.le_trans c (by decide)
            · rw [join_str]
              exact Out.now h rp ⟨rfl, join_good ro.2 gs⟩
          · exact h.elim
  | _ => exact h.elim
theorem get_ok (rp : Rp B φ F s H) {d k : Val} {x y : V} {f : Option Val → Val} (rd : RV B φ F d x) (rk : RV B φ F k y) (h : Out B W (RV B) φ F H (Ab.lift ((Ab.dlook s d k).map fun o => (f o, s))) σ Q) :
    ∃ a o, x = .ref a ∧ DGet H a y o ∧ ∀ g : Option V → V, (∀ p q, Got B φ F p q → RV B φ F (f p) (g q)) → Q (g o) H := by
  cases e : Ab.dlook s d k with
  | none => rw [e] at h; exact h.elim
  | some o =>
    rw [e] at h
    obtain ⟨a, o', rfl, g, _, k⟩ := dlook_ok rp rd rk e
    exact ⟨a, o', rfl, g, fun g hg => Out.now (a := f o) h rp (hg o o' k)⟩
end
end Sn
end
section
set_option Elab.async false
set_option linter.all false
set_option autoImplicit false
set_option maxRecDepth 100000
set_option maxHeartbeats 4000000
/-! Expressions: what the model evaluates is what the machine evaluates. -/
namespace Sn
open PySem L2
open Ab (Val SO Sto Exc R toD toDs BM BI Ex It Stm Tg)
variable {B : Bs} {X : Cx} {W : WX} {C : Ab.Ctx}
/-- an expression, arguments, a test, a slice's part -/
abbrev tE (B : Bs) (W : WX) (C : Ab.Ctx) (c : Ex) : TE := tM B W (RV B) (Ab.ev C c)
abbrev tEs (B : Bs) (W : WX) (C : Ab.Ctx) (cs : List Ex) : TA := tM B W (RVs B) (Ab.evs C cs)
abbrev Same' {α : Type} : Rel α α := fun _ _ a b => b = a
abbrev tT (B : Bs) (W : WX) (C : Ab.Ctx) (c : Ex) : TT := tM B W Same' (Ab.evc C (some c))
abbrev tO (B : Bs) (W : WX) (C : Ab.Ctx) (c : Option Ex) : TO := tM B W Same' (Ab.evo C c)
/-- a call's promise -/
def spF (B : Bs) (call : Nat → List Val → Sto → R Val) (f : Nat) : Sp := fun vs H Q E => ∃ φ F s us, Rp B φ F s H ∧ RVs B φ F us vs ∧ Out B (fun cls d _ H => E cls d H) (RV B) φ F H (call f us s) [] Q
/-! ### one behind the other -/
section
variable {α β γ δ : Type} {rel : Rel α β} {rel' : Rel γ δ} {m : Ab.Env → Sto → R α} {σ : L2.St} {H : Hp}
/-- what is known behind a first part -/
structure Now (B : Bs) (rel : Rel α β) (φ : List Addr) (F : Hp) (s : Sto) (H : Hp) (a : α) (x : β) : Prop where
  rp : Rp B φ F s H
  r : rel φ F a x
theorem tM_in {φ : List Addr} {F : Hp} {en : Ab.Env} {s : Sto} {Q : β → Hp → Prop} (rp : Rp B φ F s H) (re : REn B φ F en σ) (o : Out B W rel φ F H (m en s) σ Q) : tM B W rel m σ H Q := ⟨φ, F, en, s, rp, re, o⟩
/-- a first part, then what hangs on it -/
theorem tM_then {φ : List Addr} {F : Hp} {en : Ab.Env} {s : Sto} {k : α → Sto → R γ} {Q' : β → Hp → Prop} {Q : δ → Hp → Prop} (rp : Rp B φ F s H) (re : REn B φ F en σ) (o : Out B W rel' φ F H (Ab.bnd (m en s) k) σ Q)
    (go : ∀ φ' F' H' a s' x, Ext φ F H φ' F' H' → Rp B φ' F' s' H' → REn B φ' F' en σ → rel φ' F' a x → Out B W rel' φ' F' H' (k a s') σ Q → Q' x H') : tM B W rel m σ H Q' := by
  refine tM_in rp re ((Out.bnd (rel := rel) o).imp ?_)
  rintro x H' ⟨φ', F', a, s', _, le, rp', r, o'⟩
  exact go φ' F' H' a s' x le rp' (re.mono le.le) r o'
/-- .. knowing what it came to -/
theorem tM_thenE {φ : List Addr} {F : Hp} {en : Ab.Env} {s : Sto} {k : α → Sto → R γ} {Q' : β → Hp → Prop} {Q : δ → Hp → Prop} (rp : Rp B φ F s H) (re : REn B φ F en σ) (o : Out B W rel' φ F H (Ab.bnd (m en s) k) σ Q)
    (go : ∀ φ' F' H' a s' x, m en s = some (.ok a, s') → Ext φ F H φ' F' H' → Rp B φ' F' s' H' → REn B φ' F' en σ → rel φ' F' a x → Out B W rel' φ' F' H' (k a s') σ Q → Q' x H') : tM B W rel m σ H Q' := by
  refine tM_in rp re ((Out.bnd (rel := rel) o).imp ?_)
  rintro x H' ⟨φ', F', a, s', e, le, rp', r, o'⟩
  exact go φ' F' H' a s' x e le rp' (re.mono le.le) r o'
end
/-! ### arguments -/
theorem a_nil : PA X [] (tEs B W C []) := PA_imp pa_nil fun σ H Q ⟨φ, F, en, s, rp, re, o⟩ => Out.now (a := ([] : List Val)) o rp (show RVs B φ F [] [] from rfl)
theorem a_cons {e : Expr} {es : List Expr} {c : Ex} {cs : List Ex} (he : PE X e (tE B W C c)) (hs : PA X es (tEs B W C cs)) (h : noStar e = true) : PA X (e :: es) (tEs B W C (c :: cs)) :=
  PA_imp (pa_cons he hs (star_cons h)) fun σ H Q ⟨φ, F, en, s, rp, re, o⟩ =>
    tM_then (rel := RV B) rp re o fun φ1 F1 H1 a s1 x le rp1 re1 r o1 => tM_then (rel := RVs B) rp1 re1 o1 fun φ2 F2 H2 as s2 xs le2 rp2 re2 rs o2 =>
      Out.now (a := a :: as) o2 rp2 ⟨x, xs, rfl, r.mono le2.le, rs⟩
/-! ### what stands for itself -/
theorem e_var {i : Nat} {x : Str} {pos : Pos} (hN : X.N[i]? = some x) (hv : Vis X.env.scope x) (h1 : (x == ("__debug__" : Str)) = false) (h2 : (x == ("__classdict__" : Str)) = false) : PE X (.Name x pos) (tE B W C (.var i)) :=
  PE_imp (pe_var hN hv h1 h2) fun σ H Q ⟨φ, F, en, s, rp, re, o⟩ => by
    simp only [Ab.ev] at o
    split at o
    · rename_i v e
      obtain ⟨y, e1, r⟩ := re.at_ i v e
      exact ⟨y, e1, Out.now o rp r⟩
    · exact o.elim
theorem cst_of {e : Expr} {v : Val} {y : V} (h : PE X e (tC y)) (r : ∀ φ F, RV B φ F v y) : PE X e (tE B W C (.cst v)) :=
  PE_imp h fun σ H Q ⟨φ, F, en, s, rp, re, o⟩ => Out.now (a := v) o rp (r φ F)
/-! ### operators -/
theorem e_bin {a b : Expr} {ca cb : Ex} {pos : Pos} {op : Ab.BOp} {m : Bool} (hK : X.K = B.K) (ha : PE X a (tE B W C ca)) (hb : PE X b (tE B W C cb)) : PE X (.BinOp a (opB op) b pos) (tE B W C (.bin op m ca cb)) :=
  PE_imp (pe_op (op_bin op) ha hb) fun σ H Q ⟨φ, F, en, s, rp, re, o⟩ =>
    tM_then (rel := RV B) rp re o fun φ1 F1 H1 a s1 x le rp1 re1 r o1 => tM_then (rel := RV B) rp1 re1 o1 fun φ2 F2 H2 b s2 y le2 rp2 re2 r2 o2 => by
      rw [hK]
      exact bin_ok rp2 (r.mono le2.le) r2 o2
theorem noin_mark {op : Ab.COp} {b : Expr} (h : noSet b = true) : behindInMarks (opC op) b = false := mark_of h
theorem e_cmp {a b : Expr} {ca cb : Ex} {pos : Pos} {op : Ab.COp} (hK : X.K = B.K) (hu : X.A.units + 66 < cLine) (ha : PE X a (tE B W C ca)) (hb : PE X b (tE B W C cb)) (hs : noSet b = true) : PE X (.Compare a [opC op] [b] pos) (tE B W C (.cmp op ca cb)) :=
  PE_imp (pe_cmpR (op_cmp hu op) ha hb (mark_of hs)) fun σ H Q ⟨φ, F, en, s, rp, re, o⟩ =>
    tM_then (rel := RV B) rp re o fun φ1 F1 H1 a s1 x le rp1 re1 r o1 => tM_then (rel := RV B) rp1 re1 o1 fun φ2 F2 H2 b s2 y le2 rp2 re2 r2 o2 => by
      rw [hK]
      exact cmp_ok rp2 (r.mono le2.le) r2 o2
/-- is None -/
def isOp (n : Bool) : CmpOp := if n = true then .IsNot else .Is
theorem e_isN {a : Expr} {ca : Ex} {pos p : Pos} {j : Nat} {n : Bool} (ha : PE X a (tE B W C ca)) : PE X (.Compare a [isOp n] [.Constant .none j p] pos) (tE B W C (.isN n ca)) := by
  have nn : ∀ (φ : List Addr) (F : Hp) (v : Val) (x : V), RV B φ F v x → (decide (x = V.non)) = (match v with | .non => true | _ => false) := by
    intro φ F v x r
    cases v with
    | non => rw [show x = _ from r]; rfl
    | bl b => rw [show x = _ from r]; rfl
    | int b => rw [show x = _ from r]; rfl
    | str b => rw [r.1]; rfl
    | tup b => obtain ⟨a, xs, rfl, _⟩ := r; rfl
    | lst b => obtain ⟨a, xs, rfl, _⟩ := r; rfl
    | loc b => obtain ⟨a, rfl, _⟩ := r; rfl
    | scr b => obtain ⟨a, rfl, _⟩ := r; rfl
    | exc _ _ => exact r.elim
  cases n with
  | false =>
    refine PE_imp (pe_cmpR op_isN ha pe_non (mark_of rfl)) fun σ H Q ⟨φ, F, en, s, rp, re, o⟩ => tM_then (rel := RV B) rp re o fun φ1 F1 H1 v s1 x le rp1 re1 r o1 => ⟨rfl, ?_⟩
    rw [nn _ _ _ _ r]
    cases v <;> exact Out.now o1 rp1 rfl
  | true =>
    refine PE_imp (pe_cmpR op_notN ha pe_non (mark_of rfl)) fun σ H Q ⟨φ, F, en, s, rp, re, o⟩ => tM_then (rel := RV B) rp re o fun φ1 F1 H1 v s1 x le rp1 re1 r o1 => ⟨rfl, ?_⟩
    rw [nn _ _ _ _ r]
    cases v <;> exact Out.now o1 rp1 rfl
/-! ### and, or, not -/
theorem rv_bl {φ : List Addr} {F : Hp} {b : Bool} {x : V} (r : RV B φ F (.bl b) x) : x = .bl b := r
theorem e_not {a : Expr} {ca : Ex} {pos : Pos} (ha : PE X a (tE B W C ca)) : PE X (.UnaryOp .Not a pos) (tE B W C (.notE ca)) :=
  PE_imp (pe_not ha) fun σ H Q ⟨φ, F, en, s, rp, re, o⟩ => tM_then (rel := RV B) rp re o fun φ1 F1 H1 v s1 x le rp1 re1 r o1 => by
    cases v with
    | bl b => exact ⟨b, r, Out.now o1 rp1 rfl⟩
    | _ => exact o1.elim
theorem e_and {a b : Expr} {rest : List Expr} {ca cb : Ex} {pos : Pos} (ha : PE X a (tE B W C ca)) (hb : PE X (.BoolOp .And (b :: rest) pos) (tE B W C cb)) : PE X (.BoolOp .And (a :: b :: rest) pos) (tE B W C (.andE ca cb)) :=
  PE_imp (pe_and ha hb) fun σ H Q ⟨φ, F, en, s, rp, re, o⟩ => tM_then (rel := RV B) rp re o fun φ1 F1 H1 v s1 x le rp1 re1 r o1 => by
    cases v with
    | bl k =>
      refine ⟨k, r, ?_⟩
      cases k with
      | true =>
        rw [if_pos rfl]
        refine tM_then (rel := RV B) rp1 re1 o1 fun φ2 F2 H2 w s2 y le2 rp2 re2 r2 o2 => ?_
        cases w with
        | bl j => exact Out.now o2 rp2 r2
        | _ => exact o2.elim
      | false =>
        rw [if_neg Bool.false_ne_true]
        exact Out.now o1 rp1 rfl
    | _ => exact o1.elim
theorem e_or {a b : Expr} {rest : List Expr} {ca cb : Ex} {pos : Pos} (ha : PE X a (tE B W C ca)) (hb : PE X (.BoolOp .Or (b :: rest) pos) (tE B W C cb)) : PE X (.BoolOp .Or (a :: b :: rest) pos) (tE B W C (.orE ca cb)) :=
  PE_imp (pe_or ha hb) fun σ H Q ⟨φ, F, en, s, rp, re, o⟩ => tM_then (rel := RV B) rp re o fun φ1 F1 H1 v s1 x le rp1 re1 r o1 => by
    cases v with
    | bl k =>
      refine ⟨k, r, ?_⟩
      cases k with
      | false =>
        rw [if_neg Bool.false_ne_true]
        refine tM_then (rel := RV B) rp1 re1 o1 fun φ2 F2 H2 w s2 y le2 rp2 re2 r2 o2 => ?_
        cases w with
        | bl j => exact Out.now o2 rp2 r2
        | _ => exact o2.elim
      | true =>
        rw [if_pos rfl]
        exact Out.now o1 rp1 rfl
    | _ => exact o1.elim
/-! ### tests -/
theorem t_of {e : Expr} {c : Ex} (h : PE X e (tE B W C c)) (hp : plainT e = true) : PT X e (tT B W C c) :=
  PT_imp (pt_val h (test_of hp)) fun σ H Q ⟨φ, F, en, s, rp, re, o⟩ => tM_then (rel := RV B) rp re o fun φ1 F1 H1 v s1 x le rp1 re1 r o1 => by
    cases v with
    | bl b => exact ⟨b, r, Out.now o1 rp1 rfl⟩
    | _ => exact o1.elim
theorem t_cmp {a b : Expr} {c : Ex} {pos : Pos} {op : CmpOp} {r : R2} (ho : OpR X (compareOp op) r) {ta tb : TE} (ha : PE X a ta) (hb : PE X b tb) (hm : behindInMarks op b = false) (he : ∀ σ H Q, tE B W C c σ H Q → tOp r ta tb σ H Q) :
    PT X (.Compare a [op] [b] pos) (tT B W C c) :=
  PT_imp (pt_cmpR ho ha hb hm) fun σ H Q ⟨φ, F, en, s, rp, re, o⟩ => he _ _ _ (tM_then (rel := RV B) rp re o fun φ1 F1 H1 v s1 x le rp1 re1 r o1 => by
    cases v with
    | bl b => exact ⟨b, r, Out.now o1 rp1 rfl⟩
    | _ => exact o1.elim)
theorem t_not {a : Expr} {ca : Ex} {pos : Pos} (ha : PT X a (tT B W C ca)) : PT X (.UnaryOp .Not a pos) (tT B W C (.notE ca)) :=
  PT_imp (pt_not ha) fun σ H Q ⟨φ, F, en, s, rp, re, o⟩ => by
    have e : Ab.evc C (some (.notE ca)) en s = Ab.bnd (Ab.evc C (some ca) en s) fun b s => Ab.ok (!b) s := by
      simp only [Ab.evc, Ab.ev]
      cases Ab.ev C ca en s with
      | none => rfl
      | some p =>
        obtain ⟨r, s1⟩ := p
        cases r with
        | error e => rfl
        | ok v => cases v <;> rfl
    rw [e] at o
    exact tM_then (rel := Same') rp re o fun φ1 F1 H1 v s1 x le rp1 re1 r o1 => Out.now (a := !v) o1 rp1 (by rw [r])
/-- how a test of two parts goes -/
theorem evc_and (ca cb : Ex) (en : Ab.Env) (s : Sto) : Ab.evc C (some (.andE ca cb)) en s = Ab.bnd (Ab.evc C (some ca) en s) fun b s => if b = true then Ab.evc C (some cb) en s else Ab.ok false s := by
  simp only [Ab.evc, Ab.ev]
  cases Ab.ev C ca en s with
  | none => rfl
  | some p =>
    obtain ⟨r, s1⟩ := p
    cases r with
    | error e => rfl
    | ok v =>
      cases v with
      | bl k =>
        cases k with
        | false => rfl
        | true =>
          show Ab.bnd (Ab.bnd (Ab.ev C cb en s1) _) _ = Ab.bnd (Ab.ev C cb en s1) _
          cases Ab.ev C cb en s1 with
          | none => rfl
          | some q =>
            obtain ⟨r2, s2⟩ := q
            cases r2 with
            | error e => rfl
            | ok w => cases w <;> rfl
      | _ => rfl
theorem evc_or (ca cb : Ex) (en : Ab.Env) (s : Sto) : Ab.evc C (some (.orE ca cb)) en s = Ab.bnd (Ab.evc C (some ca) en s) fun b s => if b = true then Ab.ok true s else Ab.evc C (some cb) en s := by
  simp only [Ab.evc, Ab.ev]
  cases Ab.ev C ca en s with
  | none => rfl
  | some p =>
    obtain ⟨r, s1⟩ := p
    cases r with
    | error e => rfl
    | ok v =>
      cases v with
      | bl k =>
        cases k with
        | true => rfl
        | false =>
          show Ab.bnd (Ab.bnd (Ab.ev C cb en s1) _) _ = Ab.bnd (Ab.ev C cb en s1) _
          cases Ab.ev C cb en s1 with
          | none => rfl
          | some q =>
            obtain ⟨r2, s2⟩ := q
            cases r2 with
            | error e => rfl
            | ok w => cases w <;> rfl
      | _ => rfl
theorem w_and {a b : Expr} {rest : List Expr} {ca cb : Ex} {pos : Pos} (ha : PT X a (tT B W C ca)) (hb : PW X (.BoolOp .And (b :: rest) pos) (tT B W C cb)) : PW X (.BoolOp .And (a :: b :: rest) pos) (tT B W C (.andE ca cb)) := by
  have h := pw_and ha hb
  refine ⟨fun whole pins s0 σ H Q I ⟨φ, F, en, s, rp, re, o⟩ => h.run whole pins s0 σ H Q I ?_⟩
  rw [evc_and] at o
  refine tM_then (rel := Same') rp re o fun φ1 F1 H1 v s1 x le rp1 re1 r o1 => ?_
  have hx : x = v := r
  subst hx
  cases x with
  | true => exact tM_in rp1 re1 o1
  | false => exact Out.now o1 rp1 rfl
theorem w_or {a b : Expr} {rest : List Expr} {ca cb : Ex} {pos : Pos} (ha : PT X a (tT B W C ca)) (hb : PW X (.BoolOp .Or (b :: rest) pos) (tT B W C cb)) : PW X (.BoolOp .Or (a :: b :: rest) pos) (tT B W C (.orE ca cb)) := by
  have h := pw_or ha hb
  refine ⟨fun whole pins s0 σ H Q I ⟨φ, F, en, s, rp, re, o⟩ => h.run whole pins s0 σ H Q I ?_⟩
  rw [evc_or] at o
  refine tM_then (rel := Same') rp re o fun φ1 F1 H1 v s1 x le rp1 re1 r o1 => ?_
  have hx : x = v := r
  subst hx
  cases x with
  | false => exact tM_in rp1 re1 o1
  | true => exact Out.now o1 rp1 rfl
theorem e_ite {c a b : Expr} {cc ca cb : Ex} {pos : Pos} (hc : PT X c (tT B W C cc)) (ha : PE X a (tE B W C ca)) (hb : PE X b (tE B W C cb)) : PE X (.IfExp c a b pos) (tE B W C (.ite cc ca cb)) :=
  PE_imp (pe_ifExp hc ha hb) fun σ H Q ⟨φ, F, en, s, rp, re, o⟩ => by
    have e : Ab.ev C (.ite cc ca cb) en s = Ab.bnd (Ab.evc C (some cc) en s) fun b s => if b = true then Ab.ev C ca en s else Ab.ev C cb en s := by
      simp only [Ab.evc, Ab.ev]
      cases Ab.ev C cc en s with
      | none => rfl
      | some p =>
        obtain ⟨r, s1⟩ := p
        cases r with
        | error e => rfl
        | ok v =>
          cases v with
          | bl k => cases k <;> rfl
          | _ => rfl
    rw [e] at o
    refine tM_then (rel := Same') rp re o fun φ1 F1 H1 v s1 x le rp1 re1 r o1 => ?_
    have hx : x = v := r
    subst hx
    cases x with
    | true => exact tM_in rp1 re1 o1
    | false => exact tM_in rp1 re1 o1
/-! ### displays -/
theorem e_tup {es : List Expr} {cs : List Ex} {k : Nat} {pos : Pos} (h : PA X es (tEs B W C cs)) : PE X (.Tuple es k pos) (tE B W C (.tup cs)) :=
  PE_imp (pe_tup h) fun σ H Q ⟨φ, F, en, s, rp, re, o⟩ => tM_then (rel := RVs B) rp re o fun φ1 F1 H1 vs s1 xs le rp1 re1 r o1 => by
    split at o1
    · rename_i c
      exact ⟨by rw [← r.length]; exact line_of c, fun p hp => new_tup rp1 o1 r hp⟩
    · exact o1.elim
theorem e_lst {es : List Expr} {cs : List Ex} {m : Bool} {pos : Pos} (h : PA X es (tEs B W C cs)) : PE X (.List es pos) (tE B W C (.lst m cs)) :=
  PE_imp (pe_lst h) fun σ H Q ⟨φ, F, en, s, rp, re, o⟩ => tM_then (rel := RVs B) rp re o fun φ1 F1 H1 vs s1 xs le rp1 re1 r o1 => by
    split at o1
    · rename_i c
      exact ⟨by rw [← r.length]; exact line_of c, fun p hp => new_lst rp1 o1 r hp⟩
    · exact o1.elim
theorem e_dS {pos : Pos} : PE X (.Dict [] [] pos) (tE B W C (.dS [] [])) :=
  PE_imp pe_dnewK fun σ H Q ⟨φ, F, en, s, rp, re, o⟩ p hp => by
    obtain ⟨e, rp', at'⟩ := rp.placed hp (o := .dS []) (ho := .dK []) fun φ' e => ⟨[], rfl, rfl⟩
    exact Out.fix (a := Val.loc s.length) o e rp' ⟨p, rfl, at'⟩
theorem e_dT {pos : Pos} : PE X (.Dict [] [] pos) (tE B W C .dT) :=
  PE_imp pe_dnewT fun σ H Q ⟨φ, F, en, s, rp, re, o⟩ p hp => by
    obtain ⟨e, rp', at'⟩ := rp.placed hp (o := .dT []) (ho := .dT []) fun φ' e => ⟨[], rfl, rfl, fun p hp => by cases hp⟩
    exact Out.fix (a := Val.loc s.length) o e rp' ⟨p, rfl, at'⟩
/-! ### places, slices -/
theorem e_item {a b : Expr} {ca cb : Ex} {pos : Pos} (hK : X.K = B.K) (hu : X.A.units + 1 < cLine) (ha : PE X a (tE B W C ca)) (hb : PE X b (tE B W C cb)) (hs : noSlice b = true) : PE X (.Subscript a b pos) (tE B W C (.item ca cb)) := by
  refine PE_imp (PE_or (pe_ix ix_seq ha hb (plainIx_of hs)) (pe_dget hu ha hb (plainIx_of hs))) fun σ H Q ⟨φ, F, en, s, rp, re, o⟩ => ?_
  -- by what the second comes to
  by_cases c : ∀ v s1 u s2, Ab.ev C ca en s = some (.ok v, s1) → Ab.ev C cb en s1 = some (.ok u, s2) → ∃ k, u = .int k
  · refine .inl (tM_thenE (rel := RV B) rp re o fun φ1 F1 H1 a s1 x e1 le rp1 re1 r o1 => tM_thenE (rel := RV B) rp1 re1 o1 fun φ2 F2 H2 b s2 y e2 le2 rp2 re2 r2 o2 => ?_)
    obtain ⟨k, rfl⟩ := c _ _ _ _ e1 e2
    rw [hK]
    exact item_seq rp2 (r.mono le2.le) r2 o2
  · refine .inr (tM_thenE (rel := RV B) rp re o fun φ1 F1 H1 a s1 x e1 le rp1 re1 r o1 => tM_thenE (rel := RV B) rp1 re1 o1 fun φ2 F2 H2 b s2 y e2 le2 rp2 re2 r2 o2 => ?_)
    refine item_dict rp2 (r.mono le2.le) r2 (fun k hk => c ?_) o2
    intro v s1' u s2' g1 g2
    rw [e1] at g1
    cases g1
    rw [e2] at g2
    cases g2
    exact ⟨k, hk⟩
theorem e_slice {a : Expr} {lo hi : Option Expr} {ca : Ex} {cl ch : Option Ex} {m : Bool} {pos p2 : Pos} (hK : X.K = B.K) (ha : PE X a (tE B W C ca)) (hl : PO X lo (tO B W C cl)) (hh : PO X hi (tO B W C ch)) : PE X (.Subscript a (.Slice lo hi none p2) pos) (tE B W C (.slice m ca cl ch)) :=
  PE_imp (pe_slice sl_any ha hl hh) fun σ H Q ⟨φ, F, en, s, rp, re, o⟩ => tM_then (rel := RV B) rp re o fun φ1 F1 H1 v s1 x le rp1 re1 r o1 =>
    tM_then (rel := Same') rp1 re1 o1 fun φ2 F2 H2 l s2 l' le2 rp2 re2 r2 o2 => tM_then (rel := Same') rp2 re2 o2 fun φ3 F3 H3 h s3 h' le3 rp3 re3 r3 o3 => by
      rw [hK, show l' = l from r2, show h' = h from r3]
      exact slice_ok rp3 (r.mono (le2.trans le3).le) o3
theorem o_none : PO X none (tO B W C none) := ⟨fun pins s0 σ H Q I ⟨φ, F, en, s, rp, re, o⟩ => po_none.run pins s0 σ H Q I (Out.now (a := (none : Option Int)) o rp rfl)⟩
theorem o_some {e : Expr} {c : Ex} (h : PE X e (tE B W C c)) : PO X (some e) (tO B W C (some c)) := by
  have p := po_some h
  refine ⟨fun pins s0 σ H Q I ⟨φ, F, en, s, rp, re, o⟩ => p.run pins s0 σ H Q I ?_⟩
  refine tM_then (rel := RV B) rp re o fun φ1 F1 H1 v s1 x le rp1 re1 r o1 => ?_
  cases v with
  | int i => exact ⟨i, r, Out.now o1 rp1 rfl⟩
  | _ => exact o1.elim
end Sn
end
section
set_option Elab.async false
set_option linter.all false
set_option autoImplicit false
set_option maxRecDepth 100000
set_option maxHeartbeats 4000000
/-! Attributes, built-ins, calls. -/
namespace Sn
open PySem L2
open Ab (Val SO Sto Exc R toD toDs BM BI Ex It Stm Tg)
variable {B : Bs} {X : Cx} {W : WX} {C : Ab.Ctx}
/-- the classes as the top has made them -/
structure ClsOk (B : Bs) (K : PySem.W.Frag) : Prop where
  cl : ∀ c, B.okC c = true → Cls K (B.A c)
  na : ∀ c f, B.okC c = true → B.okF f = true → NoAttr K (B.A c) (B.fld f)
theorem lookup_ok {fs : List (Nat × Val)} {f : Nat} {v : Val} {p : Nat → Bool} (h : (fs.all fun q => p q.1) = true) (e : fs.lookup f = some v) : p f = true := by
  induction fs with
  | nil => cases e
  | cons q r ih =>
    obtain ⟨h1, h2⟩ : p q.1 = true ∧ (r.all fun q => p q.1) = true := by simpa using h
    obtain ⟨g, u⟩ := q
    by_cases c : f = g
    · rw [c]
      exact h1
    · have c' : (f == g) = false := by simpa using c
      simp only [List.lookup_cons, c'] at e
      exact ih h2 e
/-- an instance at a place -/
theorem inst_at {φ : List Addr} {F : Hp} {s : Sto} {H : Hp} (rp : Rp B φ F s H) {l : Nat} {x : V} (r : RV B φ F (.loc l) x) {c : Nat} {fs : List (Nat × Val)} (e : s[l]? = some (.inst c fs)) :
    ∃ a dx xs, x = .ref a ∧ φ[l]? = some a ∧ H a = some (.ins (B.A c) dx xs) ∧ RFs B φ F fs xs ∧ B.okC c = true ∧ (fs.all fun p => B.okF p.1) = true := by
  obtain ⟨a, rfl, ha⟩ := r
  obtain ⟨ho, e1, dx, xs, rfl, h1, h2, h3⟩ := rp.at ha e
  exact ⟨a, dx, xs, rfl, ha, e1, h1, h2, h3⟩
theorem e_fld {a : Expr} {ca : Ex} {f : Nat} {pos : Pos} (hK : X.K = B.K) (G : ClsOk B B.K) (ha : PE X a (tE B W C ca)) (hb : noSup a = true) : PE X (.Attribute a (B.fld f) pos) (tE B W C (.fld ca f)) :=
  PE_imp (pe_fld ha (base_of hb)) fun σ H Q ⟨φ, F, en, s, rp, re, o⟩ => tM_then (rel := RV B) rp re o fun φ1 F1 H1 v s1 x le rp1 re1 r o1 => by
    cases v with
    | loc l =>
      cases e : s1[l]? with
      | none => simp only [e] at o1; exact o1.elim
      | some ob =>
        cases ob with
        | inst c fs =>
          simp only [e] at o1
          cases e2 : fs.lookup f with
          | none => rw [e2] at o1; exact o1.elim
          | some v =>
            rw [e2] at o1
            obtain ⟨p, dx, xs, rfl, hp, h1, h2, h3, h4⟩ := inst_at rp1 r e
            obtain ⟨y, g1, g2⟩ := h2.look e2
            rw [hK]
            exact ⟨p, B.A c, dx, xs, y, rfl, h1, G.cl c h3, G.na c f h3 (lookup_ok h4 e2), g1, Out.now (a := v) o1 rp1 g2⟩
        | _ => simp only [e] at o1; exact o1.elim
    | exc _ _ => exact r.elim
    | _ => exact o1.elim
/-! ### built-ins by their names -/
def biName : BI → Str
  | .len => "len"
  | .list => "list"
  | .tuple => "tuple"
  | .sorted => "sorted"
  | .all => "all"
  | .any => "any"
  | .int => "int"
  | .max2 => "max"
  | .min2 => "min"
  | _ => "isinstance"
def biOk : BI → Bool
  | .len => true
  | .list => true
  | .tuple => true
  | .sorted => true
  | .all => true
  | .any => true
  | .int => true
  | .max2 => true
  | .min2 => true
  | _ => false
theorem bi_boot {b : BI} (h : biOk b = true) : bootBuiltins (biName b) = some (biIs b) := by
  cases b <;> first | (cases h; done) | (simp only [biName, biIs]; decide +kernel)
theorem bi_plain {b : BI} (h : biOk b = true) : biName b ≠ "__name__" ∧ (biName b == ("__debug__" : Str)) = false := by
  cases b <;> first | (cases h; done) | (constructor <;> decide +kernel)
theorem e_bi {b : BI} {m : Bool} {e : Expr} {es : List Expr} {cs : List Ex} {p pos : Pos} (hK : X.K = B.K) (hc : X.calm = true) (hu : X.A.units + 40 < cLine) (h : biOk b = true) (hg : Gl X (biName b)) (hm : X.mg (biName b) = none)
    (ha : PA X (e :: es) (tEs B W C cs)) (hs : (e :: es).all noStar = true) : PE X (.Call (.Name (biName b) p) (e :: es) [] pos) (tE B W C (.bi b m cs)) := by
  obtain ⟨s1, s2⟩ : noStar e = true ∧ es.all noStar = true := by simpa using hs
  obtain ⟨n1, n2⟩ := bi_plain h
  have base : PE X (.Call (.Name (biName b) p) (e :: es) [] pos) (tCB (rBi X.K b) (tEs B W C cs)) := by
    have bt := bi_boot h
    have cl := call_bi (X := X) hc hu b
    cases hv : biIs b with
    | builtin id => rw [hv] at bt cl; exact pe_callB cl hg hm bt ha n1 n2 (star_cons s1) (star_any s2)
    | type id => rw [hv] at bt cl; exact pe_callTy cl hg hm bt ha n1 n2 (star_cons s1) (star_any s2)
    | _ => cases b <;> cases hv
  refine PE_imp base fun σ H Q ⟨φ, F, en, s, rp, re, o⟩ => tM_then (rel := RVs B) rp re o fun φ1 F1 H1 vs s1 xs le rp1 re1 r o1 => ?_
  rw [hK]
  exact bi_ok (by cases b <;> first | rfl | cases h) rp1 r o1 (by rintro rfl; cases h) (by rintro rfl; cases h)
/-- isinstance(e, T) -/
theorem kind_boot {b : BI} (h : isIs b = true) : bootBuiltins (kindOf b : Str) = some (.type (kindOf b)) ∧ (kindOf b : Str) ≠ "__name__" ∧ ((kindOf b : Str) == ("__debug__" : Str)) = false := by
  cases b <;> first | (cases h; done) | (refine ⟨?_, ?_, ?_⟩ <;> decide +kernel)
theorem e_is {b : BI} {m : Bool} {e : Expr} {c : Ex} {p p2 pos : Pos} (hK : X.K = B.K) (h : isIs b = true) (hg : Gl X "isinstance") (hm : X.mg "isinstance" = none) (hg2 : Gl X (kindOf b : Str)) (hm2 : X.mg (kindOf b : Str) = none)
    (ha : PE X e (tE B W C c)) (hs : noStar e = true) : PE X (.Call (.Name "isinstance" p) [e, .Name (kindOf b : Str) p2] [] pos) (tE B W C (.bi b m [c])) := by
  obtain ⟨b1, b2, b3⟩ := kind_boot h
  have two : PE X (.Name (kindOf b : Str) p2) (tC (.ty (kindOf b))) := pe_bltn hg2 hm2 b1 rfl b2 b3
  refine PE_imp (pe_callB call_isi hg hm (by decide +kernel) (pa_cons ha (pa_cons two pa_nil (star_cons rfl)) (star_cons hs)) (by decide +kernel) (by decide +kernel) (star_cons hs) (star_any (es := [.Name (kindOf b : Str) p2]) rfl)) ?_
  rintro σ H Q ⟨φ, F, en, s, rp, re, o⟩
  have o' : Out B W (RV B) φ F H (Ab.bnd (Ab.ev C c en s) fun v s => Ab.lift ((Ab.isKind b s v).map fun k => (.bl k, s))) σ Q := by
    have e1 : Ab.ev C (.bi b m [c]) en s = Ab.bnd (Ab.ev C c en s) fun v s => Ab.lift ((Ab.isKind b s v).map fun k => (.bl k, s)) := by
      simp only [Ab.ev, Ab.evs]
      cases Ab.ev C c en s with
      | none => rfl
      | some q =>
        obtain ⟨r, s1⟩ := q
        cases r with
        | error _ => rfl
        | ok v => cases b <;> first | (cases h; done) | rfl
    rw [← e1]
    exact o
  refine tM_then (rel := RV B) rp re o' fun φ1 F1 H1 v s1 x le rp1 re1 r o1 => ?_
  cases e2 : Ab.isKind b s1 v with
  | none => rw [e2] at o1; exact o1.elim
  | some k =>
    rw [e2] at o1
    obtain ⟨t, h1, h2⟩ := kind_ok rp1 r h e2
    rw [← hK] at h1
    exact ⟨x, .ty (kindOf b), .type t, .type (kindOf b), k, rfl, .ty _, h1, kit_ty h2, Out.now (a := Val.bl k) o1 rp1 rfl⟩
/-! ### methods of built-in types -/
theorem e_l1 {b : BM} {a e : Expr} {es : List Expr} {ca : Ex} {cs : List Ex} {apos pos : Pos} (hK : X.K = B.K) (hu : X.A.units + 65 < cLine) (h1 : isL1 b = true) (ho : PE X a (tE B W C ca)) (ha : PA X (e :: es) (tEs B W C cs)) (hb : noSup a = true) (hs : (e :: es).all noStar = true)
    (hl : (e :: es).length < 28) (hp : (apos.endLine == pos.line) = true) : PE X (.Call (.Attribute a (bmName b) apos) (e :: es) [] pos) (tE B W C (.bm b ca cs)) :=
  PE_imp (pe_l1 hu h1 ho ha hb hs hl hp) fun σ H Q ⟨φ, F, en, s, rp, re, o⟩ => tM_then (rel := RV B) rp re o fun φ1 F1 H1 v s1 x le rp1 re1 r o1 => by
    split at o1
    · rename_i c
      rw [hK]
      refine ⟨ty_list rp1 r (by cases b <;> first | (cases h1; done) | exact c), tM_then (rel := RVs B) rp1 re1 o1 fun φ2 F2 H2 vs s2 xs le2 rp2 re2 rs o2 => ?_⟩
      cases b with
      | append => exact append_ok rp2 (r.mono le2.le) rs o2
      | popAt => exact popAt_ok rp2 (r.mono le2.le) rs o2
      | index => exact index_ok rp2 (r.mono le2.le) rs o2
      | indexD => exact indexD_ok rp2 (r.mono le2.le) rs o2
      | remove => exact remove_ok rp2 (r.mono le2.le) rs o2
      | count => exact count_ok rp2 (r.mono le2.le) rs o2
      | extend => exact extend_ok rp2 (r.mono le2.le) rs o2
      | _ => cases h1
    · exact o1.elim
theorem e_l0 {b : BM} {a : Expr} {ca : Ex} {apos pos : Pos} (hK : X.K = B.K) (h1 : isL0 b = true) (ho : PE X a (tE B W C ca)) (hb : noSup a = true) (hp : (apos.endLine == pos.line) = true) : PE X (.Call (.Attribute a (bmName b) apos) [] [] pos) (tE B W C (.bm b ca [])) :=
  PE_imp (pe_l0 h1 ho hb hp) fun σ H Q ⟨φ, F, en, s, rp, re, o⟩ => tM_then (rel := RV B) rp re o fun φ1 F1 H1 v s1 x le rp1 re1 r o1 => by
    split at o1
    · rename_i c
      have o2 : Out B W (RV B) φ1 F1 H1 (Ab.lift (Ab.bmV b v [] s1)) σ Q := o1
      rw [hK]
      refine ⟨ty_list rp1 r (by cases b <;> first | (cases h1; done) | exact c), ?_⟩
      cases b with
      | pop => exact pop_ok rp1 r (show RVs B φ1 F1 [] [] from rfl) o2
      | clear => exact clear_ok rp1 r (show RVs B φ1 F1 [] [] from rfl) o2
      | _ => cases h1
    · exact o1.elim
theorem e_join {a e : Expr} {ca c : Ex} {apos pos : Pos} (hK : X.K = B.K) (ho : PE X a (tE B W C ca)) (ha : PA X [e] (tEs B W C [c])) (hb : noSup a = true) (hs : noStar e = true) (hp : (apos.endLine == pos.line) = true) :
    PE X (.Call (.Attribute a "join" apos) [e] [] pos) (tE B W C (.bm .join ca [c])) :=
  PE_imp (pe_bm F.plainAttrs_str F.slot_str_join F.type_str_join mt_join ho ha (base_of hb) (few_of (by simpa using hs) (by simp)) hp (star_cons hs) (star_any (es := []) rfl)) fun σ H Q ⟨φ, F, en, s, rp, re, o⟩ =>
    tM_then (rel := RV B) rp re o fun φ1 F1 H1 v s1 x le rp1 re1 r o1 => by
      split at o1
      · rename_i c'
        cases v with
        | str t =>
          rw [hK, r.1]
          refine ⟨rfl, tM_then (rel := RVs B) rp1 re1 o1 fun φ2 F2 H2 vs s2 xs le2 rp2 re2 rs o2 => ?_⟩
          have := join_ok rp2 (r.mono le2.le) rs o2
          rw [r.1] at this
          exact this
        | _ => cases c'
      · exact o1.elim
theorem d_is {φ : List Addr} {F : Hp} {s : Sto} {H : Hp} (rp : Rp B φ F s H) {v : Val} {x : V} (r : RV B φ F v x) (h : Ab.bmTy .get1 v s = true) : ∃ a, x = .ref a ∧ IsD H a := by
  cases v with
  | loc l =>
    obtain ⟨a, rfl, ha⟩ := r
    cases e : s[l]? with
    | none => simp [Ab.bmTy, e] at h
    | some ob =>
      cases ob with
      | dS kvs =>
        obtain ⟨ho, e1, xs, rfl, _⟩ := rp.at ha e
        exact ⟨a, rfl, .inl ⟨xs, Rd.of e1⟩⟩
      | dT kvs =>
        obtain ⟨ho, e1, xs, rfl, _⟩ := rp.at ha e
        exact ⟨a, rfl, .inr ⟨xs, Rd.of e1⟩⟩
      | dTf kvs =>
        obtain ⟨ho, e1, od, xs, rfl, _⟩ := rp.at ha e
        exact ⟨a, rfl, .inr ⟨xs, .inr ⟨od, e1⟩⟩⟩
      | _ => simp [Ab.bmTy, e] at h
  | _ => cases h
theorem e_get1 {a e : Expr} {ca c : Ex} {apos pos : Pos} (hu : X.A.units + 1 < cLine) (ho : PE X a (tE B W C ca)) (ha : PE X e (tE B W C c)) (hb : noSup a = true) (hs : noStar e = true) (hp : (apos.endLine == pos.line) = true) :
    PE X (.Call (.Attribute a "get" apos) [e] [] pos) (tE B W C (.bm .get1 ca [c])) :=
  PE_imp (pe_dget1 hu ho ha ⟨base_of hb, few_of (by simpa using hs) (by simp), hp, by rw [star_cons hs]; rfl⟩) fun σ H Q ⟨φ, F, en, s, rp, re, o⟩ => tM_then (rel := RV B) rp re o fun φ1 F1 H1 v s1 x le rp1 re1 r o1 => by
    split at o1
    · rename_i c'
      obtain ⟨p, rfl, hd⟩ := d_is rp1 r c'
      refine ⟨p, rfl, hd, ?_⟩
      have e1 : ∀ s, Ab.evs C [c] en s = Ab.bnd (Ab.ev C c en s) fun v s => Ab.ok [v] s := fun s => rfl
      have o2 : Out B W (RV B) φ1 F1 H1 (Ab.bnd (Ab.ev C c en s1) fun w s => Ab.lift ((Ab.dlook s v w).map fun o => (o.getD .non, s))) σ Q := by
        rw [e1] at o1
        revert o1
        cases Ab.ev C c en s1 with
        | none => exact fun h => h
        | some q =>
          obtain ⟨r2, s2⟩ := q
          cases r2 with
          | error _ => exact fun h => h
          | ok w => exact fun h => h
      refine tM_then (rel := RV B) rp1 re1 o2 fun φ2 F2 H2 w s2 y le2 rp2 re2 r2 o3 => ?_
      obtain ⟨q, o', e2, g, fin⟩ := get_ok rp2 (f := fun o => o.getD .non) (r.mono le2.le) r2 o3
      cases e2
      refine ⟨o', g, fin (fun z => z.getD .non) ?_⟩
      intro z z' hz
      cases z with
      | none => rw [show z' = none from hz]; rfl
      | some u => obtain ⟨u', rfl, hu⟩ := hz; exact hu
    · exact o1.elim
theorem e_get2 {a e f : Expr} {ca c d : Ex} {apos pos : Pos} (hu : X.A.units + 1 < cLine) (ho : PE X a (tE B W C ca)) (ha : PE X e (tE B W C c)) (hf : PE X f (tE B W C d)) (hb : noSup a = true) (hs : noStar e = true) (hs2 : noStar f = true) (hp : (apos.endLine == pos.line) = true) :
    PE X (.Call (.Attribute a "get" apos) [e, f] [] pos) (tE B W C (.bm .get2 ca [c, d])) :=
  PE_imp (pe_dget2 hu ho ha hf ⟨base_of hb, few_of (by simp [hs, hs2]) (by simp), hp, by rw [star_cons hs, star_cons hs2]; rfl⟩) fun σ H Q ⟨φ, F, en, s, rp, re, o⟩ => tM_then (rel := RV B) rp re o fun φ1 F1 H1 v s1 x le rp1 re1 r o1 => by
    split at o1
    · rename_i c'
      obtain ⟨p, rfl, hd⟩ := d_is rp1 r c'
      refine ⟨p, rfl, hd, ?_⟩
      have o2 : Out B W (RV B) φ1 F1 H1 (Ab.bnd (Ab.ev C c en s1) fun w s => Ab.bnd (Ab.ev C d en s) fun z s => Ab.lift ((Ab.dlook s v w).map fun o => (o.getD z, s))) σ Q := by
        revert o1
        simp only [Ab.evs]
        cases Ab.ev C c en s1 with
        | none => exact fun h => h
        | some q =>
          obtain ⟨r2, s2⟩ := q
          cases r2 with
          | error _ => exact fun h => h
          | ok w =>
            simp only [Ab.bnd]
            cases Ab.ev C d en s2 with
            | none => exact fun h => h
            | some q =>
              obtain ⟨r3, s3⟩ := q
              cases r3 with
              | error _ => exact fun h => h
              | ok z => exact fun h => h
      refine tM_then (rel := RV B) rp1 re1 o2 fun φ2 F2 H2 w s2 y le2 rp2 re2 r2 o3 => tM_then (rel := RV B) rp2 re2 o3 fun φ3 F3 H3 u s3 z le3 rp3 re3 r3 o4 => ?_
      obtain ⟨q, o', e2, g, fin⟩ := get_ok rp3 (f := fun o => o.getD u) (r.mono (le2.trans le3).le) (r2.mono le3.le) o4
      cases e2
      refine ⟨o', g, fin (fun z' => z'.getD z) ?_⟩
      intro a a' hz
      cases a with
      | none => rw [show a' = none from hz]; exact r3
      | some u => obtain ⟨u', rfl, hu⟩ := hz; exact hu
    · exact o1.elim
/-! ### calls -/
/-- a def as its callers see it -/
structure FnAt (B : Bs) (X : Cx) (k : Nat) (call : Nat → List Val → Sto → R Val) (f : Nat) (a : Addr) : Prop where
  ok : ∃ fd ps, Binds X.K fd ps [] ∧ FnOk X.prog X.w X.K X.mg X.base (L2.CX X.prog X.w) k a fd ps (spF B call f)
/-- a wish that does not hang on the slots -/
def Flat (W : WX) : Prop := ∀ c d σ σ' H, W c d σ H → W c d σ' H
theorem sp_of {φ : List Addr} {F : Hp} {s : Sto} {H : Hp} {call : Nat → List Val → Sto → R Val} {f : Nat} {vs : List Val} {xs : List V} {σ : L2.St} {Q : VK} {E : XK} (rp : Rp B φ F s H) (r : RVs B φ F vs xs) (hE : ∀ c d H, W c d σ H → E c d H)
    (o : Out B W (RV B) φ F H (call f vs s) σ Q) : spF B call f xs H Q E := by
  refine ⟨φ, F, s, vs, rp, r, ?_⟩
  revert o
  cases call f vs s with
  | none => exact fun h => h
  | some q =>
    obtain ⟨r, s1⟩ := q
    cases r with
    | ok v => exact fun h => h
    | error e => exact fun h φ' F' H' cls d a b c => hE _ _ _ (h φ' F' H' cls d a b c)
theorem e_call {f : Nat} {x : Str} {a : Addr} {k : Nat} {e : Expr} {es : List Expr} {cs : List Ex} {p pos : Pos} (fa : FnAt B X k C.call f a) (hr : Room k X.A) (tk : Takes X W) (hw : Flat W) (hg : Gl X x) (hm : X.mg x = some (.ref a)) (hk : PySem.W.keepIn X.K (.ref a) = true)
    (ha : PA X (e :: es) (tEs B W C cs)) (hs : (e :: es).all noStar = true) (hd : (x == ("__debug__" : Str)) = false) : PE X (.Call (.Name x p) (e :: es) [] pos) (tE B W C (.call f cs)) := by
  obtain ⟨s1, s2⟩ : noStar e = true ∧ es.all noStar = true := by simpa using hs
  obtain ⟨fd, ps, b, F⟩ := fa.ok
  refine PE_imp (pe_call F hr hg hm hk b .nil (every_passes tk) ha hd (star_cons s1) (star_any s2)) fun σ H Q ⟨φ, F, en, s, rp, re, o⟩ => tM_then (rel := RVs B) rp re o fun φ1 F1 H1 vs s1 xs le rp1 re1 r o1 => ?_
  rw [List.append_nil]
  exact sp_of rp1 r (fun c d H h σ' => hw c d σ σ' H h) o1
theorem e_call0 {f : Nat} {x : Str} {a : Addr} {k : Nat} {p pos : Pos} (fa : FnAt B X k C.call f a) (hr : Room k X.A) (tk : Takes X W) (hw : Flat W) (hg : Gl X x) (hm : X.mg x = some (.ref a)) (hk : PySem.W.keepIn X.K (.ref a) = true)
    (hd : (x == ("__debug__" : Str)) = false) : PE X (.Call (.Name x p) [] [] pos) (tE B W C (.call f [])) := by
  obtain ⟨fd, ps, b, F⟩ := fa.ok
  refine PE_imp (pe_call0 F hr hg hm hk b .nil (every_passes tk) hd) fun σ H Q ⟨φ, F, en, s, rp, re, o⟩ => ?_
  exact sp_of (vs := []) rp (show RVs B φ F [] [] from rfl) (fun c d H h σ' => hw c d σ σ' H h) o
/-- a new instance, its __init__ -/
theorem mk_in {φ : List Addr} {F : Hp} {s : Sto} {H : Hp} {c f : Nat} {vs : List Val} {xs : List V} {σ : L2.St} {Q : VK} {E : XK} {init : Nat → List Val → Sto → R Val} (rp : Rp B φ F s H) (r : RVs B φ F vs xs) (hc : B.okC c = true) (hE : ∀ c d H, W c d σ H → E c d H)
    (o : Out B W (RV B) φ F H (Ab.bnd (init f (.loc s.length :: vs) (s ++ [.inst c []])) fun r s1 => match r with
      | .non => Ab.ok (.loc s.length) s1
      | _ => none) σ Q) :
    ∀ x dx, H x = none → H dx = none → dx ≠ x → spF B init f (.ref x :: xs) (upd (upd H dx (.own x)) x (.ins (B.A c) dx [])) (fun v H2 => v = .non ∧ Q (.ref x) H2) E := by
  intro x dx hx hdx hne
  have rg : Rp B φ F s (upd H dx (.own x)) := rp.grow (same_upd hdx)
  obtain ⟨e, rp', at'⟩ := rg.placed (p := x) (by rw [upd_ne hne.symm]; exact hx) (o := .inst c []) (ho := .ins (B.A c) dx []) fun φ' e => ⟨dx, [], rfl, rfl, hc, rfl⟩
  have e' := (Ext.grow (φ := φ) (F := F) (same_upd hdx)).trans e
  have o' := Out.bnd (rel := RV B) (o.mono e')
  refine sp_of (W := W) (σ := σ) rp' (vs := .loc s.length :: vs) ⟨.ref x, xs, rfl, ⟨x, rfl, at'⟩, r.mono e'.le⟩ hE (o'.imp ?_)
  rintro y H2 ⟨φ2, F2, v, s2, ev, le, rp2, r2, o2⟩
  cases v with
  | non => exact ⟨r2, Out.now o2 rp2 ⟨x, rfl, le.le.p _ _ at'⟩⟩
  | _ => exact o2.elim
theorem e_mk {c : Nat} {x : Str} {a : Addr} {k : Nat} {e : Expr} {es : List Expr} {cs : List Ex} {p pos : Pos} (M : Mk X.K (B.A c) a) (fa : FnAt B X k C.init (C.T.init c) a) (hc : B.okC c = true) (hr : Room (k + 1) X.A) (tk : Takes X W) (hw : Flat W) (hg : Gl X x) (hm : X.mg x = some (.ref (B.A c)))
    (ha : PA X (e :: es) (tEs B W C cs)) (hs : (e :: es).all noStar = true) (hd : (x == ("__debug__" : Str)) = false) : PE X (.Call (.Name x p) (e :: es) [] pos) (tE B W C (.mk c cs)) := by
  obtain ⟨s1, s2⟩ : noStar e = true ∧ es.all noStar = true := by simpa using hs
  obtain ⟨fd, ps, b, F⟩ := fa.ok
  refine PE_imp (pe_make M F hr hg hm b .nil (every_passes tk) ha hd (star_cons s1) (star_any s2)) fun σ H Q ⟨φ, F, en, s, rp, re, o⟩ => tM_then (rel := RVs B) rp re o fun φ1 F1 H1 vs s1 xs le rp1 re1 r o1 => ?_
  rw [List.append_nil]
  exact mk_in rp1 r hc (fun c d H h σ' => hw c d σ σ' H h) o1
theorem e_mk0 {c : Nat} {x : Str} {a : Addr} {k : Nat} {p pos : Pos} (M : Mk X.K (B.A c) a) (fa : FnAt B X k C.init (C.T.init c) a) (hc : B.okC c = true) (hr : Room (k + 1) X.A) (tk : Takes X W) (hw : Flat W) (hg : Gl X x) (hm : X.mg x = some (.ref (B.A c)))
    (hd : (x == ("__debug__" : Str)) = false) : PE X (.Call (.Name x p) [] [] pos) (tE B W C (.mk c [])) := by
  obtain ⟨fd, ps, b, F⟩ := fa.ok
  refine PE_imp (pe_make0 M F hr hg hm b .nil (every_passes tk) hd) fun σ H Q ⟨φ, F, en, s, rp, re, o⟩ => ?_
  exact mk_in (vs := []) rp (show RVs B φ F [] [] from rfl) hc (fun c d H h σ' => hw c d σ σ' H h) o
/-- what every class of ours must have of a method's name -/
structure MthOk (B : Bs) (X : Cx) (k : Nat) (C : Ab.Ctx) (m : Nat) (x : Str) : Prop where
  cl : ∀ c, B.okC c = true → Cls X.K (B.A c)
  nf : ∀ f, B.okF f = true → B.fld f ≠ x
  at_ : ∀ c f, B.okC c = true → C.T.meth c m = some f → ∃ a, Meth X.K (B.A c) x a ∧ FnAt B X k C.call f a
theorem no_field {φ : List Addr} {F : Hp} {x : Str} : ∀ {fs : List (Nat × Val)} {xs : List (Str × V)}, RFs B φ F fs xs → (fs.all fun p => B.okF p.1) = true → (∀ f, B.okF f = true → B.fld f ≠ x) → xs.lookup x = none
  | [], xs, r, _, _ => by rw [show xs = [] from r]; rfl
  | p :: r, xs, ⟨y, t, e, h1, h2⟩, h, n => by
    obtain ⟨g1, g2⟩ : B.okF p.1 = true ∧ (r.all fun p => B.okF p.1) = true := by simpa using h
    have c : (x == B.fld p.1) = false := by simpa using fun z => n p.1 g1 z.symm
    rw [e, List.lookup_cons, c]
    exact no_field h2 g2 n
theorem told_at {φ : List Addr} {F : Hp} {s : Sto} {H : Hp} {k m : Nat} {x : Str} {l c f : Nat} {fs : List (Nat × Val)} {y : V} (M : MthOk B X k C m x) (rp : Rp B φ F s H) (r : RV B φ F (.loc l) y) (e : s[l]? = some (.inst c fs)) (h : C.T.meth c m = some f) :
    ∃ a g, y = .ref a ∧ Told X k x H a g (spF B C.call f) := by
  obtain ⟨a, dx, xs, rfl, ha, h1, h2, h3, h4⟩ := inst_at rp r e
  obtain ⟨g, M1, fa⟩ := M.at_ c f h3 h
  exact ⟨a, g, rfl, ⟨_, dx, xs, h1, no_field h2 h4 M.nf, M.cl c h3, M1⟩, fa.ok⟩
theorem e_meth {m : Nat} {x : Str} {k : Nat} {a e : Expr} {es : List Expr} {ca : Ex} {cs : List Ex} {apos pos : Pos} (M : MthOk B X k C m x) (hr : Room k X.A) (tk : Takes X W) (ho : PE X a (tE B W C ca)) (ha : PA X (e :: es) (tEs B W C cs)) (hb : noSup a = true)
    (hs : (e :: es).all noStar = true) (hl : (e :: es).length < 28) (hp : (apos.endLine == pos.line) = true) : PE X (.Call (.Attribute a x apos) (e :: es) [] pos) (tE B W C (.meth m ca cs)) :=
  PE_imp (pe_told hb hs hl hp ho ha hr tk) fun σ H Q ⟨φ, F, en, s, rp, re, o⟩ => tM_then (rel := RV B) rp re o fun φ1 F1 H1 v s1 y le rp1 re1 r o1 => by
    cases v with
    | loc l =>
      cases e1 : s1[l]? with
      | none => simp only [e1] at o1; exact o1.elim
      | some ob =>
        cases ob with
        | inst c fs =>
          cases e2 : C.T.meth c m with
          | none => simp only [e1, e2] at o1; exact o1.elim
          | some f =>
            simp only [e1, e2] at o1
            obtain ⟨p, g, rfl, T⟩ := told_at M rp1 r e1 e2
            refine ⟨p, g, _, rfl, T, tM_then (rel := RVs B) rp1 re1 o1 fun φ2 F2 H2 vs s2 xs le2 rp2 re2 rs o2 => ?_⟩
            exact sp_of (W := W) (σ := σ) (vs := .loc l :: vs) rp2 ⟨_, xs, rfl, r.mono le2.le, rs⟩ (fun c d H h => h) o2
        | _ => simp only [e1] at o1; exact o1.elim
    | _ => exact o1.elim
theorem e_meth0 {m : Nat} {x : Str} {k : Nat} {a : Expr} {ca : Ex} {apos pos : Pos} (M : MthOk B X k C m x) (hr : Room k X.A) (tk : Takes X W) (ho : PE X a (tE B W C ca)) (hb : noSup a = true) (hp : (apos.endLine == pos.line) = true) :
    PE X (.Call (.Attribute a x apos) [] [] pos) (tE B W C (.meth m ca [])) :=
  PE_imp (pe_told0 hb hp ho hr tk) fun σ H Q ⟨φ, F, en, s, rp, re, o⟩ => tM_then (rel := RV B) rp re o fun φ1 F1 H1 v s1 y le rp1 re1 r o1 => by
    cases v with
    | loc l =>
      cases e1 : s1[l]? with
      | none => simp only [e1] at o1; exact o1.elim
      | some ob =>
        cases ob with
        | inst c fs =>
          cases e2 : C.T.meth c m with
          | none => simp only [e1, e2] at o1; exact o1.elim
          | some f =>
            simp only [e1, e2] at o1
            obtain ⟨p, g, rfl, T⟩ := told_at M rp1 r e1 e2
            exact ⟨p, g, _, rfl, T, sp_of (W := W) (σ := σ) (vs := [.loc l]) rp1 ⟨_, [], rfl, r, rfl⟩ (fun c d H h => h) o1⟩
        | _ => simp only [e1] at o1; exact o1.elim
    | _ => exact o1.elim
/-! ### .. whose last parameter may lack -/
structure FnAt1 (B : Bs) (X : Cx) (k : Nat) (call : Nat → List Val → Sto → R Val) (f : Nat) (a : Addr) (y : Str) : Prop where
  ok : ∃ fd ps, Takes1 X.K fd ps y (.bl false) ∧ FnOk X.prog X.w X.K X.mg X.base (L2.CX X.prog X.w) k a fd ps (spF B call f)
structure Mth1 (B : Bs) (X : Cx) (k : Nat) (C : Ab.Ctx) (m : Nat) (x y : Str) : Prop where
  cl : ∀ c, B.okC c = true → Cls X.K (B.A c)
  nf : ∀ f, B.okF f = true → B.fld f ≠ x
  at_ : ∀ c f, B.okC c = true → C.T.meth c m = some f → ∃ a, Meth X.K (B.A c) x a ∧ FnAt1 B X k C.call f a y
theorem told1_at {φ : List Addr} {F : Hp} {s : Sto} {H : Hp} {k m : Nat} {x y : Str} {l c f : Nat} {fs : List (Nat × Val)} {z : V} (M : Mth1 B X k C m x y) (rp : Rp B φ F s H) (r : RV B φ F (.loc l) z) (e : s[l]? = some (.inst c fs)) (h : C.T.meth c m = some f) :
    ∃ a g, z = .ref a ∧ Told1 X k x y (.bl false) H a g (spF B C.call f) := by
  obtain ⟨a, dx, xs, rfl, _, h1, h2, h3, h4⟩ := inst_at rp r e
  obtain ⟨g, M1, fa⟩ := M.at_ c f h3 h
  exact ⟨a, g, rfl, ⟨⟨_, dx, xs, h1, no_field h2 h4 M.nf, M.cl c h3, M1⟩, fa.ok⟩⟩
theorem e_methD {m : Nat} {x y : Str} {k : Nat} {a e : Expr} {es : List Expr} {ca : Ex} {cs : List Ex} {apos pos : Pos} (M : Mth1 B X k C m x y) (hr : Room k X.A) (tk : Takes X W) (hw : Flat W) (ho : PE X a (tE B W C ca)) (ha : PA X (e :: es) (tEs B W C cs)) (hb : noSup a = true)
    (hs : (e :: es).all noStar = true) (hl : (e :: es).length < 28) (hp : (apos.endLine == pos.line) = true) : PE X (.Call (.Attribute a x apos) (e :: es) [] pos) (tE B W C (.methD m ca cs)) :=
  PE_imp (pe_lack (y := y) (d := .bl false) hb hs hl hp ho ha hr tk) fun σ H Q ⟨φ, F, en, s, rp, re, o⟩ => tM_then (rel := RV B) rp re o fun φ1 F1 H1 v s1 z le rp1 re1 r o1 => by
    cases v with
    | loc l =>
      cases e1 : s1[l]? with
      | none => simp only [e1] at o1; exact o1.elim
      | some ob =>
        cases ob with
        | inst c fs =>
          cases e2 : C.T.meth c m with
          | none => simp only [e1, e2] at o1; exact o1.elim
          | some f =>
            simp only [e1, e2] at o1
            obtain ⟨p, g, rfl, T⟩ := told1_at M rp1 r e1 e2
            refine ⟨p, g, _, rfl, T, tM_then (rel := RVs B) rp1 re1 o1 fun φ2 F2 H2 vs s2 xs le2 rp2 re2 rs o2 => ?_⟩
            exact sp_of (W := W) (σ := σ) (vs := .loc l :: (vs ++ [.bl false])) rp2 ⟨_, _, rfl, r.mono le2.le, rs.append (show RVs B φ2 F2 [.bl false] [.bl false] from ⟨_, [], rfl, rfl, rfl⟩)⟩ (fun c d H h σ' => hw c d σ σ' H h) o2
        | _ => simp only [e1] at o1; exact o1.elim
    | _ => exact o1.elim
theorem e_methK {m : Nat} {x y : Str} {k : Nat} {a e w : Expr} {es : List Expr} {ca cw : Ex} {cs : List Ex} {apos pos kp : Pos} (M : Mth1 B X k C m x y) (hr : Room k X.A) (tk : Takes X W) (hw : Flat W) (ho : PE X a (tE B W C ca)) (ha : PA X (e :: es) (tEs B W C cs)) (hz : PE X w (tE B W C cw)) (hb : noSup a = true)
    (hs : (e :: es).all noStar = true) (hl : (e :: es).length < 28) (hp : (apos.endLine == pos.line) = true) : PE X (.Call (.Attribute a x apos) (e :: es) [⟨some y, w, kp⟩] pos) (tE B W C (.methK m ca cs cw)) :=
  PE_imp (pe_key (y := y) (d := .bl false) hb hs hl hp ho ha hz hr tk) fun σ H Q ⟨φ, F, en, s, rp, re, o⟩ => tM_then (rel := RV B) rp re o fun φ1 F1 H1 v s1 z le rp1 re1 r o1 => by
    cases v with
    | loc l =>
      cases e1 : s1[l]? with
      | none => simp only [e1] at o1; exact o1.elim
      | some ob =>
        cases ob with
        | inst c fs =>
          cases e2 : C.T.meth c m with
          | none => simp only [e1, e2] at o1; exact o1.elim
          | some f =>
            simp only [e1, e2] at o1
            obtain ⟨p, g, rfl, T⟩ := told1_at M rp1 r e1 e2
            refine ⟨p, g, _, rfl, T, tM_then (rel := RVs B) rp1 re1 o1 fun φ2 F2 H2 vs s2 xs le2 rp2 re2 rs o2 => tM_then (rel := RV B) rp2 re2 o2 fun φ3 F3 H3 u s3 y' le3 rp3 re3 ru o3 => ?_⟩
            exact sp_of (W := W) (σ := σ) (vs := .loc l :: (vs ++ [u])) rp3 ⟨_, _, rfl, r.mono (le2.le.trans le3.le), (rs.mono le3.le).append (show RVs B φ3 F3 [u] [y'] from ⟨_, [], rfl, ru, rfl⟩)⟩ (fun c d H h σ' => hw c d σ σ' H h) o3
        | _ => simp only [e1] at o1; exact o1.elim
    | _ => exact o1.elim
/-! ### constants of the module; max with default; len(set(..)) -/
/-- a constant that is one value -/
def GOne (B : Bs) (X : Cx) (w : Val) (n : Str) : Prop := ∃ u v, X.mg n = some u ∧ RelV v u ∧ ∀ φ F, RV B φ F w v
/-- a constant that is a tuple -/
def GTup (B : Bs) (X : Cx) (ws : List Val) (n : Str) : Prop := ∃ a xs, X.mg n = some (.ref a) ∧ (∀ H, SqT B.K H a xs) ∧ ∀ φ F, RVs B φ F ws xs
theorem e_glob {g : Nat} {n : Str} {pos : Pos} (hg : Gl X n) (hd : (n == ("__debug__" : Str)) = false) (h : GOne B X ((C.T.gv g).headD .non) n) : PE X (.Name n pos) (tE B W C (.glob g)) := by
  obtain ⟨u, v, h1, h2, h3⟩ := h
  exact PE_imp (pe_glob hg h1 h2 hd) fun σ H Q ⟨φ, F, en, s, rp, re, o⟩ => Out.now (a := (C.T.gv g).headD .non) o rp (h3 φ F)
theorem inK_ok {g : Nat} {n : Str} {neg : Bool} {a : Expr} {c : Ex} {pos p : Pos} (hK : X.K = B.K) (hg : Gl X n) (hd : (n == ("__debug__" : Str)) = false) (h : GTup B X (C.T.gv g) n) (ha : PE X a (tE B W C c)) :
    ∃ t2, PE X (.Name n p) t2 ∧ ∀ σ H Q, tE B W C (.inK g neg c) σ H Q → tOp (rIn X.K neg) (tE B W C c) t2 σ H Q := by
  obtain ⟨b, xs, h1, h2, h3⟩ := h
  refine ⟨tC (.ref b), pe_glob hg h1 (show RelV (.ref b) (Value.ref b) from rfl) hd, fun σ H Q ⟨φ, F, en, s, rp, re, o⟩ => ?_⟩
  refine tM_then (rel := RV B) rp re o fun φ1 F1 H1 v s1 x le rp1 re1 r o1 => ?_
  cases e : Ab.inT v (C.T.gv g) with
  | none => rw [e] at o1; exact o1.elim
  | some k =>
    rw [e] at o1
    rw [hK]
    exact inT_ok r (h3 φ1 F1) (h2 H1) e (Out.now (a := Val.bl (if neg = true then !k else k)) o1 rp1 rfl)
theorem e_inK {g : Nat} {n : Str} {neg : Bool} {a : Expr} {c : Ex} {pos p : Pos} (hK : X.K = B.K) (hg : Gl X n) (hd : (n == ("__debug__" : Str)) = false) (h : GTup B X (C.T.gv g) n) (ha : PE X a (tE B W C c)) :
    PE X (.Compare a [inOp neg] [.Name n p] pos) (tE B W C (.inK g neg c)) := by
  obtain ⟨t2, h2, k⟩ := inK_ok (neg := neg) (pos := pos) (p := p) hK hg hd h ha
  exact PE_imp (pe_cmpR (op_inF neg) ha h2 (mark_of rfl)) k
theorem t_inK {g : Nat} {n : Str} {neg : Bool} {a : Expr} {c : Ex} {pos p : Pos} (hK : X.K = B.K) (hg : Gl X n) (hd : (n == ("__debug__" : Str)) = false) (h : GTup B X (C.T.gv g) n) (ha : PE X a (tE B W C c)) :
    PT X (.Compare a [inOp neg] [.Name n p] pos) (tT B W C (.inK g neg c)) := by
  obtain ⟨t2, h2, k⟩ := inK_ok (neg := neg) (pos := pos) (p := p) hK hg hd h ha
  exact t_cmp (op_inF neg) ha h2 (mark_of rfl) k
theorem e_listK {g : Nat} {n : Str} {m : Bool} {pos p p2 : Pos} (hK : X.K = B.K) (hg0 : Gl X "list") (hm0 : X.mg "list" = none) (hg : Gl X n) (hd : (n == ("__debug__" : Str)) = false) (h : GTup B X (C.T.gv g) n) :
    PE X (.Call (.Name "list" p) [.Name n p2] [] pos) (tE B W C (.listK g m)) := by
  obtain ⟨b, xs, h1, h2, h3⟩ := h
  have one : PE X (.Name n p2) (tC (.ref b)) := pe_glob hg h1 (show RelV (.ref b) (Value.ref b) from rfl) hd
  refine PE_imp (pe_callTy call_list_of hg0 hm0 (by decide +kernel) (pa_cons one pa_nil (star_cons rfl)) (by decide +kernel) (by decide +kernel) (star_cons rfl) (star_any (es := []) rfl)) fun σ H Q ⟨φ, F, en, s, rp, re, o⟩ => ?_
  refine ⟨b, xs, rfl, ?_, fun l hl => new_lst rp o (h3 φ F) hl⟩
  rw [hK]
  exact .inr (h2 H)
theorem foldl_max : ∀ (r : List Int) (n : Int), r.foldl max n = r.foldl (fun a b => if b > a then b else a) n
  | [], _ => rfl
  | k :: r, n => by
    have e : max n k = if k > n then k else n := by
      by_cases c : k > n
      · rw [if_pos c]; omega
      · rw [if_neg c]; omega
    rw [List.foldl_cons, List.foldl_cons, foldl_max r, e]
theorem e_maxD {e : Expr} {c : Ex} {j : Nat} {p p2 pos kp : Pos} (hK : X.K = B.K) (hc : X.calm = true) (hu : X.A.units + 40 < cLine) (hg : Gl X "max") (hm : X.mg "max" = none) (he : PE X e (tE B W C c)) (hs : noStar e = true) :
    PE X (.Call (.Name "max" p) [e] [⟨some "default", .Constant (.int 0) j p2, kp⟩] pos) (tE B W C (.maxD c)) := by
  have base := pe_callBK (x := "max") (p := p) (pos := pos) (cr_maxD (X := X) hc hu) hg hm (by decide +kernel) (pa_cons he pa_nil (star_cons hs)) (kws := [⟨some "default", .Constant (.int 0) j p2, kp⟩]) (pk_cons pe_int pk_nil) (by decide +kernel) (by decide +kernel)
    (by rw [star_cons hs]; rfl) (by rw [star_cons hs]; rfl) rfl rfl rfl
  refine PE_imp base fun σ H Q ⟨φ, F, en, s, rp, re, o⟩ => ?_
  refine tM_then (rel := RV B) rp re o fun φ1 F1 H1 v s1 x le rp1 re1 r o1 => ?_
  simp only [Ab.biV] at o1
  cases e1 : Ab.lstOf s1 v with
  | none => rw [e1] at o1; exact o1.elim
  | some ws =>
    cases e2 : Ab.intsOf ws with
    | none => rw [e1] at o1; simp only [Option.bind_some, e2] at o1; exact o1.elim
    | some ns =>
      rw [e1] at o1
      simp only [Option.bind_some, e2, Option.map_some] at o1
      obtain ⟨a, ys, rfl, h1, hv⟩ := lst_at rp1 e1 r
      have e3 := ints_ok e2 hv
      subst e3
      rw [hK]
      refine ⟨a, ns, 0, rfl, rfl, SqL.of h1, Out.now (a := Val.int (ns.foldl (fun a b => if b > a then b else a) (ns.headD 0))) o1 rp1 ?_⟩
      cases ns with
      | nil => rfl
      | cons n ns =>
        refine congrArg V.int ?_
        show ns.foldl max n = ns.foldl (fun a b => if b > a then b else a) (if n > n then n else n)
        rw [foldl_max]
        simp
theorem unl_str (xs : List Ab.Txt) : ∀ i, Ab.unl (xs.map str) i = Ab.unl xs i
  | 0 => rfl
  | i + 1 => by
    have mem : ∀ x : Ab.Txt, str x ∈ (xs.map str).take i ↔ x ∈ xs.take i := fun x => by
      rw [← List.map_take, List.mem_map]
      exact ⟨fun ⟨y, h1, h2⟩ => str_inj.mp h2 ▸ h1, fun h => ⟨x, h, rfl⟩⟩
    simp only [Ab.unl, unl_str xs i, List.getElem?_map]
    cases xs[i]? with
    | none => rfl
    | some x =>
      simp only [Option.map_some]
      by_cases h : x ∈ xs.take i <;> simp [mem, h]
theorem e_lenset {e : Expr} {c : Ex} {p p2 q pos : Pos} (hK : X.K = B.K) (hc : X.calm = true) (hg : Gl X "len") (hm : X.mg "len" = none) (hg2 : Gl X "set") (hm2 : X.mg "set" = none) (he : PE X e (tE B W C c)) (hs : noStar e = true) :
    PE X (.Call (.Name "len" p) [.Call (.Name "set" p2) [e] [] q] [] pos) (tE B W C (.lenset c)) := by
  refine PE_imp (pe_lenS hc hg hm hg2 hm2 he (star_cons hs)) fun σ H Q ⟨φ, F, en, s, rp, re, o⟩ => ?_
  refine tM_then (rel := RV B) rp re o fun φ1 F1 H1 v s1 x le rp1 re1 r o1 => ?_
  simp only [Ab.biV] at o1
  cases e1 : Ab.lstOf s1 v with
  | none => rw [e1] at o1; exact o1.elim
  | some ws =>
    cases e2 : Ab.strsOf ws with
    | none => rw [e1] at o1; simp only [Option.bind_some, e2] at o1; exact o1.elim
    | some ts =>
      rw [e1] at o1
      simp only [Option.bind_some, e2] at o1
      split at o1
      · rename_i c4
        obtain ⟨a, ys, rfl, h1, hv⟩ := lst_at rp1 e1 r
        obtain ⟨rfl, _⟩ := strs_ok e2 hv
        rw [hK]
        refine ⟨a, ts.map str, rfl, SqL.of h1, by simpa using c4, ?_⟩
        rw [unl_str, List.length_map]
        exact Out.now (a := Val.int (Ab.unl ts ts.length : Nat)) o1 rp1 rfl
      · exact o1.elim
end Sn
end
section
set_option Elab.async false
set_option linter.all false
set_option autoImplicit false
set_option maxRecDepth 100000
set_option maxHeartbeats 4000000
/-! What is walked; comprehensions. -/
namespace Sn
open PySem L2
open Ab (Val SO Sto Exc R toD toDs BM BI Ex Stm Tg Walk)
variable {B : Bs} {X : Cx} {W : WX} {C : Ab.Ctx}
/-! ### an object that is not ours -/
section
variable {φ : List Addr} {F H : Hp} {s : Sto} {D : Addr} {o o' : HO}
theorem del_up (h : H D = some o) : upd (del H D) D o = H := by
  funext b
  by_cases c : b = D
  · rw [c, upd_same, h]
  · rw [upd_ne c, del_ne c]
theorem Rp.drop (r : Rp B φ F s H) (hF : F D = none) (hp : ∀ l : Nat, φ[l]? ≠ some D) : Rp B φ F s (del H D) := by
  refine ⟨r.len, r.nd, fun l u e => ?_, fun a u e => ?_, r.ap⟩
  · obtain ⟨a, ho, e1, e2, e3⟩ := r.obj l u e
    exact ⟨a, ho, e1, by rw [del_ne fun z => hp l (by rw [← z]; exact e1)]; exact e2, e3⟩
  · rw [del_ne fun z => by rw [z, hF] at e; cases e]
    exact r.fz a u e
theorem Rp.other (r : Rp B φ F s H) (hF : F D = none) (hp : ∀ l : Nat, φ[l]? ≠ some D) : Rp B φ F s (upd H D o) := by
  refine ⟨r.len, r.nd, fun l u e => ?_, fun a u e => ?_, r.ap⟩
  · obtain ⟨a, ho, e1, e2, e3⟩ := r.obj l u e
    exact ⟨a, ho, e1, by rw [upd_ne fun z => hp l (by rw [← z]; exact e1)]; exact e2, e3⟩
  · rw [upd_ne fun z => by rw [z, hF] at e; cases e]
    exact r.fz a u e
theorem Rp.adoptF (r : Rp B φ F s H) (hF : F D = none) (hp : ∀ l : Nat, φ[l]? ≠ some D) (h : H D = some o) : Rp B φ (upd F D o) s H := by
  have := ((r.drop hF hp).frozen del_same o).2
  rw [del_up h] at this
  exact this
theorem Rp.adoptL (r : Rp B φ F s H) (hF : F D = none) (hp : ∀ l : Nat, φ[l]? ≠ some D) (h : H D = some o) {so : SO} (ro : ∀ φ', Le φ F φ' F → RO B φ' F so o) :
    Le φ F (φ ++ [D]) F ∧ Rp B (φ ++ [D]) F (s ++ [so]) H ∧ (φ ++ [D])[s.length]? = some D := by
  obtain ⟨a, b, c⟩ := (r.drop hF hp).placed del_same (o := so) (ho := o) ro
  rw [del_up h] at b
  exact ⟨a.le, b, c⟩
/-- where D is free of what is ours -/
structure Away (D : Addr) (φ : List Addr) (F : Hp) : Prop where
  f : F D = none
  p : ∀ l : Nat, φ[l]? ≠ some D
theorem Away.ext {φ' : List Addr} {F' H' : Hp} (a : Away D φ F) (e : Ext φ F H φ' F' H') (h : H D = some o) (hn : ∀ xs, o ≠ .tup xs := by intro _ z; cases z) : Away D φ' F' ∧ H' D = some o := by
  refine ⟨⟨?_, fun l z => ?_⟩, e.keep D o h a.p⟩
  · cases q : F' D with
    | none => rfl
    | some u =>
      rcases e.fnew D u q with z | z | ⟨xs, z⟩
      · rw [a.f] at z; cases z
      · rw [h] at z; cases z
      · rw [h] at z
        exact absurd (Option.some.inj z) (hn xs)
  · rcases e.pnew l D z with y | y
    · exact a.p l y
    · rw [h] at y; cases y
end
/-! ### what a loop walks -/
/-- J walks the items of w as long as what it walks stands -/
structure Wk (B : Bs) (φ : List Addr) (F : Hp) (w : Walk) (J : L2.It) : Prop where
  go : ∀ φ' F' s' H' (i : Nat) v, Le φ F φ' F' → Rp B φ' F' s' H' → Ab.still w.2 s' = true → w.1[i]? = some v → J.go i H' ∧ ∀ x H2, J.yld i H' x H2 → ∃ φ2 F2, Ext φ' F' H' φ2 F2 H2 ∧ Rp B φ2 F2 s' H2 ∧ RV B φ2 F2 v x
  stop : ∀ φ' F' s' H', Le φ F φ' F' → Rp B φ' F' s' H' → Ab.still w.2 s' = true → J.stop w.1.length H'
theorem Wk.mono {φ φ' : List Addr} {F F' : Hp} {w : Walk} {J : L2.It} (k : Wk B φ F w J) (e : Le φ F φ' F') : Wk B φ' F' w J :=
  ⟨fun φ2 F2 s2 H2 i v e2 => k.go φ2 F2 s2 H2 i v (e.trans e2), fun φ2 F2 s2 H2 e2 => k.stop φ2 F2 s2 H2 (e.trans e2)⟩
abbrev relW (B : Bs) : Rel Walk L2.It := fun φ F w J => Wk B φ F w J
abbrev tI (B : Bs) (W : WX) (C : Ab.Ctx) (it : Ab.It) : TI := tM B W (relW B) (Ab.evi C it)
/-- a list as it stands: from what it holds whenever it is looked at -/
theorem wk_list {φ : List Addr} {F : Hp} {w : Walk} {a : Addr} (h : ∀ φ' F' s' H', Le φ F φ' F' → Rp B φ' F' s' H' → Ab.still w.2 s' = true → ∃ xs, SqL B.K H' a xs ∧ RVs B φ' F' w.1 xs) : Wk B φ F w (Itl B.K a) where
  go := fun φ' F' s' H' i v e rp st hi => by
    obtain ⟨xs, h1, h2⟩ := h φ' F' s' H' e rp st
    obtain ⟨x, g1, g2⟩ := h2.got hi
    refine ⟨⟨xs, x, h1, g1⟩, ?_⟩
    rintro y H2 ⟨rfl, q⟩
    have := q xs h1
    rw [g1] at this
    cases this
    exact ⟨φ', F', Ext.refl _ _ _, rp, g2⟩
  stop := fun φ' F' s' H' e rp st => by
    obtain ⟨xs, h1, h2⟩ := h φ' F' s' H' e rp st
    exact ⟨xs, h1, by rw [h2.length]; exact Nat.le_refl _⟩
theorem wk_tup {φ : List Addr} {F : Hp} {vs : List Val} {xs : List V} {a : Addr} (hf : F a = some (.tup xs)) (r : RVs B φ F vs xs) : Wk B φ F (vs, none) (Itt B.K a) where
  go := fun φ' F' s' H' i v e rp st hi => by
    have h1 : SqT B.K H' a xs := SqT.of (rp.fz _ _ (e.f _ _ hf))
    obtain ⟨x, g1, g2⟩ := (r.mono e).got hi
    refine ⟨⟨xs, x, h1, g1⟩, ?_⟩
    rintro y H2 ⟨rfl, q⟩
    have := q xs h1
    rw [g1] at this
    cases this
    exact ⟨φ', F', Ext.refl _ _ _, rp, g2⟩
  stop := fun φ' F' s' H' e rp st => ⟨xs, SqT.of (rp.fz _ _ (e.f _ _ hf)), by show xs.length ≤ vs.length; rw [r.length]; exact Nat.le_refl _⟩
theorem wk_str {φ : List Addr} {F : Hp} {t : Ab.Txt} (g : good t) : Wk B φ F (t.map fun c => .str [c], none) (Its (str t)) where
  go := fun φ' F' s' H' i v e rp st hi => by
    rw [List.getElem?_map, Option.map_eq_some_iff] at hi
    obtain ⟨c, hc, rfl⟩ := hi
    have hl : i < t.length := (List.getElem?_eq_some_iff.mp hc).1
    refine ⟨by show i < (str t).cps.size; simpa [str] using hl, ?_⟩
    rintro y H2 ⟨rfl, d, hd, rfl⟩
    have : d = c := by
      have h2 : t[i]? = some d := by simpa [str] using hd
      rw [hc] at h2
      exact (Option.some.inj h2).symm
    subst this
    exact ⟨φ', F', Ext.refl _ _ _, rp, rfl, fun k hk => by rw [List.mem_singleton.mp hk]; exact g _ (List.mem_of_getElem? hc)⟩
  stop := fun φ' F' s' H' e rp st => by show (str t).cps.size ≤ _; simp [str]
theorem wk_rng {φ : List Addr} {F : Hp} {lo : Int} {n : Nat} : Wk B φ F (Ab.rngV lo n, none) (Itr lo n) where
  go := fun φ' F' s' H' i v e rp st hi => by
    have hi' : i < n ∧ Val.int (lo + (i : Nat)) = v := by
      have h := List.getElem?_eq_some_iff.mp hi
      obtain ⟨h1, h2⟩ := h
      have h1' : i < n := by simpa [Ab.rngV] using h1
      refine ⟨h1', ?_⟩
      rw [← h2]
      simp [Ab.rngV]
    refine ⟨hi'.1, ?_⟩
    rintro y H2 ⟨rfl, rfl⟩
    rw [← hi'.2]
    exact ⟨φ', F', Ext.refl _ _ _, rp, rfl⟩
  stop := fun φ' F' s' H' e rp st => by show n ≤ _; simp [Ab.rngV]
/-- what a value is walked as -/
theorem still_is {l : Nat} {vs : List Val} {s : Sto} (h : Ab.still (some (l, vs)) s = true) : s[l]? = some (.list vs) := by
  simp only [Ab.still] at h
  split at h
  · rename_i ws e
    rw [e, Ab.Val.beqs_eq _ _ h]
  · cases h
/-- which way a value is walked -/
inductive Way where
  | list | tup | str
def wayOf : Val → Way
  | .tup _ => .tup
  | .str _ => .str
  | _ => .list
theorem i_val {tg e : Expr} {c : Ex} (hK : X.K = B.K) (he : PE X e (tE B W C c)) : PI X tg e (tI B W C (.val c)) := by
  have base := PI_or (tg := tg) (pi_tup he) (PI_or (pi_str he) (pi_list he))
  refine ⟨fun pins s0 σ H R I h => base.run pins s0 σ H R I ?_⟩
  obtain ⟨φ, F, en, s, rp, re, o⟩ := h
  -- by what it comes to
  by_cases c1 : ∃ v s1, Ab.ev C c en s = some (.ok v, s1) ∧ wayOf v = .tup
  · obtain ⟨v0, s0', e0, w0⟩ := c1
    refine .inl (tM_thenE (rel := RV B) rp re o fun φ1 F1 H1 v s1 x e1 le rp1 re1 r o1 => ?_)
    rw [e0] at e1
    cases e1
    cases v0 with
    | tup vs =>
      obtain ⟨a, xs, rfl, hf, hv⟩ := r
      rw [hK]
      exact ⟨a, rfl, ⟨xs, SqT.of (rp1.fz _ _ hf)⟩, Out.now (a := (vs, none)) o1 rp1 (wk_tup hf hv)⟩
    | _ => cases w0
  · by_cases c2 : ∃ v s1, Ab.ev C c en s = some (.ok v, s1) ∧ wayOf v = .str
    · obtain ⟨v0, s0', e0, w0⟩ := c2
      refine .inr (.inl (tM_thenE (rel := RV B) rp re o fun φ1 F1 H1 v s1 x e1 le rp1 re1 r o1 => ?_))
      rw [e0] at e1
      cases e1
      cases v0 with
      | str t => exact ⟨str t, r.1, Out.now (rel := relW B) (a := (t.map fun c => Val.str [c], none)) o1 rp1 (wk_str r.2)⟩
      | _ => cases w0
    · refine .inr (.inr (tM_thenE (rel := RV B) rp re o fun φ1 F1 H1 v s1 x e1 le rp1 re1 r o1 => ?_))
      cases v with
      | tup vs => exact absurd ⟨_, _, e1, rfl⟩ c1
      | str t => exact absurd ⟨_, _, e1, rfl⟩ c2
      | lst vs =>
        obtain ⟨a, xs, rfl, hf, hv⟩ := r
        rw [hK]
        exact ⟨a, rfl, ⟨xs, SqL.of (rp1.fz _ _ hf)⟩, Out.now (a := (vs, none)) o1 rp1 (wk_list fun φ' F' s' H' e rp' st => ⟨xs, SqL.of (rp'.fz _ _ (e.f _ _ hf)), hv.mono e⟩)⟩
      | scr ns =>
        obtain ⟨a, rfl, ha⟩ := r
        rw [hK]
        have hv : ∀ (φ : List Addr) (F : Hp) (ns : List Int), RVs B φ F (ns.map .int) (ns.map V.int) := by
          intro φ F ns
          induction ns with
          | nil => rfl
          | cons n ns ih => exact ⟨_, _, rfl, rfl, ih⟩
        exact ⟨a, rfl, ⟨_, rp1.same.seq ha⟩, Out.now (a := (ns.map .int, none)) o1 rp1 (wk_list fun φ' F' s' H' e rp' st => ⟨_, rp'.same.seq (Same.seq (show Same F1 F' from e.f) ha), hv φ' F' ns⟩)⟩
      | loc l =>
        cases e2 : s1[l]? with
        | none => simp only [Ab.walkV, e2] at o1; exact o1.elim
        | some ob =>
          cases ob with
          | list vs =>
            simp only [Ab.walkV, e2] at o1
            obtain ⟨a, rfl, ha⟩ := r
            obtain ⟨ho, e3, xs, rfl, hv⟩ := rp1.at ha e2
            rw [hK]
            refine ⟨a, rfl, ⟨xs, SqL.of e3⟩, Out.now (a := (vs, some (l, vs))) o1 rp1 (wk_list fun φ' F' s' H' e rp' st => ?_)⟩
            obtain ⟨ho, e4, ys, rfl, hy⟩ := rp'.at (e.p _ _ ha) (still_is st)
            exact ⟨ys, SqL.of e4, hy⟩
          | _ => simp only [Ab.walkV, e2] at o1; exact o1.elim
      | _ => exact o1.elim
theorem rng_bounds {i j : Int} (h : Ab.rngOk i j = true) : -(2 ^ 62) ≤ i ∧ i < 2 ^ 62 ∧ -(2 ^ 62) ≤ j ∧ j < 2 ^ 62 := by
  have := of_decide_eq_true h
  omega
theorem i_rng1 {tg e : Expr} {c : Ex} {p pos : Pos} (hg : Gl X "range") (hm : X.mg "range" = none) (ha : PA X [e] (tEs B W C [c])) (hs : noStar e = true) : PI X tg (.Call (.Name "range" p) [e] [] pos) (tI B W C (.rng1 c)) := by
  have base := pi_range1 (tg := tg) (p := p) (pos := pos) hg hm ha (star_cons hs)
  refine ⟨fun pins s0 σ H R I ⟨φ, F, en, s, rp, re, o⟩ => base.run pins s0 σ H R I ?_⟩
  have e1 : Ab.evi C (.rng1 c) en s = Ab.bnd (Ab.evs C [c] en s) fun vs s => match vs with
      | [.int j] => if Ab.rngOk 0 j = true then Ab.ok (Ab.rngV 0 j.toNat, none) s else none
      | _ => none := by
    simp only [Ab.evi, Ab.evs]
    cases Ab.ev C c en s with
    | none => rfl
    | some q =>
      obtain ⟨r, s1⟩ := q
      cases r with
      | error _ => rfl
      | ok v => cases v <;> rfl
  rw [e1] at o
  refine tM_then (rel := RVs B) rp re o fun φ1 F1 H1 vs s1 xs le rp1 re1 r o1 => ?_
  split at o1
  · rename_i j
    split at o1
    · rename_i c'
      obtain ⟨y, rfl, ry⟩ := rv_one r
      have b := rng_bounds c'
      exact ⟨j, by rw [show y = _ from ry], b.2.2.1, b.2.2.2, Out.now o1 rp1 wk_rng⟩
    · exact o1.elim
  · exact o1.elim
theorem i_rng2 {tg a b : Expr} {ca cb : Ex} {p pos : Pos} (hg : Gl X "range") (hm : X.mg "range" = none) (ha : PA X [a, b] (tEs B W C [ca, cb])) (hs : noStar a = true) (hs2 : noStar b = true) : PI X tg (.Call (.Name "range" p) [a, b] [] pos) (tI B W C (.rng2 ca cb)) := by
  have base := pi_range2 (tg := tg) (p := p) (pos := pos) hg hm ha (by rw [star_cons hs, star_cons hs2]; rfl) (star_cons hs2)
  refine ⟨fun pins s0 σ H R I ⟨φ, F, en, s, rp, re, o⟩ => base.run pins s0 σ H R I ?_⟩
  have e1 : Ab.evi C (.rng2 ca cb) en s = Ab.bnd (Ab.evs C [ca, cb] en s) fun vs s => match vs with
      | [.int i, .int j] => if Ab.rngOk i j = true then Ab.ok (Ab.rngV i (j - i).toNat, none) s else none
      | _ => none := by
    simp only [Ab.evi, Ab.evs]
    cases Ab.ev C ca en s with
    | none => rfl
    | some q =>
      obtain ⟨r, s1⟩ := q
      cases r with
      | error _ => rfl
      | ok v =>
        simp only [Ab.bnd]
        cases Ab.ev C cb en s1 with
        | none => rfl
        | some q =>
          obtain ⟨r, s2⟩ := q
          cases r with
          | error _ => rfl
          | ok u => cases v <;> cases u <;> rfl
  rw [e1] at o
  refine tM_then (rel := RVs B) rp re o fun φ1 F1 H1 vs s1 xs le rp1 re1 r o1 => ?_
  split at o1
  · rename_i i j
    split at o1
    · rename_i c'
      obtain ⟨y, z, rfl, ry, rz⟩ := rv_two r
      exact ⟨i, j, by rw [show y = _ from ry, show z = _ from rz], rng_bounds c', Out.now o1 rp1 wk_rng⟩
    · exact o1.elim
  · exact o1.elim
/-! ### two in step; backwards -/
theorem zip_at : ∀ {vs ws : List Val} {i : Nat} {v : Val}, (Ab.zipV vs ws)[i]? = some v → ∃ a b, vs[i]? = some a ∧ ws[i]? = some b ∧ v = .tup [a, b]
  | [], ws, i, v, h => by simp [Ab.zipV] at h
  | a :: r, [], i, v, h => by simp [Ab.zipV] at h
  | a :: r, b :: t, 0, v, h => by
    simp [Ab.zipV] at h
    exact ⟨a, b, rfl, rfl, h.symm⟩
  | a :: r, b :: t, i + 1, v, h => by
    obtain ⟨x, y, h1, h2, h3⟩ := zip_at (vs := r) (ws := t) (i := i) (by simpa [Ab.zipV] using h)
    exact ⟨x, y, by simpa using h1, by simpa using h2, h3⟩
theorem zip_len : ∀ (vs ws : List Val), (Ab.zipV vs ws).length = min vs.length ws.length
  | [], ws => by simp [Ab.zipV]
  | a :: r, [] => by simp [Ab.zipV]
  | a :: r, b :: t => by
    have := zip_len r t
    simp only [Ab.zipV, List.length_cons, this]
    omega
theorem pair_new {φ : List Addr} {F H : Hp} {s : Sto} {T : Addr} {a b : Val} {x y : V} (rp : Rp B φ F s H) (ra : RV B φ F a x) (rb : RV B φ F b y) (hT : H T = none) :
    ∃ φ2 F2, Ext φ F H φ2 F2 (upd H T (.tup [x, y])) ∧ Rp B φ2 F2 s (upd H T (.tup [x, y])) ∧ RV B φ2 F2 (.tup [a, b]) (.ref T) := by
  obtain ⟨e, rp2⟩ := rp.frozen hT (.tup [x, y])
  exact ⟨φ, _, e, rp2, T, [x, y], rfl, upd_same, x, [y], rfl, ra.mono e.le, y, [], rfl, rb.mono e.le, rfl⟩
theorem wk_zipL {φ : List Addr} {F : Hp} {vs ws : List Val} {xs ys : List V} {a b : Addr} (h1 : F a = some (.lst xs)) (h2 : F b = some (.lst ys)) (r1 : RVs B φ F vs xs) (r2 : RVs B φ F ws ys) : Wk B φ F (Ab.zipV vs ws, none) (Itz B.K a b) where
  go := fun φ' F' s' H' i v e rp st hi => by
    have k1 : SqL B.K H' a xs := SqL.of (rp.fz _ _ (e.f _ _ h1))
    have k2 : SqL B.K H' b ys := SqL.of (rp.fz _ _ (e.f _ _ h2))
    obtain ⟨u, w, g1, g2, rfl⟩ := zip_at hi
    obtain ⟨x, e1, q1⟩ := (r1.mono e).got g1
    obtain ⟨y, e2, q2⟩ := (r2.mono e).got g2
    refine ⟨⟨xs, ys, x, y, k1, k2, e1, e2⟩, ?_⟩
    rintro z H2 ⟨T, x', y', rfl, hT, rfl, p1, p2⟩
    have := p1 xs k1
    rw [e1] at this
    cases this
    have := p2 ys k2
    rw [e2] at this
    cases this
    exact pair_new rp q1 q2 hT
  stop := fun φ' F' s' H' e rp st => by
    refine ⟨xs, ys, SqL.of (rp.fz _ _ (e.f _ _ h1)), SqL.of (rp.fz _ _ (e.f _ _ h2)), ?_⟩
    have := zip_len vs ws
    have := r1.length
    have := r2.length
    show xs.length ≤ (Ab.zipV vs ws).length ∨ ys.length ≤ (Ab.zipV vs ws).length
    omega
theorem wk_zipT {φ : List Addr} {F : Hp} {vs ws : List Val} {xs ys : List V} {a b : Addr} (h1 : F a = some (.tup xs)) (h2 : F b = some (.tup ys)) (r1 : RVs B φ F vs xs) (r2 : RVs B φ F ws ys) : Wk B φ F (Ab.zipV vs ws, none) (RZ.ItzT B.K a b) where
  go := fun φ' F' s' H' i v e rp st hi => by
    have k1 : SqT B.K H' a xs := SqT.of (rp.fz _ _ (e.f _ _ h1))
    have k2 : SqT B.K H' b ys := SqT.of (rp.fz _ _ (e.f _ _ h2))
    obtain ⟨u, w, g1, g2, rfl⟩ := zip_at hi
    obtain ⟨x, e1, q1⟩ := (r1.mono e).got g1
    obtain ⟨y, e2, q2⟩ := (r2.mono e).got g2
    refine ⟨⟨xs, ys, x, y, k1, k2, e1, e2⟩, ?_⟩
    rintro z H2 ⟨T, x', y', rfl, hT, rfl, p1, p2⟩
    have := p1 xs k1
    rw [e1] at this
    cases this
    have := p2 ys k2
    rw [e2] at this
    cases this
    exact pair_new rp q1 q2 hT
  stop := fun φ' F' s' H' e rp st => by
    refine ⟨xs, ys, SqT.of (rp.fz _ _ (e.f _ _ h1)), SqT.of (rp.fz _ _ (e.f _ _ h2)), ?_⟩
    have := zip_len vs ws
    have := r1.length
    have := r2.length
    show xs.length ≤ (Ab.zipV vs ws).length ∨ ys.length ≤ (Ab.zipV vs ws).length
    omega
theorem wk_zipM {φ : List Addr} {F : Hp} {vs ws : List Val} {xs : List V} {a b : Addr} {c : Option (Nat × List Val)} (h1 : F a = some (.tup xs)) (r1 : RVs B φ F vs xs)
    (h2 : ∀ φ' F' s' H', Le φ F φ' F' → Rp B φ' F' s' H' → Ab.still c s' = true → ∃ ys, SqL B.K H' b ys ∧ RVs B φ' F' ws ys) : Wk B φ F (Ab.zipV vs ws, c) (ItzM B.K a b) where
  go := fun φ' F' s' H' i v e rp st hi => by
    have k1 : SqT B.K H' a xs := SqT.of (rp.fz _ _ (e.f _ _ h1))
    obtain ⟨ys, k2, r2⟩ := h2 φ' F' s' H' e rp st
    obtain ⟨u, w, g1, g2, rfl⟩ := zip_at hi
    obtain ⟨x, e1, q1⟩ := (r1.mono e).got g1
    obtain ⟨y, e2, q2⟩ := r2.got g2
    refine ⟨⟨xs, ys, x, y, ⟨k1, e1⟩, k2, e2⟩, ?_⟩
    rintro z H2 ⟨T, x', y', rfl, hT, rfl, p1, p2⟩
    have := p1 xs k1
    rw [e1] at this
    cases this
    have := p2 ys k2
    rw [e2] at this
    cases this
    exact pair_new rp q1 q2 hT
  stop := fun φ' F' s' H' e rp st => by
    obtain ⟨ys, k2, r2⟩ := h2 φ' F' s' H' e rp st
    have := zip_len vs ws
    have := r1.length
    have := r2.length
    have e1 : (Ab.zipV vs ws).length ≤ xs.length := by omega
    have e2 : (Ab.zipV vs ws).length ≤ ys.length := by omega
    refine ⟨xs, ys, ⟨SqT.of (rp.fz _ _ (e.f _ _ h1)), e1⟩, ⟨k2, e2⟩, ?_⟩
    show (Ab.zipV vs ws).length = xs.length ∨ (Ab.zipV vs ws).length = ys.length
    omega
theorem i_zip {a b : Expr} {ca cb : Ex} {elts : List Expr} {kk : Nat} {tpos p pos : Pos} (hK : X.K = B.K) (hg : Gl X "zip") (hm : X.mg "zip" = none) (ha : PA X [a, b] (tEs B W C [ca, cb])) (hs : noStar a = true) (hs2 : noStar b = true) :
    PI X (.Tuple elts kk tpos) (.Call (.Name "zip" p) [a, b] [] pos) (tI B W C (.zip ca cb)) := by
  have st : starEach [a, b] X.env = (false, eval a X.env) :: starEach [b] X.env := star_cons hs
  have an : (backTo pos (starEach [b] X.env)).any (·.1) = false := star_any (es := [b]) (by simp [hs2])
  have base := PI_or (tg := .Tuple elts kk tpos) (RZ.pi_zipA (p := p) (pos := pos) (tpos := tpos) (elts := elts) (kk := kk) hg hm ha st an) (pi_zipM (p := p) (pos := pos) (tpos := tpos) (elts := elts) (kk := kk) hg hm ha st an)
  refine ⟨fun pins s0 σ H R I ⟨φ, F, en, s, rp, re, o⟩ => base.run pins s0 σ H R I ?_⟩
  have e1 : Ab.evi C (.zip ca cb) en s = Ab.bnd (Ab.evs C [ca, cb] en s) fun vs s => match vs with
      | [.tup xs, .tup ys] => Ab.ok (Ab.zipV xs ys, none) s
      | [.lst xs, .lst ys] => Ab.ok (Ab.zipV xs ys, none) s
      | [.tup xs, .lst ys] => Ab.ok (Ab.zipV xs ys, none) s
      | [.tup xs, .loc l] => (match s[l]? with
        | some (.list ys) => Ab.ok (Ab.zipV xs ys, some (l, ys)) s
        | _ => none)
      | _ => none := by
    simp only [Ab.evi, Ab.evs]
    cases Ab.ev C ca en s with
    | none => rfl
    | some q =>
      obtain ⟨r, s1⟩ := q
      cases r with
      | error _ => rfl
      | ok v =>
        simp only [Ab.bnd]
        cases Ab.ev C cb en s1 with
        | none => rfl
        | some q =>
          obtain ⟨r, s2⟩ := q
          cases r with
          | error _ => rfl
          | ok u => cases v <;> cases u <;> rfl
  rw [e1] at o
  by_cases hc : ∃ xs u s1, Ab.evs C [ca, cb] en s = some (.ok [.tup xs, u], s1) ∧ ∀ ys, u ≠ .tup ys
  · obtain ⟨ws0, u0, s0', e0, hu⟩ := hc
    refine .inr (tM_thenE (rel := RVs B) rp re o fun φ1 F1 H1 vs s1 xs e2 le rp1 re1 r o1 => ?_)
    rw [e0] at e2
    cases e2
    obtain ⟨y, z, rfl, ry, rz⟩ := rv_two r
    obtain ⟨pa, ys, rfl, hf, hv⟩ := ry
    rw [hK]
    cases u0 with
    | tup ys => exact absurd rfl (hu _)
    | lst ws =>
      obtain ⟨pb, zs, rfl, hf2, hv2⟩ := rz
      exact ⟨pa, pb, ys, zs, rfl, ⟨SqT.of (rp1.fz _ _ hf), SqL.of (rp1.fz _ _ hf2)⟩, Out.now (rel := relW B) (a := (Ab.zipV ws0 ws, none)) o1 rp1 (wk_zipM hf hv fun φ' F' s' H' e rp' st => ⟨zs, SqL.of (rp'.fz _ _ (e.f _ _ hf2)), hv2.mono e⟩)⟩
    | loc l =>
      obtain ⟨pb, rfl, hb⟩ := rz
      cases e3 : s0'[l]? with
      | none => simp only [e3] at o1; exact o1.elim
      | some ob =>
        cases ob with
        | list ws =>
          simp only [e3] at o1
          obtain ⟨ho, e4, zs, rfl, hv2⟩ := rp1.at hb e3
          refine ⟨pa, pb, ys, zs, rfl, ⟨SqT.of (rp1.fz _ _ hf), SqL.of e4⟩, Out.now (rel := relW B) (a := (Ab.zipV ws0 ws, some (l, ws))) o1 rp1 (wk_zipM hf hv fun φ' F' s' H' e rp' st => ?_)⟩
          obtain ⟨ho, e5, us, rfl, hy⟩ := rp'.at (e.p _ _ hb) (still_is st)
          exact ⟨us, SqL.of e5, hy⟩
        | _ => simp only [e3] at o1; exact o1.elim
    | _ => exact o1.elim
  · refine .inl (tM_thenE (rel := RVs B) rp re o fun φ1 F1 H1 vs s1 xs e2 le rp1 re1 r o1 => ?_)
    rw [hK]
    split at o1
    · obtain ⟨y, z, rfl, ⟨pa, ys, rfl, hf, hv⟩, ⟨pb, zs, rfl, hf2, hv2⟩⟩ := rv_two r
      exact ⟨pa, pb, ys, zs, rfl, .inr ⟨SqT.of (rp1.fz _ _ hf), SqT.of (rp1.fz _ _ hf2), Out.now (rel := relW B) o1 rp1 (wk_zipT hf hf2 hv hv2)⟩⟩
    · obtain ⟨y, z, rfl, ⟨pa, ys, rfl, hf, hv⟩, ⟨pb, zs, rfl, hf2, hv2⟩⟩ := rv_two r
      exact ⟨pa, pb, ys, zs, rfl, .inl ⟨SqL.of (rp1.fz _ _ hf), SqL.of (rp1.fz _ _ hf2), Out.now (rel := relW B) o1 rp1 (wk_zipL hf hf2 hv hv2)⟩⟩
    · exact absurd ⟨_, _, _, e2, fun ys z => by cases z⟩ hc
    · exact absurd ⟨_, _, _, e2, fun ys z => by cases z⟩ hc
    · exact o1.elim
theorem wk_rev {φ : List Addr} {F : Hp} {n : Nat} {lo : Int} (hl : lo = (n : Int) - 1) : Wk B φ F ((Ab.rngV 0 n).reverse, none) (Itc lo (-1) n) where
  go := fun φ' F' s' H' i v e rp st hi => by
    have hl2 : (Ab.rngV 0 n).length = n := by simp [Ab.rngV]
    have hi2 : i < n := by
      have := (List.getElem?_eq_some_iff.mp hi).1
      simpa [hl2] using this
    have hv : v = .int ((n - 1 - i : Nat) : Int) := by
      have h := hi
      simp only [] at h
      rw [List.getElem?_reverse (by rw [hl2]; exact hi2), hl2] at h
      have : (Ab.rngV 0 n)[n - 1 - i]? = some (.int ((n - 1 - i : Nat) : Int)) := by
        unfold Ab.rngV
        rw [List.getElem?_map, List.getElem?_range (by omega)]
        simp
      rw [this] at h
      exact (Option.some.inj h).symm
    refine ⟨hi2, ?_⟩
    rintro y H2 ⟨rfl, rfl⟩
    subst hv
    exact ⟨φ', F', Ext.refl _ _ _, rp, by show V.int _ = V.int _; congr 1; omega⟩
  stop := fun φ' F' s' H' e rp st => by show n ≤ _; simp [Ab.rngV]
theorem i_rrng {tg e : Expr} {c : Ex} {p p2 pos pos2 : Pos} (hg : Gl X "reversed") (hm : X.mg "reversed" = none) (hg2 : Gl X "range") (hm2 : X.mg "range" = none) (he : PE X e (tE B W C c)) (hs : noStar e = true) :
    PI X tg (.Call (.Name "reversed" p) [.Call (.Name "range" p2) [e] [] pos2] [] pos) (tI B W C (.rrng c)) := by
  have base := pi_revR (tg := tg) (p := p) (pos := pos) hg hm (prg_1 (p := p2) (pos := pos2) hg2 hm2 he (star_cons hs)) (star_cons rfl)
  refine ⟨fun pins s0 σ H R I ⟨φ, F, en, s, rp, re, o⟩ => base.run pins s0 σ H R I ?_⟩
  refine tM_then (rel := RV B) rp re o fun φ1 F1 H1 v s1 x le rp1 re1 r o1 => ?_
  cases v with
  | int j =>
    dsimp only at o1
    split at o1
    · rename_i c'
      have b := rng_bounds c'
      refine ⟨j, r, by decide, by decide, b.2.2.1, b.2.2.2, ?_⟩
      have e2 : (j - 0).toNat = j.toNat := by omega
      rw [e2]
      exact Out.now (rel := relW B) (a := ((Ab.rngV 0 j.toNat).reverse, none)) o1 rp1 (wk_rev (by omega))
    · exact o1.elim
  | _ => exact o1.elim
/-! ### targets -/
def gNames : List Nat → TGs
  | [] => gNil
  | i :: is => gCons (gName i) (gNames is)
def gT (K : PySem.W.Frag) : Tg → TG
  | .name i => gName i
  | .names is => gTup K is.length (gNames is)
def slots : Tg → List Nat
  | .name i => [i]
  | .names is => is
theorem wipe_len (σ : L2.St) (vs : List Nat) : (L2.wipe σ vs).length = σ.length := wipe_length σ vs
theorem wipe_at (σ : L2.St) : ∀ (vs : List Nat) (i : Nat), (L2.wipe σ vs)[i]? = if i ∈ vs then σ[i]?.map (fun _ => none) else σ[i]?
  | [], i => by simp [L2.wipe]
  | v :: vs, i => by
    have ih := wipe_at σ vs i
    show ((L2.wipe σ vs).set v none)[i]? = _
    rw [List.getElem?_set]
    by_cases c : v = i
    · subst c
      have hl := wipe_len σ vs
      by_cases d : v < σ.length
      · simp [hl, d]
      · simp [hl, d, List.getElem?_eq_none (Nat.le_of_not_lt d)]
    · have c' : ¬ i = v := fun z => c z.symm
      simp only [if_neg c, ih, List.mem_cons, c', false_or]
theorem wipe_set {σ : L2.St} {j : Nat} {y : Option V} {vs : List Nat} (h : j ∈ vs) : L2.wipe (σ.set j y) vs = L2.wipe σ vs := by
  apply List.ext_getElem?
  intro i
  rw [wipe_at, wipe_at, List.getElem?_set]
  by_cases c : j = i
  · subst c
    by_cases d : j < σ.length <;> simp [h, d]
  · simp [c]
theorem wipe_twice (σ : L2.St) (vs : List Nat) : L2.wipe (L2.wipe σ vs) vs = L2.wipe σ vs := by
  apply List.ext_getElem?
  intro i
  rw [wipe_at, wipe_at]
  by_cases c : i ∈ vs
  · rw [if_pos c, if_pos c]
    cases σ[i]? <;> rfl
  · rw [if_neg c, if_neg c]
theorem names_ok {φ : List Addr} {F H : Hp} : ∀ {is : List Nat} {vs : List Val} {xs : List V} {en en1 : Ab.Env} {σ : L2.St} {Q : L2.St → Hp → Prop}, Ab.setAll en is vs = some en1 → RVs B φ F vs xs → REn B φ F en σ →
    (∀ σ', REn B φ F en1 σ' → (∀ ws, (∀ i ∈ is, i ∈ ws) → L2.wipe σ' ws = L2.wipe σ ws) → Q σ' H) → gNames is xs σ H Q
  | [], [], xs, en, en1, σ, Q, h, r, re, k => by
    cases h
    exact ⟨r, k σ re fun _ _ => rfl⟩
  | [], _ :: _, _, _, _, _, _, h, _, _, _ => by cases h
  | _ :: _, [], _, _, _, _, _, h, _, _, _ => by cases h
  | i :: is, v :: vs, xs, en, en1, σ, Q, h, ⟨x, t, e, h1, h2⟩, re, k => by
    refine ⟨x, t, e, ?_⟩
    have h' : Ab.setAll (en.set i (some v)) is vs = some en1 := h
    exact names_ok h' h2 (re.set h1 i) fun σ' re' hw => k σ' re' fun ws hs => by
      rw [hw ws fun j hj => hs j (List.mem_cons_of_mem _ hj), wipe_set (hs i List.mem_cons_self)]
theorem setAll_len : ∀ {is : List Nat} {vs : List Val} {en en1 : Ab.Env}, Ab.setAll en is vs = some en1 → vs.length = is.length
  | [], [], _, _, _ => rfl
  | [], _ :: _, _, _, h => by cases h
  | _ :: _, [], _, _, h => by cases h
  | i :: is, v :: vs, en, en1, h => by
    have h' : Ab.setAll (en.set i (some v)) is vs = some en1 := h
    simp [setAll_len h']
theorem bind_ok {φ : List Addr} {F H : Hp} {s : Sto} {tg : Tg} {v : Val} {x : V} {en en1 : Ab.Env} {σ : L2.St} {Q : L2.St → Hp → Prop} (rp : Rp B φ F s H) (h : Ab.bindT tg v en = some en1) (r : RV B φ F v x) (re : REn B φ F en σ)
    (k : ∀ σ', REn B φ F en1 σ' → (∀ ws, (∀ i ∈ slots tg, i ∈ ws) → L2.wipe σ' ws = L2.wipe σ ws) → Q σ' H) : gT B.K tg x σ H Q := by
  cases tg with
  | name i =>
    cases h
    exact k _ (re.set r i) fun ws hs => wipe_set (hs i (List.mem_singleton.mpr rfl))
  | names is =>
    cases v with
    | tup vs =>
      obtain ⟨a, xs, rfl, hf, hv⟩ := r
      have h' : Ab.setAll en is vs = some en1 := h
      exact ⟨a, xs, rfl, SqT.of (rp.fz _ _ hf), by rw [← hv.length, setAll_len h'], names_ok h' hv re k⟩
    | _ => cases h
/-! ### comprehensions -/
abbrev tC' (B : Bs) (W : WX) (C : Ab.Ctx) (c : Option Ex) : TT := tM B W Same' (Ab.evc C c)
/-- nothing is let out -/
abbrev W0 : WX := fun _ _ _ _ => False
theorem Out.of {α β : Type} {rel : Rel α β} {φ : List Addr} {F H : Hp} {r : R α} {a : α} {s : Sto} {σ : L2.St} {Q : β → Hp → Prop} (e : r = some (.ok a, s)) (k : ∀ φ' F' x H', Ext φ F H φ' F' H' → Rp B φ' F' s H' → rel φ' F' a x → Q x H') : Out B W rel φ F H r σ Q := by
  rw [e]
  exact k
/-- one turn of a comprehension -/
def turn (C : Ab.Ctx) (tg : Tg) (cond : Option Ex) (elt : Ex) (en : Ab.Env) (v : Val) (s : Sto) : R (Option Val) := match Ab.bindT tg v en with
  | none => none
  | some en1 => Ab.bnd (Ab.evc C cond en1 s) fun c s => if c = true then Ab.bnd (Ab.ev C elt en1 s) fun x s => Ab.ok (some x) s else Ab.ok none s
theorem compL_cons {c : Option (Nat × List Val)} {f : Val → Sto → R (Option Val)} {v : Val} {r : List Val} {s s2 : Sto} {rest : List Val} (h : Ab.compL c f (v :: r) s = some (.ok rest, s2)) :
    Ab.still c s = true ∧ ∃ o s1 rs, f v s = some (.ok o, s1) ∧ Ab.compL c f r s1 = some (.ok rs, s2) ∧ rest = o.toList ++ rs := by
  simp only [Ab.compL] at h
  split at h
  · rename_i st
    refine ⟨st, ?_⟩
    split at h
    · rename_i o s1 e1
      split at h
      · rename_i rs s3 e2
        simp only [Ab.ok, Option.some.injEq, Prod.mk.injEq, Except.ok.injEq] at h
        obtain ⟨rfl, rfl⟩ := h
        exact ⟨o, s1, rs, e1, e2, rfl⟩
      · cases h
    · cases h
  · cases h
theorem compL_never {c : Option (Nat × List Val)} {f : Val → Sto → R (Option Val)} : ∀ {r : List Val} {s s2 : Sto} {e : Exc}, Ab.compL c f r s ≠ some (.error e, s2)
  | [], s, s2, e, h => by
    simp only [Ab.compL] at h
    split at h <;> cases h
  | v :: r, s, s2, e, h => by
    simp only [Ab.compL] at h
    split at h
    · split at h
      · split at h <;> cases h
      · cases h
    · cases h
theorem turn_is {tg : Tg} {cond : Option Ex} {elt : Ex} {en : Ab.Env} {v : Val} {s s1 : Sto} {o : Option Val} (h : turn C tg cond elt en v s = some (.ok o, s1)) :
    ∃ en1 c s0, Ab.bindT tg v en = some en1 ∧ Ab.evc C cond en1 s = some (.ok c, s0) ∧ ((c = true ∧ ∃ x, o = some x ∧ Ab.ev C elt en1 s0 = some (.ok x, s1)) ∨ (c = false ∧ o = none ∧ s1 = s0)) := by
  unfold turn at h
  split at h
  · cases h
  · rename_i en1 e1
    cases e2 : Ab.evc C cond en1 s with
    | none => rw [e2] at h; cases h
    | some q =>
      obtain ⟨r, s0⟩ := q
      cases r with
      | error _ => rw [e2] at h; cases h
      | ok c =>
        rw [e2] at h
        refine ⟨en1, c, s0, e1, e2, ?_⟩
        cases c with
        | false =>
          cases h
          exact .inr ⟨rfl, rfl, rfl⟩
        | true =>
          have h' : Ab.bnd (Ab.ev C elt en1 s0) (fun x s => Ab.ok (some x) s) = some (.ok o, s1) := h
          cases e3 : Ab.ev C elt en1 s0 with
          | none => rw [e3] at h'; cases h'
          | some q =>
            obtain ⟨r, s3⟩ := q
            cases r with
            | error _ => rw [e3] at h'; cases h'
            | ok x =>
              rw [e3] at h'
              cases h'
              exact .inl ⟨rfl, x, rfl, rfl⟩
/-- what holds between two turns -/
structure Mid (B : Bs) (C : Ab.Ctx) (tg : Tg) (cond : Option Ex) (elt : Ex) (en : Ab.Env) (w : Walk) (φ1 : List Addr) (F1 H1 : Hp) (D : Addr) (vs : List Val) (s2 : Sto) (i : Nat) (H : Hp) (φ : List Addr) (F : Hp) (s : Sto) (acc : List Val) (xs : List V) (rest : List Val) : Prop where
  le : i ≤ w.1.length
  ext : Ext φ1 F1 H1 φ F H
  aw : Away D φ F
  at_ : H D = some (.lst xs)
  rp : Rp B φ F s H
  r : RVs B φ F acc xs
  go : Ab.compL w.2 (turn C tg cond elt en) (w.1.drop i) s = some (.ok rest, s2)
  sum : vs = acc ++ rest
  few : acc.length ≤ i
theorem Ext.upd_free {φ φ1 : List Addr} {F F1 H H1 : Hp} {D : Addr} {o : HO} (e : Ext φ1 F1 H1 φ F H) (hD : H1 D = none) : Ext φ1 F1 H1 φ F (upd H D o) where
  tup := fun b xs h => by
    by_cases c : b = D
    · rw [c]; exact .inl hD
    · rw [upd_ne c] at h
      exact e.tup b xs h
  le := e.le
  keep := fun b u h n => by
    have : b ≠ D := ne_of_none h hD
    rw [upd_ne this]
    exact e.keep b u h n
  fnew := e.fnew
  pnew := e.pnew
  there := fun b h => by
    by_cases c : b = D
    · rw [c]; exact hD
    · rw [upd_ne c] at h
      exact e.there b h
theorem comp_go {tg : Tg} {cond : Option Ex} {elt : Ex} {en : Ab.Env} {own : List Nat} {w : Walk} {J : L2.It} {φ1 : List Addr} {F1 H1 : Hp} {s1 : Sto} {σ : L2.St} {m : Bool} {Q : VK} (hw : ∀ i ∈ slots tg, i ∈ own) (rp1 : Rp B φ1 F1 s1 H1) (re1 : REn B φ1 F1 en σ)
    (k : Wk B φ1 F1 w J) (hl : w.1.length ≤ Ab.LIM) (o : Out B W (RV B) φ1 F1 H1 (Ab.bnd (Ab.compL w.2 (turn C tg cond elt (Ab.wipe en own)) w.1 s1) fun vs s => Ab.lift (some (Ab.alloc m vs s))) σ Q) (D : Addr) (hD : H1 D = none) :
    ∃ Wi : Nat → Nat → Hp → Prop, (∃ m, Wi 0 m (upd H1 D (.lst []))) ∧ ∀ i m H, Wi i m H →
      (J.stop i H ∧ Q (.ref D) H) ∨ (J.go i H ∧ ∃ Nx : Hp → Prop, (∀ H', Nx H' → ∃ m', m' < m ∧ Wi (i + 1) m' H') ∧ ∀ x H', J.yld i H x H' → gT B.K tg x (L2.wipe σ own) H' fun σ2 H2 => L2.wipe σ2 own = L2.wipe σ own ∧ tC' B W0 C cond σ2 H2 fun b H3 =>
        if b = true then tE B W0 C elt σ2 H3 fun y H4 => ∃ acc, H4 D = some (.lst acc) ∧ acc.length < sizeLine ∧ Nx (upd H4 D (.lst (acc ++ [y]))) else Nx H3) := by
  cases e0 : Ab.compL w.2 (turn C tg cond elt (Ab.wipe en own)) w.1 s1 with
  | none => rw [e0] at o; exact o.elim
  | some q =>
    obtain ⟨r0, s2⟩ := q
    cases r0 with
    | error x => exact absurd e0 compL_never
    | ok vs =>
      rw [e0] at o
      have hF1 : F1 D = none := rp1.same.free hD
      have hp1 : ∀ l : Nat, φ1[l]? ≠ some D := fun l z => by
        obtain ⟨ho, e⟩ := rp1.here z
        rw [hD] at e
        cases e
      have aw1 : Away D φ1 F1 := ⟨hF1, hp1⟩
      let M : Nat → Hp → Prop := fun i H => ∃ φ F s acc xs rest, Mid B C tg cond elt (Ab.wipe en own) w φ1 F1 H1 D vs s2 i H φ F s acc xs rest
      refine ⟨fun i n H => n = w.1.length - i ∧ M i H, ⟨_, rfl, φ1, F1, s1, [], [], vs, ⟨Nat.zero_le _, Ext.grow (same_upd hD), aw1, upd_same, rp1.other hF1 hp1, rfl, e0, rfl, Nat.le_refl _⟩⟩, ?_⟩
      rintro i n H ⟨rfl, φ, F, s, acc, xs, rest, K⟩
      have lx := K.ext.le
      by_cases ci : i < w.1.length
      · obtain ⟨v, hv⟩ : ∃ v, w.1[i]? = some v := ⟨_, List.getElem?_eq_getElem ci⟩
        have hd : w.1.drop i = v :: w.1.drop (i + 1) := by
          rw [List.drop_eq_getElem_cons ci]
          congr 1
          exact (List.getElem?_eq_some_iff.mp hv).2
        have hgo := K.go
        rw [hd] at hgo
        obtain ⟨st, ov, s3, rs, t1, t2, t3⟩ := compL_cons hgo
        obtain ⟨en1, c, s4, b1, b2, b3⟩ := turn_is t1
        obtain ⟨g1, g2⟩ := k.go φ F s H i v lx K.rp st hv
        refine .inr ⟨g1, fun H' => M (i + 1) H', fun H' hM => ⟨w.1.length - (i + 1), by omega, rfl, hM⟩, ?_⟩
        intro x H5 hy
        obtain ⟨φ5, F5, x5, rp5, r5⟩ := g2 x H5 hy
        obtain ⟨aw5, at5⟩ := K.aw.ext x5 K.at_
        have l5 := lx.trans x5.le
        refine bind_ok rp5 b1 r5 ((re1.mono l5).wipe own) fun σ6 re6 hw6 => ⟨by rw [hw6 own hw, wipe_twice], ?_⟩
        refine tM_in (rel := Same') rp5 re6 (Out.of b2 ?_)
        rintro φ7 F7 b H7 x7 rp7 hb
        have hb' : b = c := hb
        subst hb'
        obtain ⟨aw7, at7⟩ := aw5.ext x7 at5
        have hs : sizeLine > xs.length := by
          have := K.r.length
          have := K.few
          exact Nat.lt_of_lt_of_le (show xs.length < Ab.LIM by omega) (by decide)
        rcases b3 with ⟨rfl, y, rfl, b4⟩ | ⟨rfl, rfl, rfl⟩
        · rw [if_pos rfl]
          refine tM_in (rel := RV B) rp7 (re6.mono x7.le) (Out.of b4 ?_)
          rintro φ8 F8 z H8 x8 rp8 rz
          obtain ⟨aw8, at8⟩ := aw7.ext x8 at7
          refine ⟨xs, at8, hs, φ8, F8, s3, acc ++ [y], xs ++ [z], rs, ⟨by omega, ?_, aw8, upd_same, rp8.other aw8.f aw8.p, ?_, t2, by rw [K.sum, t3, List.append_assoc]; rfl, ?_⟩⟩
          · exact Ext.upd_free ((K.ext.trans x5).trans (x7.trans x8)) hD
          · exact (K.r.mono (x5.le.trans (x7.le.trans x8.le))).append (show RVs B φ8 F8 [y] [z] from ⟨z, [], rfl, rz, rfl⟩)
          · have := K.few
            simp
            omega
        · rw [if_neg Bool.false_ne_true]
          exact ⟨φ7, F7, s3, acc, xs, rs, ⟨by omega, (K.ext.trans x5).trans x7, aw7, at7, rp7, K.r.mono (x5.le.trans x7.le), t2, by rw [K.sum, t3]; rfl, by have := K.few; omega⟩⟩
      · have hi : i = w.1.length := by have := K.le; omega
        subst hi
        have hgo := K.go
        rw [List.drop_length] at hgo
        simp only [Ab.compL] at hgo
        split at hgo
        · rename_i st
          simp only [Ab.ok, Option.some.injEq, Prod.mk.injEq, Except.ok.injEq] at hgo
          obtain ⟨rfl, rfl⟩ := hgo
          have hs : vs = acc := by rw [K.sum, List.append_nil]
          subst hs
          refine .inl ⟨k.stop φ F s H lx K.rp st, ?_⟩
          cases m with
          | true =>
            obtain ⟨a1, a2, a3⟩ := K.rp.adoptL K.aw.f K.aw.p K.at_ (so := .list vs) fun φ' e => ⟨xs, rfl, K.r.mono e⟩
            refine o _ _ _ _ ⟨lx.trans a1, K.ext.keep, K.ext.fnew, fun l b hb => ?_, K.ext.there, K.ext.tup⟩ a2 ⟨D, rfl, a3⟩
            by_cases c : l < φ.length
            · rw [List.getElem?_append_left c] at hb
              exact K.ext.pnew l b hb
            · rw [List.getElem?_append_right (Nat.le_of_not_lt c)] at hb
              have : b = D := by
                cases hh : l - φ.length with
                | zero => rw [hh] at hb; simpa using hb.symm
                | succ z => rw [hh] at hb; simp at hb
              rw [this]
              exact .inr hD
          | false =>
            have a2 := K.rp.adoptF K.aw.f K.aw.p K.at_
            have le2 : Le φ F φ (upd F D (.lst xs)) := ⟨fun _ _ h => h, fun b u h => by rw [upd_ne (ne_of_none h K.aw.f)]; exact h⟩
            refine o _ _ _ _ ⟨lx.trans le2, K.ext.keep, fun b u hb => ?_, K.ext.pnew, K.ext.there, K.ext.tup⟩ a2 ⟨D, xs, rfl, upd_same, K.r.mono le2⟩
            by_cases c : b = D
            · rw [c]
              exact .inr (.inl hD)
            · rw [upd_ne c] at hb
              exact K.ext.fnew b u hb
        · cases hgo
end Sn
end
section
set_option Elab.async false
set_option linter.all false
set_option autoImplicit false
set_option maxRecDepth 100000
set_option maxHeartbeats 4000000
/-! Comprehensions as expressions; statements. -/
namespace Sn
open PySem L2
open Ab (Val SO Sto Exc R toD toDs BM BI Ex Stm Tg Walk SR)
variable {B : Bs} {X : Cx} {W : WX} {C : Ab.Ctx}
/-! ### comprehensions -/
section
variable {elt tg iter : Expr} {ifs : List Expr} {scope : Scope} {own : List (Str × Nat)} {pos : Pos} {celt : Ex} {t : Tg} {it : Ab.It} {cond : Option Ex} {m : Bool} {ws : List Nat}
/-- the parts of a comprehension, each in its block -/
structure Parts (B : Bs) (X : Cx) (W : WX) (C : Ab.Ctx) (elt tg iter : Expr) (ifs : List Expr) (scope : Scope) (own : List (Str × Nat)) (celt : Ex) (t : Tg) (it : Ab.It) (cond : Option Ex) (ws : List Nat) : Prop where
  hK : X.K = B.K
  calm : X.calm = true
  nd : X.N.Nodup
  it : PI X tg iter (tI B W C it)
  blk : BlkOk X.N X.env.scope scope own
  own : own.map (·.2) = ws
  sub : ∀ i ∈ slots t, i ∈ ws
  tg : ∀ (s : Shared) (H : Hp) (Cc : Addr) (cl : List (Str × Addr)) (fp : List Addr), PG (X.blk s H scope (compEnvC scope cl Cc X.env) fp) tg (gT B.K t)
  cond : ∀ (s : Shared) (H : Hp) (Cc : Addr) (cl : List (Str × Addr)) (fp : List Addr), PTs (X.blk s H scope (compEnvC scope cl Cc X.env) fp) ifs (tC' B W0 C cond)
  elt : ∀ (s : Shared) (H : Hp) (Cc : Addr) (cl : List (Str × Addr)) (fp : List Addr), PE (X.blk s H scope (compEnvC scope cl Cc X.env) fp) elt (tE B W0 C celt)
  noset : noSet iter = true
/-- its reading from ours -/
theorem comp_reads (P : Parts B X W C elt tg iter ifs scope own celt t it cond ws) (σ : L2.St) (H : Hp) (Q : VK) (h : tE B W C (.comp m celt t it cond ws) σ H Q) : tLc (tI B W C it) (gT B.K t) (tC' B W0 C cond) (tE B W0 C celt) (own.map (·.2)) σ H Q := by
  obtain ⟨φ, F, en, s, rp, re, o⟩ := h
  refine tM_then (rel := relW B) rp re o fun φ1 F1 H1 w s1 J le rp1 re1 k o1 => ?_
  split at o1
  · rename_i hl
    rw [P.own]
    exact fun D hD => comp_go (own := ws) P.sub rp1 re1 k hl o1 D hD
  · exact o1.elim
theorem e_comp (P : Parts B X W C elt tg iter ifs scope own celt t it cond ws) : PE X (.ListComp elt [⟨tg, iter, ifs, 0⟩] scope pos) (tE B W C (.comp m celt t it cond ws)) :=
  PE_imp (pe_lc P.calm P.nd P.it P.blk P.tg P.cond P.elt (folded_of P.noset)) (comp_reads P)
theorem c_none : PTs X [] (tC' B W C none) := by
  refine ⟨fun pins s0 σ H Q I ⟨φ, F, en, s, rp, re, o⟩ => pts_nil.run pins s0 σ H Q I ?_⟩
  exact Out.now (a := true) o rp rfl
theorem c_some {e : Expr} {c : Ex} (h : PT X e (tT B W C c)) : PTs X [e] (tC' B W C (some c)) := pts_one h
end
/-! ### targets -/
theorem g_name {i : Nat} {x : Str} {pos : Pos} (nd : X.N.Nodup) (hi : X.N[i]? = some x) (hx : Loc X.env.scope x) (hf : X.fn x = true ∨ X.env.scope.names.lookup x = some .local) : PG X (.Name x pos) (gT B.K (.name i)) := pg_name nd hi hx hf
/-- names only -/
def namesOf : List Expr → Option (List Str)
  | [] => some []
  | .Name x _ :: r => (namesOf r).map (x :: ·)
  | _ => none
theorem eachN : ∀ {es : List Expr} {xs : List Str}, namesOf es = some xs → ∀ (env : Env), (assignEach es env).length = es.length ∧ (assignEach es env).findIdx? (·.1) = none
  | [], xs, h, env => ⟨rfl, rfl⟩
  | e :: es, xs, h, env => by
    cases e with
    | Name x p =>
      simp only [namesOf, Option.map_eq_some_iff] at h
      obtain ⟨ys, h, rfl⟩ := h
      obtain ⟨h1, h2⟩ := eachN h env
      have e1 : assignEach (.Name x p :: es) env = (false, assign (.Name x p) env) :: assignEach es env := rfl
      rw [e1]
      refine ⟨by simp [h1], ?_⟩
      simp [List.findIdx?_cons, h2]
    | _ => cases h
theorem g_each {k : Nat} (nd : X.N.Nodup) : ∀ {es : List Expr} {xs : List Str} {is : List Nat}, namesOf es = some xs → xs.length = is.length → (∀ (j : Nat) x i, xs[j]? = some x → is[j]? = some i → X.N[i]? = some x ∧ Loc X.env.scope x ∧ (X.fn x = true ∨ X.env.scope.names.lookup x = some .local)) →
    PGs X es (gNames is)
  | [], xs, is, h, hl, a => by
    cases h
    cases is with
    | nil => exact pgs_nil
    | cons _ _ => cases hl
  | e :: es, xs, is, h, hl, a => by
    cases e with
    | Name x p =>
      simp only [namesOf, Option.map_eq_some_iff] at h
      obtain ⟨ys, h, rfl⟩ := h
      cases is with
      | nil => cases hl
      | cons i is =>
        obtain ⟨a1, a2, a3⟩ := a 0 x i rfl rfl
        exact pgs_cons (pg_name nd a1 a2 a3) (g_each (k := k) nd h (by simpa using hl) fun j y l e1 e2 => a (j + 1) y l (by simpa using e1) (by simpa using e2)) rfl
    | _ => cases h
theorem g_names {es : List Expr} {xs : List Str} {is : List Nat} {k : Nat} {pos : Pos} (hK : X.K = B.K) (hc : X.calm = true) (nd : X.N.Nodup) (h : namesOf es = some xs) (hl : xs.length = is.length) (hle : es.length = is.length)
    (a : ∀ (j : Nat) x i, xs[j]? = some x → is[j]? = some i → X.N[i]? = some x ∧ Loc X.env.scope x ∧ (X.fn x = true ∨ X.env.scope.names.lookup x = some .local)) : PG X (.Tuple es k pos) (gT B.K (.names is)) := by
  obtain ⟨h1, h2⟩ := eachN h X.env
  have := pg_tup (k := k) (pos := pos) hc (g_each (k := k) nd h hl a) (n := is.length) (by rw [h1, hle]) h2
  rw [hK] at this
  exact this
/-! ### statements -/
def SOut (B : Bs) (W : WX) (φ : List Addr) (F H : Hp) (r : Ab.S) (D : Ends) : Prop := match r with
  | none => False
  | some (.next, en, s) => ∀ φ' F' σ' H', Ext φ F H φ' F' H' → Rp B φ' F' s H' → REn B φ' F' en σ' → D.nx σ' H'
  | some (.brk, en, s) => ∀ φ' F' σ' H', Ext φ F H φ' F' H' → Rp B φ' F' s H' → REn B φ' F' en σ' → D.bk σ' H'
  | some (.cont, en, s) => ∀ φ' F' σ' H', Ext φ F H φ' F' H' → Rp B φ' F' s H' → REn B φ' F' en σ' → D.ct σ' H'
  | some (.ret v, _, s) => ∀ φ' F' x H', Ext φ F H φ' F' H' → Rp B φ' F' s H' → RV B φ' F' v x → D.rt x H'
  | some (.err e, en, s) => ∀ φ' F' σ' H' cls d, Ext φ F H φ' F' H' → Rp B φ' F' s H' → REn B φ' F' en σ' → RX B φ' F' H' e cls d → W cls d σ' H'
theorem SOut.mono {φ φ' : List Addr} {F F' H H' : Hp} {r : Ab.S} {D : Ends} (h : SOut B W φ F H r D) (e : Ext φ F H φ' F' H') : SOut B W φ' F' H' r D := by
  match r, h with
  | some (.next, en, s), h => exact fun φ2 F2 σ2 H2 e2 => h φ2 F2 σ2 H2 (e.trans e2)
  | some (.brk, en, s), h => exact fun φ2 F2 σ2 H2 e2 => h φ2 F2 σ2 H2 (e.trans e2)
  | some (.cont, en, s), h => exact fun φ2 F2 σ2 H2 e2 => h φ2 F2 σ2 H2 (e.trans e2)
  | some (.ret v, en, s), h => exact fun φ2 F2 x H2 e2 => h φ2 F2 x H2 (e.trans e2)
  | some (.err x, en, s), h => exact fun φ2 F2 σ2 H2 c d e2 => h φ2 F2 σ2 H2 c d (e.trans e2)
abbrev tS (B : Bs) (W : WX) (m : Ab.Env → Sto → Ab.S) : TS := fun D σ H => ∃ φ F en s, Rp B φ F s H ∧ REn B φ F en σ ∧ SOut B W φ F H (m en s) D
/-- an expression, then what is done with it -/
theorem S_then {α β : Type} {rel : Rel α β} {m : Ab.Env → Sto → R α} {k : α → Sto → Ab.S} {σ : L2.St} {φ : List Addr} {F H : Hp} {en : Ab.Env} {s : Sto} {D : Ends} {Q : β → Hp → Prop} (rp : Rp B φ F s H) (re : REn B φ F en σ) (o : SOut B W φ F H (Ab.sb (m en s) en k) D)
    (go : ∀ φ' F' H' a s' x, m en s = some (.ok a, s') → Ext φ F H φ' F' H' → Rp B φ' F' s' H' → REn B φ' F' en σ → rel φ' F' a x → SOut B W φ' F' H' (k a s') D → Q x H') : tM B W rel m σ H Q := by
  refine ⟨φ, F, en, s, rp, re, ?_⟩
  cases e : m en s with
  | none => rw [e] at o; exact o.elim
  | some q =>
    obtain ⟨r, s1⟩ := q
    rw [e] at o
    cases r with
    | error x => exact fun φ' F' H' cls d a b c => o φ' F' σ H' cls d a b (re.mono a.le) c
    | ok a => exact fun φ' F' x H' a1 b c => go φ' F' H' a s1 x e a1 b (re.mono a1.le) c (SOut.mono (r := k a s1) o a1)
theorem st_next {φ : List Addr} {F H : Hp} {en : Ab.Env} {s : Sto} {σ : L2.St} {D : Ends} (o : SOut B W φ F H (some (.next, en, s)) D) (rp : Rp B φ F s H) (re : REn B φ F en σ) : D.nx σ H := o φ F σ H (Ext.refl _ _ _) rp re
theorem s_set {i : Nat} {x : Str} {e : Expr} {c : Ex} {p' pos : Pos} (nd : X.N.Nodup) (hi : X.N[i]? = some x) (hx : Loc X.env.scope x) (hf : X.fn x = true ∨ X.env.scope.names.lookup x = some .local) (he : PE X e (tE B W C c)) (hs : swapsWith e (some (.Name x p')) pos.line X.env = pure false) :
    PS X (.Assign [.Name x p'] e pos) (tS B W (Ab.exec C (.asg (.name i) c))) :=
  PS_imp (ps_set nd hi hx he hs hf) fun D σ H ⟨φ, F, en, s, rp, re, o⟩ => S_then (rel := RV B) rp re o fun φ1 F1 H1 v s1 x _ le rp1 re1 r o1 => st_next o1 rp1 (re1.set r i)
/-- name = [..] on one line -/
theorem s_setC {elt tg iter : Expr} {ifs : List Expr} {scope : Scope} {own : List (Str × Nat)} {pos spos p' : Pos} {celt : Ex} {t : Tg} {it : Ab.It} {cond : Option Ex} {m : Bool} {ws : List Nat} {i : Nat} {y : Str} (P : Parts B X W C elt tg iter ifs scope own celt t it cond ws)
    (hi : X.N[i]? = some y) (hy : X.env.scope.names.lookup y = some .local) (hsw : swapsWith (.ListComp elt [⟨tg, iter, ifs, 0⟩] scope pos) (some (.Name y p')) spos.line X.env = pure true) :
    PS X (.Assign [.Name y p'] (.ListComp elt [⟨tg, iter, ifs, 0⟩] scope pos) spos) (tS B W (Ab.exec C (.asg (.name i) (.comp m celt t it cond ws)))) :=
  PS_imp (ps_setLc P.calm P.nd hi hy hsw P.it P.blk P.tg P.cond P.elt (folded_of P.noset)) fun D σ H ⟨φ, F, en, s, rp, re, o⟩ => comp_reads (m := m) P σ H _ (S_then (rel := RV B) rp re o fun φ1 F1 H1 v s1 x _ le rp1 re1 r o1 => st_next o1 rp1 (re1.set r i))
/-- no tuple is written -/
def noTup : Expr → Bool
  | .Tuple _ _ _ => false
  | _ => true
theorem swapped_of {ts : List Expr} {k : Nat} {p : Pos} {e : Expr} {env : Env} (h : noTup e = true) : swappedStores [.Tuple ts k p] e env = pure none := by
  cases e <;> first | rfl | (simp [noTup] at h)
theorem soleT_of {ts : List Expr} {k l : Nat} {p : Pos} {e : Expr} {env : Env} : swapsWithSole [.Tuple ts k p] e l env = pure false := by
  cases e <;> rfl
theorem s_tup {is : List Nat} {xs : List Str} {es : List Expr} {e : Expr} {c : Ex} {k : Nat} {p' pos : Pos} (hK : X.K = B.K) (hg : PG X (.Tuple es k p') (gT B.K (.names is))) (he : PE X e (tE B W C c)) (hs : noTup e = true) :
    PS X (.Assign [.Tuple es k p'] e pos) (tS B W (Ab.exec C (.asg (.names is) c))) :=
  PS_imp (ps_asg he hg soleT_of (swapped_of hs) rfl) fun D σ H ⟨φ, F, en, s, rp, re, o⟩ => S_then (rel := RV B) rp re o fun φ1 F1 H1 v s1 x _ le rp1 re1 r o1 => by
    cases e1 : Ab.bindT (.names is) v en with
    | none => rw [e1] at o1; exact o1.elim
    | some en1 =>
      rw [e1] at o1
      exact bind_ok rp1 e1 r re1 fun σ' re' _ => st_next o1 rp1 re'
theorem swapA_of {e o : Expr} {f : Str} {p : Pos} {l : Nat} {env : Env} : swapsWith e (some (.Attribute o f p)) l env = pure false := by cases e <;> rfl
theorem swapS_of {e o i : Expr} {p : Pos} {l : Nat} {env : Env} : swapsWith e (some (.Subscript o i p)) l env = pure false := by cases e <;> rfl
theorem put_all {p : Nat → Bool} {f : Nat} {v : Val} (hf : p f = true) : ∀ {fs : List (Nat × Val)}, (fs.all fun q => p q.1) = true → ((Ab.putF f v fs).all fun q => p q.1) = true
  | [], _ => by simp [Ab.putF, hf]
  | q :: r, h => by
    obtain ⟨h1, h2⟩ : p q.1 = true ∧ (r.all fun q => p q.1) = true := by simpa using h
    simp only [Ab.putF]
    cases c : q.1 == f with
    | true => simpa [h1] using h2
    | false => simpa [h1] using put_all hf h2
/-- an attribute is written -/
theorem wrote_fld {φ : List Addr} {F H : Hp} {s : Sto} {l c f : Nat} {fs : List (Nat × Val)} {x y : V} {v : Val} (rp : Rp B φ F s H) (r : RV B φ F (.loc l) x) (rv : RV B φ F v y) (e : s[l]? = some (.inst c fs)) (hf : B.okF f = true) :
    ∃ a dx xs, x = .ref a ∧ H a = some (.ins (B.A c) dx xs) ∧ B.okC c = true ∧ xs.length = fs.length ∧ Ext φ F H φ F (upd H a (.ins (B.A c) dx (L2.putF (B.fld f) y xs))) ∧ Rp B φ F (s.set l (.inst c (Ab.putF f v fs))) (upd H a (.ins (B.A c) dx (L2.putF (B.fld f) y xs))) := by
  obtain ⟨a, dx, xs, rfl, ha, h1, h2, h3, h4⟩ := inst_at rp r e
  exact ⟨a, dx, xs, rfl, h1, h3, h2.length.symm, Ext.write rp ha, rp.write ha (fun _ z => by rw [e] at z; cases z) (o := .inst c (Ab.putF f v fs)) ⟨dx, _, rfl, h2.put rv, h3, put_all hf h4⟩⟩
theorem s_fld {o e : Expr} {co c : Ex} {f : Nat} {p' pos : Pos} (hK : X.K = B.K) (G : ClsOk B B.K) (hf : B.okF f = true) (ho : PE X o (tE B W C co)) (he : PE X e (tE B W C c)) : PS X (.Assign [.Attribute o (B.fld f) p'] e pos) (tS B W (Ab.exec C (.asgF co f c))) :=
  PS_imp (ps_fld ho he swapA_of) fun D σ H ⟨φ, F, en, s, rp, re, o⟩ => S_then (rel := RV B) rp re o fun φ1 F1 H1 v s1 y _ le rp1 re1 r o1 => S_then (rel := RV B) rp1 re1 o1 fun φ2 F2 H2 u s2 x _ le2 rp2 re2 r2 o2 => by
    cases u with
    | loc l =>
      cases e1 : s2[l]? with
      | none => simp only [e1] at o2; exact o2.elim
      | some ob =>
        cases ob with
        | inst k fs =>
          simp only [e1] at o2
          split at o2
          · rename_i hl
            obtain ⟨a, dx, xs, rfl, h1, h3, h5, ex, rp3⟩ := wrote_fld rp2 r2 (r.mono le2.le) e1 hf
            rw [hK]
            exact ⟨a, B.A k, dx, xs, rfl, h1, G.cl k h3, G.na k f h3 hf, by omega, o2 _ _ _ _ ex rp3 re2⟩
          · exact o2.elim
        | _ => simp only [e1] at o2; exact o2.elim
    | _ => exact o2.elim
theorem s_sub {o i e : Expr} {co ci c : Ex} {p' pos : Pos} (hu : X.A.units + 1 < cLine) (ho : PE X o (tE B W C co)) (hi : PE X i (tE B W C ci)) (he : PE X e (tE B W C c)) (hs : noSlice i = true) : PS X (.Assign [.Subscript o i p'] e pos) (tS B W (Ab.exec C (.asgI co ci c))) := by
  have set1 : PS X (.Assign [.Subscript o i p'] e pos) (tAsg (tE B W C c) (gSub (tE B W C co) (tE B W C ci) rSetL)) := by
    refine ps_asg he (pg_sub ho hi set_list fun v => ?_) (by cases e <;> rfl) (by cases e <;> rfl) rfl
    cases i <;> first | rfl | (simp [noSlice] at hs)
  refine PS_imp (PS_or set1 (ps_dput hu ho hi he swapS_of)) fun D σ H ⟨φ, F, en, s, rp, re, o⟩ => ?_
  by_cases ch : ∀ v s1 l s2 u s3, Ab.ev C c en s = some (.ok v, s1) → Ab.ev C co en s1 = some (.ok (.loc l), s2) → Ab.ev C ci en s2 = some (.ok u, s3) → ∃ xs, s3[l]? = some (.list xs)
  · refine .inl (S_then (rel := RV B) rp re o fun φ1 F1 H1 v s1 z e1 le rp1 re1 r o1 => S_then (rel := RV B) rp1 re1 o1 fun φ2 F2 H2 w s2 x e2 le2 rp2 re2 r2 o2 => S_then (rel := RV B) rp2 re2 o2 fun φ3 F3 H3 u s3 y e3 le3 rp3 re3 r3 o3 => ?_)
    cases e4 : Ab.setV w u v s3 with
    | none => rw [e4] at o3; exact o3.elim
    | some s4 =>
      rw [e4] at o3
      obtain ⟨a, H', e5, ex, rp4, h⟩ := setV_ok rp3 (r2.mono le3.le) r3 (r.mono (le2.trans le3).le) e4
      rcases h with ⟨xs, k, j, g1, g2, g3, rfl⟩ | g
      · exact ⟨a, xs, k, j, e5, g1, g2, g3, o3 _ _ _ _ ex rp4 re3⟩
      · exfalso
        cases w with
        | loc l =>
          obtain ⟨xs, hx⟩ := ch _ _ _ _ _ _ e1 e2 e3
          obtain ⟨b, rfl, hb⟩ := r2.mono le3.le
          cases e5
          obtain ⟨ho, h1, ys, rfl, _⟩ := rp3.at hb hx
          rcases g with ⟨kvs, k, g1, _⟩ | ⟨kvs, k, c, g1, _⟩
          · rw [h1] at g1; cases g1
          · rw [h1] at g1; cases g1
        | _ => cases e4
  · refine .inr (S_then (rel := RV B) rp re o fun φ1 F1 H1 v s1 z e1 le rp1 re1 r o1 => S_then (rel := RV B) rp1 re1 o1 fun φ2 F2 H2 w s2 x e2 le2 rp2 re2 r2 o2 => S_then (rel := RV B) rp2 re2 o2 fun φ3 F3 H3 u s3 y e3 le3 rp3 re3 r3 o3 => ?_)
    cases e4 : Ab.setV w u v s3 with
    | none => rw [e4] at o3; exact o3.elim
    | some s4 =>
      rw [e4] at o3
      obtain ⟨a, H', e5, ex, rp4, h⟩ := setV_ok rp3 (r2.mono le3.le) r3 (r.mono (le2.trans le3).le) e4
      rcases h with ⟨xs, k, j, g1, g2, g3, rfl⟩ | g
      · exfalso
        refine ch fun v' s1' l s2' u' s3' f1 f2 f3 => ?_
        rw [e1] at f1
        cases f1
        rw [e2] at f2
        cases f2
        rw [e3] at f3
        cases f3
        obtain ⟨b, rfl, hb⟩ := r2.mono le3.le
        cases e5
        cases q : s3[l]? with
        | none => simp [Ab.setV, q] at e4
        | some ob =>
          obtain ⟨ho, h1, h2⟩ := rp3.at hb q
          rw [g2] at h1
          cases h1
          cases ob with
          | list ys => exact ⟨ys, rfl⟩
          | dS _ => obtain ⟨_, z, _⟩ := h2; cases z
          | dT _ => obtain ⟨_, z, _⟩ := h2; cases z
          | dTf _ => obtain ⟨_, _, z, _⟩ := h2; cases z
          | inst _ _ => obtain ⟨_, _, z, _⟩ := h2; cases z
      · exact ⟨a, H', e5, g, o3 _ _ _ _ ex rp4 re3⟩
/-- op= with whole numbers -/
def isAug : Ab.BOp → Bool
  | .add => true
  | .sub => true
  | _ => false
def rAug : Ab.BOp → V → V → Hp → VK → Prop
  | .add => rAdd
  | .sub => rSub
  | _ => fun _ _ _ _ => False
theorem in_aug (op : Ab.BOp) (h : isAug op = true) : InOp X (opB op) (rAug op) := by
  cases op with
  | add => exact in_add
  | sub => exact in_sub
  | _ => cases h
theorem s_augN {i : Nat} {x : Str} {e : Expr} {c : Ex} {op : Ab.BOp} {p' pos : Pos} (ho : isAug op = true) (nd : X.N.Nodup) (hi : X.N[i]? = some x) (hx : Loc X.env.scope x) (hf : X.fn x = true ∨ X.env.scope.names.lookup x = some .local) (he : PE X e (tE B W C c)) :
    PS X (.AugAssign (.Name x p') (opB op) e pos) (tS B W (Ab.exec C (.augN i op c))) :=
  PS_imp (ps_aug nd hi hx he (ti := rAug op) (in_aug op ho) hf) fun D σ H ⟨φ, F, en, s, rp, re, o⟩ => by
    simp only [Ab.exec] at o
    split at o
    · rename_i a e1
      obtain ⟨y, e2, r0⟩ := re.at_ i _ e1
      obtain rfl : y = V.int a := r0
      refine ⟨_, e2, S_then (rel := RV B) rp re o fun φ1 F1 H1 v s1 z _ le rp1 re1 r o1 => ?_⟩
      cases v with
      | int b =>
        obtain rfl : z = V.int b := r
        cases op with
        | add => exact ⟨a, b, rfl, rfl, st_next o1 rp1 (re1.set (show RV B φ1 F1 (.int (a + b)) (V.int (a + b)) from rfl) i)⟩
        | sub => exact ⟨a, b, rfl, rfl, st_next o1 rp1 (re1.set (show RV B φ1 F1 (.int (a - b)) (V.int (a - b)) from rfl) i)⟩
        | _ => cases ho
      | _ => exact o1.elim
    · exact o.elim
theorem s_augF {o e : Expr} {co c : Ex} {f : Nat} {op : Ab.BOp} {p' pos : Pos} (hop : isAug op = true) (hK : X.K = B.K) (G : ClsOk B B.K) (hf : B.okF f = true) (ho : PE X o (tE B W C co)) (he : PE X e (tE B W C c)) :
    PS X (.AugAssign (.Attribute o (B.fld f) p') (opB op) e pos) (tS B W (Ab.exec C (.augF co f op c))) :=
  PS_imp (ps_fldaug ho he (in_aug op hop)) fun D σ H ⟨φ, F, en, s, rp, re, o⟩ => S_then (rel := RV B) rp re o fun φ1 F1 H1 u s1 x _ le rp1 re1 r1 o1 => by
    cases u with
    | loc l =>
      cases e1 : s1[l]? with
      | none => simp only [e1] at o1; exact o1.elim
      | some ob =>
        cases ob with
        | inst k fs =>
          simp only [e1] at o1
          split at o1
          · rename_i a e2
            obtain ⟨p, dx, xs, rfl, hp, g1, g2, g3, g4⟩ := inst_at rp1 r1 e1
            obtain ⟨y, g5, g6⟩ := g2.look e2
            obtain rfl : y = V.int a := g6
            rw [hK]
            refine ⟨p, B.A k, dx, xs, V.int a, rfl, g1, G.cl k g3, G.na k f g3 hf, g5, S_then (rel := RV B) rp1 re1 o1 fun φ2 F2 H2 v s2 z _ le2 rp2 re2 r2 o2 => ?_⟩
            have fin : ∀ q : Int, SOut B W φ2 F2 H2 ((Ab.addF l k f q s2).map fun s => (.next, en, s)) D → ∃ dx' fs', H2 p = some (.ins (B.A k) dx' fs') ∧ fs'.length < 1000 ∧ D.nx σ (upd H2 p (.ins (B.A k) dx' (L2.putF (B.fld f) (V.int q) fs'))) := by
              intro q o3
              unfold Ab.addF at o3
              cases e3 : s2[l]? with
              | none => simp only [e3] at o3; exact o3.elim
              | some ob2 =>
                cases ob2 with
                | inst k2 fs2 =>
                  simp only [e3] at o3
                  split at o3
                  · rename_i hl
                    obtain ⟨rfl, hl⟩ := hl
                    obtain ⟨p2, dx2, xs2, e4, h1, h3, h5, ex, rp3⟩ := wrote_fld (f := f) (v := .int q) (y := V.int q) rp2 (RV.mono le2.le r1) rfl e3 hf
                    cases e4
                    exact ⟨dx2, xs2, h1, by omega, o3 _ _ _ _ ex rp3 re2⟩
                  · exact o3.elim
                | _ => simp only [e3] at o3; exact o3.elim
            cases v with
            | int b =>
              obtain rfl : z = V.int b := r2
              cases op with
              | add => exact ⟨a, b, rfl, rfl, fin _ o2⟩
              | sub => exact ⟨a, b, rfl, rfl, fin _ o2⟩
              | _ => cases hop
            | _ => exact o2.elim
          · exact o1.elim
        | _ => simp only [e1] at o1; exact o1.elim
    | _ => exact o1.elim
theorem s_expr {e : Expr} {c : Ex} {pos : Pos} (he : PE X e (tE B W C c)) (hs : noCmp e = true) : PS X (.Expr e pos) (tS B W (Ab.exec C (.expr c))) :=
  PS_imp (ps_expr he (swap_of hs)) fun D σ H ⟨φ, F, en, s, rp, re, o⟩ => S_then (rel := RV B) rp re o fun φ1 F1 H1 v s1 x _ le rp1 re1 r o1 => st_next o1 rp1 re1
theorem s_ret {e : Expr} {c : Ex} {pos : Pos} (he : PE X e (tE B W C c)) : PS X (.Return (some e) pos) (tS B W (Ab.exec C (.ret c))) :=
  PS_imp (ps_ret he) fun D σ H ⟨φ, F, en, s, rp, re, o⟩ => S_then (rel := RV B) rp re o fun φ1 F1 H1 v s1 x _ le rp1 re1 r o1 => o1 _ _ _ _ (Ext.refl _ _ _) rp1 r
theorem s_retN {pos : Pos} : PS X (.Return none pos) (tS B W (Ab.exec C .retN)) :=
  PS_imp ps_retN fun D σ H ⟨φ, F, en, s, rp, re, o⟩ => o _ _ _ _ (Ext.refl _ _ _) rp (show RV B φ F .non .non from rfl)
theorem s_pass {pos : Pos} : PS X (.Pass pos) (tS B W (Ab.exec C .pass)) := PS_imp ps_pass fun D σ H ⟨φ, F, en, s, rp, re, o⟩ => st_next o rp re
theorem s_doc {x : Str} {j : Nat} {p pos : Pos} : PS X (.Expr (.Constant (.str x) j p) pos) (tS B W (Ab.exec C .pass)) := PS_imp ps_doc fun D σ H ⟨φ, F, en, s, rp, re, o⟩ => st_next o rp re
theorem s_brk {pos : Pos} : PS X (.Break pos) (tS B W (Ab.exec C .brk)) := PS_imp ps_break fun D σ H ⟨φ, F, en, s, rp, re, o⟩ => o _ _ _ _ (Ext.refl _ _ _) rp re
theorem s_cont {pos : Pos} : PS X (.Continue pos) (tS B W (Ab.exec C .cont)) := PS_imp ps_continue fun D σ H ⟨φ, F, en, s, rp, re, o⟩ => o _ _ _ _ (Ext.refl _ _ _) rp re
theorem s_stuck {st : Stmt} : PS X st (tS B W (Ab.exec C .stuck)) := PS_imp ps_never fun D σ H ⟨φ, F, en, s, rp, re, o⟩ => o
/-! ### blocks -/
theorem b_nil : PSs X [] (tS B W (Ab.execs C [])) := PSs_imp pss_nil fun D σ H ⟨φ, F, en, s, rp, re, o⟩ => st_next o rp re
theorem b_cons {st : Stmt} {r : List Stmt} {c : Stm} {cs : List Stm} (h1 : PS X st (tS B W (Ab.exec C c))) (h2 : PSs X r (tS B W (Ab.execs C cs))) : PSs X (st :: r) (tS B W (Ab.execs C (c :: cs))) :=
  PSs_imp (pss_cons h1 h2) fun D σ H ⟨φ, F, en, s, rp, re, o⟩ => by
    refine ⟨φ, F, en, s, rp, re, ?_⟩
    have o' : SOut B W φ F H (Ab.sq (Ab.exec C c en s) fun en s => Ab.execs C cs en s) D := o
    revert o'
    cases Ab.exec C c en s with
    | none => exact fun h => h
    | some q =>
      obtain ⟨r, en1, s1⟩ := q
      cases r with
      | next => exact fun o φ1 F1 σ1 H1 x1 rp1 re1 => ⟨φ1, F1, en1, s1, rp1, re1, SOut.mono (r := Ab.execs C cs en1 s1) o x1⟩
      | _ => exact fun h => h
theorem s_if {e : Expr} {a b : List Stmt} {c : Ex} {ca cb : List Stm} {pos : Pos} (he : PT X e (tT B W C c)) (ha : PSs X a (tS B W (Ab.execs C ca))) (hb : PSs X b (tS B W (Ab.execs C cb))) : PS X (.If e a b pos) (tS B W (Ab.exec C (.ifS c ca cb))) :=
  PS_imp (ps_if he ha hb) fun D σ H ⟨φ, F, en, s, rp, re, o⟩ => by
    have e1 : Ab.exec C (.ifS c ca cb) en s = Ab.sb (Ab.evc C (some c) en s) en fun b s => if b = true then Ab.execs C ca en s else Ab.execs C cb en s := by
      simp only [Ab.exec, Ab.evc]
      cases Ab.ev C c en s with
      | none => rfl
      | some q =>
        obtain ⟨r, s1⟩ := q
        cases r with
        | error _ => rfl
        | ok v =>
          cases v with
          | bl k => cases k <;> rfl
          | _ => rfl
    rw [e1] at o
    refine S_then (rel := Same') rp re o fun φ1 F1 H1 v s1 x _ le rp1 re1 r o1 => ?_
    have hx : x = v := r
    subst hx
    cases x with
    | true => exact ⟨φ1, F1, en, s1, rp1, re1, o1⟩
    | false => exact ⟨φ1, F1, en, s1, rp1, re1, o1⟩
/-! ### loops -/
theorem s_while {e : Expr} {b : List Stmt} {c : Ex} {cb : List Stm} {pos : Pos} (hp : PassesOwn (model X.prog X.w) X.A X.env X.xe) (he : PT X e (tT B W C c)) (hb : PSs X b (tS B W (Ab.execs C cb))) : PS X (.While e b [] pos) (tS B W (Ab.exec C (.whl c cb))) :=
  PS_imp (ps_while hp he hb) fun D σ H ⟨φ, F, en, s, rp, re, o⟩ => by
    refine ⟨fun n σ H => ∃ φ F en s, Rp B φ F s H ∧ REn B φ F en σ ∧ SOut B W φ F H (Ab.whlL (Ab.ev C c) (Ab.execs C cb) n en s) D, ⟨_, φ, F, en, s, rp, re, o⟩, ?_⟩
    rintro n σ H ⟨φ, F, en, s, rp, re, o⟩
    cases n with
    | zero => exact o.elim
    | succ n =>
      have e1 : Ab.whlL (Ab.ev C c) (Ab.execs C cb) (n + 1) en s = Ab.sb (Ab.evc C (some c) en s) en fun k s => if k = true then (match Ab.execs C cb en s with
          | some (.next, en1, s1) => Ab.whlL (Ab.ev C c) (Ab.execs C cb) n en1 s1
          | some (.cont, en1, s1) => Ab.whlL (Ab.ev C c) (Ab.execs C cb) n en1 s1
          | some (.brk, en1, s1) => some (.next, en1, s1)
          | x => x) else some (.next, en, s) := by
        simp only [Ab.whlL, Ab.evc]
        cases Ab.ev C c en s with
        | none => rfl
        | some q =>
          obtain ⟨r, s1⟩ := q
          cases r with
          | error _ => rfl
          | ok v =>
            cases v with
            | bl k => cases k <;> rfl
            | _ => rfl
      rw [e1] at o
      refine S_then (rel := Same') rp re o fun φ1 F1 H1 v s1 x _ le rp1 re1 r o1 => ?_
      have hx : x = v := r
      subst hx
      cases x with
      | false =>
        rw [if_neg Bool.false_ne_true]
        exact st_next o1 rp1 re1
      | true =>
        rw [if_pos rfl] at o1 ⊢
        refine ⟨fun σ' H' => ∃ φ F en s, Rp B φ F s H' ∧ REn B φ F en σ' ∧ SOut B W φ F H' (Ab.whlL (Ab.ev C c) (Ab.execs C cb) n en s) D, fun σ' H' h => ⟨n, Nat.lt_succ_self n, h⟩, φ1, F1, en, s1, rp1, re1, ?_⟩
        revert o1
        cases Ab.execs C cb en s1 with
        | none => exact fun h => h
        | some q =>
          obtain ⟨r, en2, s2⟩ := q
          cases r with
          | next => exact fun o φ2 F2 σ2 H2 x2 rp2 re2 => ⟨φ2, F2, en2, s2, rp2, re2, SOut.mono (r := Ab.whlL _ _ n en2 s2) o x2⟩
          | cont => exact fun o φ2 F2 σ2 H2 x2 rp2 re2 => ⟨φ2, F2, en2, s2, rp2, re2, SOut.mono (r := Ab.whlL _ _ n en2 s2) o x2⟩
          | brk => exact fun o => o
          | ret v => exact fun o => o
          | err x => exact fun o => o
/-- a loop's turns -/
theorem loop_go {t : Tg} {cb : List Stm} {w : Walk} {J : L2.It} {φ1 : List Addr} {F1 H1 : Hp} {s1 : Sto} {en : Ab.Env} {σ : L2.St} {D : Ends} (rp1 : Rp B φ1 F1 s1 H1) (re1 : REn B φ1 F1 en σ) (k : Wk B φ1 F1 w J)
    (o2 : SOut B W φ1 F1 H1 (Ab.forL w.2 (fun v en s => match Ab.bindT t v en with
      | some en1 => Ab.execs C cb en1 s
      | none => none) w.1 en s1) D) :
    ∃ Wi : Nat → Nat → L2.St → Hp → Prop, (∃ m, Wi 0 m σ H1) ∧ ∀ i m σ H, Wi i m σ H → (J.stop i H ∧ D.nx σ H) ∨ (J.go i H ∧ ∃ Nx : L2.St → Hp → Prop, (∀ σ' H', Nx σ' H' → ∃ m', m' < m ∧ Wi (i + 1) m' σ' H') ∧
      ∀ x H', J.yld i H x H' → gT B.K t x σ H' fun σ2 H2 => tS B W (Ab.execs C cb) ⟨Nx, D.rt, D.nx, Nx⟩ σ2 H2) := by
    let f : Val → Ab.Env → Sto → Ab.S := fun v en s => match Ab.bindT t v en with
      | some en1 => Ab.execs C cb en1 s
      | none => none
    let M : Nat → L2.St → Hp → Prop := fun i σ H => i ≤ w.1.length ∧ ∃ φ F en s, Le φ1 F1 φ F ∧ Rp B φ F s H ∧ REn B φ F en σ ∧ SOut B W φ F H (Ab.forL w.2 f (w.1.drop i) en s) D
    refine ⟨fun i n σ H => n = w.1.length - i ∧ M i σ H, ⟨_, rfl, Nat.zero_le _, φ1, F1, en, s1, Le.refl _ _, rp1, re1, o2⟩, ?_⟩
    rintro i n σ2 H2 ⟨rfl, hle, φ2, F2, en2, s2, l2, rp2, re2, o3⟩
    by_cases ci : i < w.1.length
    · obtain ⟨v, hv⟩ : ∃ v, w.1[i]? = some v := ⟨_, List.getElem?_eq_getElem ci⟩
      have hd : w.1.drop i = v :: w.1.drop (i + 1) := by
        rw [List.drop_eq_getElem_cons ci]
        congr 1
        exact (List.getElem?_eq_some_iff.mp hv).2
      rw [hd] at o3
      simp only [Ab.forL] at o3
      split at o3
      · rename_i st
        obtain ⟨g1, g2⟩ := k.go φ2 F2 s2 H2 i v l2 rp2 st hv
        refine .inr ⟨g1, M (i + 1), fun σ' H' hM => ⟨w.1.length - (i + 1), by omega, rfl, hM⟩, fun x H3 hy => ?_⟩
        obtain ⟨φ3, F3, x3, rp3, r3⟩ := g2 x H3 hy
        cases e1 : Ab.bindT t v en2 with
        | none => simp only [f, e1] at o3; exact o3.elim
        | some en4 =>
          have fe : f v en2 s2 = Ab.execs C cb en4 s2 := by simp only [f, e1]
          rw [fe] at o3
          refine bind_ok rp3 e1 r3 (re2.mono x3.le) fun σ4 re4 _ => ⟨φ3, F3, en4, s2, rp3, re4, ?_⟩
          have nx : ∀ {en5 s5}, SOut B W φ2 F2 H2 (Ab.forL w.2 f (w.1.drop (i + 1)) en5 s5) D → ∀ φ' F' σ' H', Ext φ3 F3 H3 φ' F' H' → Rp B φ' F' s5 H' → REn B φ' F' en5 σ' → M (i + 1) σ' H' := fun {en5 s5} o φ' F' σ' H' x' rp' re' =>
            ⟨by omega, φ', F', en5, s5, l2.trans (x3.le.trans x'.le), rp', re', SOut.mono (r := Ab.forL w.2 f (w.1.drop (i + 1)) en5 s5) o (x3.trans x')⟩
          revert o3
          cases Ab.execs C cb en4 s2 with
          | none => exact fun h => h
          | some q =>
            obtain ⟨r, en5, s5⟩ := q
            cases r with
            | next => exact fun o => nx o
            | cont => exact fun o => nx o
            | brk => exact fun o φ' F' σ' H' x' => o φ' F' σ' H' (x3.trans x')
            | ret v => exact fun o φ' F' y H' x' => o φ' F' y H' (x3.trans x')
            | err e => exact fun o φ' F' σ' H' c d x' => o φ' F' σ' H' c d (x3.trans x')
      · exact o3.elim
    · have hi : i = w.1.length := by omega
      subst hi
      rw [List.drop_length] at o3
      simp only [Ab.forL] at o3
      split at o3
      · rename_i st
        exact .inl ⟨k.stop φ2 F2 s2 H2 l2 rp2 st, st_next o3 rp2 re2⟩
      · exact o3.elim
theorem s_for {tg iter : Expr} {b : List Stmt} {t : Tg} {it : Ab.It} {cb : List Stm} {pos : Pos} (hp : PassesOwn (model X.prog X.w) X.A X.env X.xe) (hc : X.calm = true) (hi : PI X tg iter (tI B W C it)) (hg : PG X tg (gT B.K t)) (hb : PSs X b (tS B W (Ab.execs C cb))) (hs : noSet iter = true) :
    PS X (.For tg iter b [] pos) (tS B W (Ab.exec C (.forS t it cb))) :=
  PS_imp (ps_for hp hc hi hg hb (folded_of hs)) fun D σ H ⟨φ, F, en, s, rp, re, o⟩ => S_then (rel := relW B) rp re o fun φ1 F1 H1 w s1 J _ le rp1 re1 k o1 => loop_go rp1 re1 k o1
/-! ### the keys of a dict -/
/-- what is locked says nothing of values -/
def Lockd (F : Hp) (d : Addr) : Prop := ∃ od xs, F d = some (.frz od (.dT xs))
theorem del_keeps {F : Hp} {d a : Addr} {o : HO} (h : Lockd F d) (e : F a = some o) (hn : ∀ od xs, o ≠ .frz od (.dT xs)) : del F d a = some o := by
  rw [del_ne fun z => by
    obtain ⟨od, xs, e2⟩ := h
    rw [z, e2] at e
    exact hn od xs (Option.some.inj e).symm]
  exact e
mutual
theorem RV.del {φ : List Addr} {F : Hp} {d : Addr} (h : Lockd F d) : ∀ {v : Val} {x : V}, RV B φ F v x → RV B φ (L2.del F d) v x
  | .non, _, q => q
  | .bl _, _, q => q
  | .int _, _, q => q
  | .str _, _, q => q
  | .tup _, _, ⟨a, xs, r, f, q⟩ => ⟨a, xs, r, del_keeps h f (fun _ _ z => nomatch z), RVs.del h q⟩
  | .lst _, _, ⟨a, xs, r, f, q⟩ => ⟨a, xs, r, del_keeps h f (fun _ _ z => nomatch z), RVs.del h q⟩
  | .loc _, _, q => q
  | .scr _, _, ⟨a, r, f⟩ => ⟨a, r, f.imp (fun z => z.imp (fun e => del_keeps h e fun _ _ z => nomatch z) fun ⟨o, e⟩ => ⟨o, del_keeps h e fun _ _ z => by cases z⟩) id⟩
  | .exc _ _, _, q => q
theorem RVs.del {φ : List Addr} {F : Hp} {d : Addr} (h : Lockd F d) : ∀ {v : List Val} {x : List V}, RVs B φ F v x → RVs B φ (L2.del F d) v x
  | [], _, q => q
  | _ :: _, _, ⟨y, r, q, h1, h2⟩ => ⟨y, r, q, RV.del h h1, RVs.del h h2⟩
end
theorem RKs.del {α κ : Type} {g : α → κ} {φ : List Addr} {F : Hp} {d : Addr} (h : Lockd F d) : ∀ {v : List (α × Val)} {x : List (κ × V)}, RKs B g φ F v x → RKs B g φ (L2.del F d) v x
  | [], _, q => q
  | _ :: _, _, ⟨y, r, q, h1, h2⟩ => ⟨y, r, q, h1.del h, RKs.del h h2⟩
theorem RFs.del {φ : List Addr} {F : Hp} {d : Addr} (h : Lockd F d) : ∀ {v : List (Nat × Val)} {x : List (Str × V)}, RFs B φ F v x → RFs B φ (L2.del F d) v x
  | [], _, q => q
  | _ :: _, _, ⟨y, r, q, h1, h2⟩ => ⟨y, r, q, h1.del h, RFs.del h h2⟩
theorem RO.del {φ : List Addr} {F : Hp} {d : Addr} (h : Lockd F d) : ∀ {o : SO} {ho : HO}, RO B φ F o ho → RO B φ (L2.del F d) o ho
  | .list _, _, ⟨xs, q, r⟩ => ⟨xs, q, r.del h⟩
  | .dS _, _, ⟨xs, q, r⟩ => ⟨xs, q, r.del h⟩
  | .dT _, _, ⟨xs, q, r, k⟩ => ⟨xs, q, r.del h, k⟩
  | .dTf _, _, ⟨od, xs, q, r, k⟩ => ⟨od, xs, q, r.del h, k⟩
  | .inst _ _, _, ⟨dx, xs, q, r, k⟩ => ⟨dx, xs, q, r.del h, k⟩
theorem REn.del {φ : List Addr} {F : Hp} {d : Addr} {en : Ab.Env} {σ : L2.St} (h : Lockd F d) (r : REn B φ F en σ) : REn B φ (L2.del F d) en σ := ⟨r.len, fun i v e => let ⟨x, a, b⟩ := r.at_ i v e; ⟨x, a, b.del h⟩⟩
/-- a dict is locked -/
theorem lock_ok {φ : List Addr} {F : Hp} {s : Sto} {H : Hp} (rp : Rp B φ F s H) {l : Nat} {d : Addr} {kvs : List (Ab.AKey × Val)} (hd : φ[l]? = some d) (e : s[l]? = some (.dT kvs)) {xs : List (List Key × V)} (hx : H d = some (.dT xs)) (hk : RKs B keyT φ F kvs xs) (gk : ∀ p ∈ kvs, goodK p.1) (od : Obj) :
    F d = none ∧ Le φ F φ (upd F d (.frz od (.dT xs))) ∧ Rp B φ (upd F d (.frz od (.dT xs))) (s.set l (.dTf kvs)) (upd H d (.frz od (.dT xs))) := by
  have fd : F d = none := rp.ap l d hd fun k z => by rw [e] at z; cases z
  have le : Le φ F φ (upd F d (.frz od (.dT xs))) := ⟨fun _ _ h => h, fun a u h => by rw [upd_ne (ne_of_none h fd)]; exact h⟩
  have ll : l < s.length := (List.getElem?_eq_some_iff.mp e).1
  refine ⟨fd, le, by simp [rp.len], rp.nd, fun i u h => ?_, fun a u h => ?_, fun i a hi hs => ?_⟩
  · by_cases c : l = i
    · subst c
      rw [List.getElem?_set_self ll] at h
      cases h
      exact ⟨d, _, hd, upd_same, od, xs, rfl, hk.mono le, gk⟩
    · rw [List.getElem?_set_ne c] at h
      obtain ⟨a, ho, e1, e2, e3⟩ := rp.obj i u h
      exact ⟨a, ho, e1, by rw [upd_ne fun z => c (rp.nd l i d hd (by rw [← z]; exact e1))]; exact e2, e3.mono le⟩
  · by_cases c : a = d
    · subst c
      rw [upd_same] at h ⊢
      exact h
    · rw [upd_ne c] at h ⊢
      exact rp.fz a u h
  · by_cases c : l = i
    · subst c
      exact absurd (List.getElem?_set_self ll) (hs kvs)
    · rw [upd_ne fun z => c (rp.nd l i d hd (by rw [← z]; exact hi))]
      exact rp.ap i a hi fun k z => hs k (by rw [List.getElem?_set_ne c]; exact z)
/-- .. and free again -/
theorem unlock_ok {φ φ' : List Addr} {F F' : Hp} {s s' s2 : Sto} {H H' : Hp} {l : Nat} {d : Addr} {od : Obj} {xs : List (List Key × V)} (rp : Rp B φ F s H) (hd : φ[l]? = some d) (fd : F d = none) (hx : H d = some (.dT xs)) (rp' : Rp B φ' F' s' H') (x : Ext φ (upd F d (.frz od (.dT xs))) (upd H d (.frz od (.dT xs))) φ' F' H')
    (e : Ab.unlock l s' = some s2) : H' d = some (.frz od (.dT xs)) ∧ Lockd F' d ∧ Ext φ F H φ' (del F' d) (upd H' d (.dT xs)) ∧ Rp B φ' (del F' d) s2 (upd H' d (.dT xs)) := by
  have f' : F' d = some (.frz od (.dT xs)) := x.le.f _ _ upd_same
  have h' : H' d = some (.frz od (.dT xs)) := rp'.fz _ _ f'
  have hd' : φ'[l]? = some d := x.le.p _ _ hd
  have lk : Lockd F' d := ⟨od, xs, f'⟩
  refine ⟨h', lk, ⟨⟨x.le.p, fun a u h => ?_⟩, fun b u h n => ?_, fun b u h => ?_, fun i b h => ?_, fun b h => ?_, fun b ys h => ?_⟩, ?_⟩
  · have c : a ≠ d := fun z => by rw [z, fd] at h; cases h
    rw [del_ne c]
    exact x.le.f a u (by rw [upd_ne c]; exact h)
  · have c : b ≠ d := fun z => n l (by rw [z]; exact hd)
    rw [upd_ne c]
    exact x.keep b u (by rw [upd_ne c]; exact h) n
  · have c : b ≠ d := fun z => by rw [z, del_same] at h; cases h
    rw [del_ne c] at h
    have := x.fnew b u h
    rw [upd_ne c, upd_ne c] at this
    exact this
  · have := x.pnew i b h
    by_cases c : b = d
    · subst c
      rcases this with z | z
      · exact .inl z
      · rw [upd_same] at z; cases z
    · rw [upd_ne c] at this
      exact this
  · have c : b ≠ d := fun z => by rw [z, upd_same] at h; cases h
    rw [upd_ne c] at h
    have := x.there b h
    rw [upd_ne c] at this
    exact this
  · have c : b ≠ d := fun z => by rw [z, upd_same] at h; cases h
    rw [upd_ne c] at h
    have := x.tup b ys h
    rw [upd_ne c] at this
    exact this
  · unfold Ab.unlock at e
    split at e
    · rename_i kvs e1
      cases e
      have ll : l < s'.length := (List.getElem?_eq_some_iff.mp e1).1
      obtain ⟨ho, g1, od2, ys, rfl, hk, gk⟩ := rp'.at hd' e1
      rw [h'] at g1
      cases g1
      refine ⟨by simp [rp'.len], rp'.nd, fun i u h => ?_, fun a u h => ?_, fun i a hi hs => ?_⟩
      · by_cases c : l = i
        · subst c
          rw [List.getElem?_set_self ll] at h
          cases h
          exact ⟨d, _, hd', upd_same, xs, rfl, hk.del lk, gk⟩
        · rw [List.getElem?_set_ne c] at h
          obtain ⟨a, ho, e2, e3, e4⟩ := rp'.obj i u h
          exact ⟨a, ho, e2, by rw [upd_ne fun z => c (rp'.nd l i d hd' (by rw [← z]; exact e2))]; exact e3, e4.del lk⟩
      · have c : a ≠ d := fun z => by rw [z, del_same] at h; cases h
        rw [del_ne c] at h
        rw [upd_ne c]
        exact rp'.fz a u h
      · by_cases c : l = i
        · subst c
          rw [hd'] at hi
          cases hi
          exact del_same
        · rw [del_ne fun z => c (rp'.nd l i d hd' (by rw [← z]; exact hi))]
          exact rp'.ap i a hi fun k z => hs k (by rw [List.getElem?_set_ne c]; exact z)
    · cases e
theorem rks_at {φ : List Addr} {F : Hp} : ∀ {kvs : List (Ab.AKey × Val)} {xs : List (List Key × V)} {i : Nat} {k : List Key} {v : V}, RKs B keyT φ F kvs xs → xs[i]? = some (k, v) → ∃ p, kvs[i]? = some p ∧ k = keyT p.1
  | [], _, i, k, v, r, e => by rw [show _ = [] from r] at e; simp at e
  | p :: r, _, 0, k, v, ⟨x, t, q, h1, h2⟩, e => by
    subst q
    simp at e
    exact ⟨p, rfl, e.1.symm⟩
  | p :: r, _, i + 1, k, v, ⟨x, t, q, h1, h2⟩, e => by
    subst q
    obtain ⟨p', e1, e2⟩ := rks_at (i := i) h2 (by simpa using e)
    exact ⟨p', by simpa using e1, e2⟩
theorem rks_len {φ : List Addr} {F : Hp} : ∀ {kvs : List (Ab.AKey × Val)} {xs : List (List Key × V)}, RKs B keyT φ F kvs xs → kvs.length = xs.length
  | [], _, r => by rw [show _ = [] from r]; rfl
  | p :: r, _, ⟨x, t, q, h1, h2⟩ => by rw [q, List.length_cons, List.length_cons, rks_len h2]
/-- a key's tuple is a tuple of ours -/
theorem key_vals {φ : List Addr} {F : Hp} : ∀ {k : Ab.AKey}, goodK k → RVs B φ F (k.map fun
  | .inl i => Val.int i
  | .inr t => Val.str t) ((keyT k).map kV)
  | [], _ => rfl
  | .inl i :: r, g => ⟨_, _, rfl, rfl, key_vals fun t ht => g t (List.mem_cons_of_mem _ ht)⟩
  | .inr t :: r, g => ⟨_, _, rfl, ⟨rfl, g t List.mem_cons_self⟩, key_vals fun u hu => g u (List.mem_cons_of_mem _ hu)⟩
theorem no_tup {φ : List Addr} {F : Hp} {o : SO} {xs : List V} : ¬ RO B φ F o (.tup xs) := by
  cases o with
  | list _ => rintro ⟨_, z, _⟩; cases z
  | dS _ => rintro ⟨_, z, _⟩; cases z
  | dT _ => rintro ⟨_, z, _⟩; cases z
  | dTf _ => rintro ⟨_, _, z, _⟩; cases z
  | inst _ _ => rintro ⟨_, _, z, _⟩; cases z
/-- a tuple that stands there is counted among what is never written -/
theorem Rp.own_tup {φ : List Addr} {F : Hp} {s : Sto} {H : Hp} (rp : Rp B φ F s H) {q : Addr} {xs : List V} (h : H q = some (.tup xs)) : ∃ F2, Ext φ F H φ F2 H ∧ Rp B φ F2 s H ∧ F2 q = some (.tup xs) := by
  have hp : ∀ l : Nat, φ[l]? ≠ some q := fun l z => by
    have hl : l < s.length := rp.len ▸ (List.getElem?_eq_some_iff.mp z).1
    obtain ⟨ho, e1, e2⟩ := rp.at z (List.getElem?_eq_getElem hl)
    rw [h] at e1
    cases e1
    exact no_tup e2
  cases e : F q with
  | some o =>
    have := rp.fz _ _ e
    rw [h] at this
    cases this
    exact ⟨F, Ext.refl _ _ _, rp, e⟩
  | none =>
    refine ⟨upd F q (.tup xs), ⟨⟨fun _ _ h => h, fun b u hb => by rw [upd_ne (ne_of_none hb e)]; exact hb⟩, fun _ _ h _ => h, fun b u hb => ?_, fun _ _ h => .inl h, fun _ h => h, fun _ _ h => .inr h⟩, rp.adoptF e hp h, upd_same⟩
    by_cases c : b = q
    · subst c
      exact .inr (.inr ⟨xs, h⟩)
    · rw [upd_ne c] at hb
      exact .inl hb
theorem wk_keys {φ : List Addr} {F : Hp} {d : Addr} {od : Obj} {kvs : List (Ab.AKey × Val)} {xs : List (List Key × V)} (hf : F d = some (.frz od (.dT xs))) (hk : RKs B keyT φ F kvs xs) (gk : ∀ p ∈ kvs, goodK p.1) : Wk B φ F (kvs.map fun p => Ab.keyV p.1, none) (Itkt d od xs) where
  go := fun φ' F' s' H' i v e rp st hi => by
    have hd : H' d = some (.frz od (.dT xs)) := rp.fz _ _ (e.f _ _ hf)
    have hl := rks_len hk
    have hi' : i < xs.length := by
      have := (List.getElem?_eq_some_iff.mp hi).1
      simpa [hl] using this
    refine ⟨⟨hd, hi'⟩, ?_⟩
    rintro x H2 ⟨rfl, k, u, q, e1, rfl, e2⟩
    obtain ⟨p, e3, rfl⟩ := rks_at hk e1
    rw [List.getElem?_map, e3] at hi
    cases hi
    obtain ⟨F2, x2, rp2, f2⟩ := rp.own_tup e2
    exact ⟨φ', F2, x2, rp2, q, _, rfl, f2, key_vals (gk p (List.mem_of_getElem? e3))⟩
  stop := fun φ' F' s' H' e rp st => ⟨rp.fz _ _ (e.f _ _ hf), by show xs.length ≤ _; rw [List.length_map, rks_len hk]; exact Nat.le_refl _⟩
theorem s_forK {tg e : Expr} {b : List Stmt} {t : Tg} {c : Ex} {cb : List Stm} {pos : Pos} (hp : PassesOwn (model X.prog X.w) X.A X.env X.xe) (hc : X.calm = true) (he : PE X e (tE B W C c)) (hg : PG X tg (gT B.K t)) (hb : PSs X b (tS B W (Ab.execs C cb))) (hs : noSet e = true) :
    PS X (.For tg e b [] pos) (tS B W (Ab.exec C (.forK t c cb))) :=
  PS_imp (ps_lock (ps_for hp hc (pi_keys he) hg hb (folded_of hs))) fun D σ H ⟨φ, F, en, s, rp, re, o⟩ => by
    have o1 : SOut B W φ F H (Ab.forKeys (Ab.ev C c en) (fun v en s => match Ab.bindT t v en with
      | some en1 => Ab.execs C cb en1 s
      | none => none) en s) D := o
    unfold Ab.forKeys at o1
    split at o1
    · rename_i l s0 e0
      split at o1
      · rename_i kvs e1
        obtain ⟨d, ho, hd, g1, xs, rfl, hk, gk⟩ := rp.obj l _ e1
        refine ⟨d, .dT xs, g1, trivial, fun od => ?_⟩
        obtain ⟨fd, le, rp1⟩ := lock_ok rp hd e1 g1 hk gk od
        split at o1
        · rename_i l' s1 e2
          split at o1
          · rename_i hl
            subst hl
            refine tM_in (rel := RV B) rp1 (re.mono le) (Out.of e2 ?_)
            rintro φ2 F2 x H2 x2 rp2 ⟨a, rfl, ha⟩
            have : a = d := by
              have := x2.le.p _ _ hd
              rw [ha] at this
              exact Option.some.inj this
            subst this
            have f2 : F2 a = some (.frz od (.dT xs)) := x2.le.f _ _ upd_same
            refine ⟨a, od, rfl, .inr ⟨xs, rp2.fz _ _ f2, ?_⟩⟩
            refine loop_go (w := (kvs.map fun p => Ab.keyV p.1, none)) rp2 (re.mono (le.trans x2.le)) (wk_keys f2 (hk.mono (le.trans x2.le)) gk) ?_
            revert o1
            show SOut B W φ F H (match Ab.forL none _ (kvs.map fun p => Ab.keyV p.1) en s1 with
              | some (.next, en2, s2) => _
              | some (.ret v, en2, s2) => _
              | _ => none) D → SOut B W φ2 F2 H2 (Ab.forL none _ (kvs.map fun p => Ab.keyV p.1) en s1) _
            cases Ab.forL none (fun v en s => match Ab.bindT t v en with
              | some en1 => Ab.execs C cb en1 s
              | none => none) (kvs.map fun p => Ab.keyV p.1) en s1 with
            | none => exact fun h => h
            | some q =>
              obtain ⟨r, en3, s3⟩ := q
              cases r with
              | next =>
                intro o2 φ3 F3 σ3 H3 x3 rp3 re3
                cases e4 : Ab.unlock l' s3 with
                | none => simp only [e4, Option.map_none] at o2; exact o2.elim
                | some s4 =>
                  simp only [e4, Option.map_some] at o2
                  obtain ⟨u1, lk, u2, u3⟩ := unlock_ok rp hd fd g1 rp3 (x2.trans x3) e4
                  exact ⟨u1, o2 _ _ _ _ u2 u3 (re3.del lk)⟩
              | ret v =>
                intro o2 φ3 F3 y H3 x3 rp3 r3
                cases e4 : Ab.unlock l' s3 with
                | none => simp only [e4, Option.map_none] at o2; exact o2.elim
                | some s4 =>
                  simp only [e4, Option.map_some] at o2
                  obtain ⟨u1, lk, u2, u3⟩ := unlock_ok rp hd fd g1 rp3 (x2.trans x3) e4
                  exact ⟨u1, o2 _ _ _ _ u2 u3 (r3.del lk)⟩
              | brk => exact fun h => h.elim
              | cont => exact fun h => h.elim
              | err x => exact fun h => h.elim
          · exact o1.elim
        · exact o1.elim
      · exact o1.elim
    · exact o1.elim
end Sn
end
section
set_option Elab.async false
set_option linter.all false
set_option autoImplicit false
set_option maxRecDepth 100000
set_option maxHeartbeats 4000000
/-! The code of the machine against the program's text: a test, and what it shows. -/
namespace Sn
open PySem L2
open Ab (Val SO Sto Exc R toD toDs BM BI Ex Stm Tg Walk SR)
/-- the names of a program: defs, classes, methods, attributes -/
structure Sta where
  fns : List (Option Str)
  cls : List (Option Str)
  mts : List (Option Str)
  flds : List (Option Str)
  mds : List (Nat × Str)
  gls : List (Option Str)
  gts : List (Option Str)
/-- a block as it is written: the slots' names, the scope, the captured names of its own -/
structure Fr where
  N : List Str
  sc : Scope
  fc : Str → Bool
namespace Fr
def vis (r : Fr) (x : Str) : Bool := match r.sc.names.lookup x with
  | some .local => true
  | some .cell => true
  | some .free => true
  | _ => false
def loc (r : Fr) (x : Str) : Bool := match r.sc.names.lookup x with
  | some .local => true
  | some .cell => true
  | _ => false
def sets (r : Fr) (x : Str) : Bool := r.loc x && (r.fc x || decide (r.sc.names.lookup x = some .local))
def glb (r : Fr) (x : Str) : Bool := decide (r.sc.names.lookup x = some .globalImplicit)
def blk (r : Fr) (scope : Scope) : Fr := ⟨r.N, relS scope r.sc, fun x => decide (scope.names.lookup x = some .cell)⟩
end Fr
def bug (x : Str) : Bool := x == ("__debug__" : Str)
def bug2 (x : Str) : Bool := x == ("__classdict__" : Str)
/-- constants -/
def mK : Val → Expr → Bool
  | .non, e => match e with
    | .Constant .none _ _ => true
    | _ => false
  | .bl b, e => match e with
    | .Constant (.bool c) _ _ => b == c
    | _ => false
  | .int i, e => match e with
    | .Constant (.int j) _ _ => decide (i = j)
    | .UnaryOp .USub (.Constant (.int j) _ _) _ => decide (i = -j)
    | _ => false
  | .str t, e => match e with
    | .Constant (.str x) _ _ => decide (x = str t) && t.all fun c => decide (c < 1114112)
    | _ => false
  | _, _ => false
/-- names that are set -/
def mN (r : Fr) : List Nat → List Expr → Bool
  | [], [] => true
  | i :: is, .Name x _ :: es => decide (r.N[i]? = some x) && r.sets x && mN r is es
  | _, _ => false
def mG (r : Fr) : Tg → Expr → Bool
  | .name i, e => match e with
    | .Name x _ => decide (r.N[i]? = some x) && r.sets x
    | _ => false
  | .names is, e => match e with
    | .Tuple es _ _ => mN r is es
    | _ => false
/-- the names of a comprehension's own -/
def ownOf (N : List Str) (ws : List Nat) : List (Str × Nat) := ws.map fun i => (N[i]?.getD ⟨#[]⟩, i)
def blkB (N : List Str) (sc scope : Scope) (ws : List Nat) : Bool :=
  decide (scope.kind = .function) && (scope.names.all fun y => decide (scope.names.lookup y.1 = some y.2)) && ((ownOf N ws).all fun p => decide (N[p.2]? = some p.1)) &&
  (scope.names.all fun y => !decide (y.2 = .free) || decide (sc.names.lookup y.1 = some .cell) || decide (sc.names.lookup y.1 = some .free)) &&
  (scope.names.all fun y => !(decide (y.2 = .local) || decide (y.2 = .cell)) || decide (y.1 ∈ (ownOf N ws).map (·.1)) || !decide (y.1 ∈ N))
theorem blk_of {N : List Str} {sc scope : Scope} {ws : List Nat} (h : blkB N sc scope ws = true) : BlkOk N sc scope (ownOf N ws) := by
  simp only [blkB, Bool.and_eq_true, decide_eq_true_eq, List.all_eq_true, Bool.or_eq_true, Bool.not_eq_true', decide_eq_false_iff_not, Bool.or_eq_false_iff] at h
  obtain ⟨⟨⟨⟨h1, h2⟩, h3⟩, h4⟩, h5⟩ := h
  refine ⟨h1, h2, h3, fun y hy e => ?_, fun y hy e => ?_⟩
  · rcases h4 y hy with (a | a) | a
    · exact absurd e a
    · exact .inl a
    · exact .inr a
  · rcases h5 y hy with (a | a) | a
    · rcases e with e | e
      · exact absurd e a.1
      · exact absurd e a.2
    · exact .inl a
    · exact .inr a
theorem own_map (N : List Str) (ws : List Nat) : (ownOf N ws).map (·.2) = ws := by
  induction ws with
  | nil => rfl
  | cons w ws ih =>
    show w :: (ownOf N ws).map (·.2) = w :: ws
    rw [ih]
def cutA : BM → Bool
  | .join => true
  | _ => false
mutual
/-- code and an expression (t: as a test) -/
def mE (S : Sta) : Bool → Ex → Fr → Expr → Bool
  | t, .var i, r, e => (!t || plainT e) && match e with
    | .Name x _ => decide (r.N[i]? = some x) && r.vis x && !bug x && !bug2 x
    | _ => false
  | t, .cst v, r, e => (!t || plainT e) && mK v e
  | t, .bin op m a b, r, e => (!t || plainT e) && match e with
    | .BinOp x o y _ => decide (o = opB op) && mE S false a r x && mE S false b r y
    | _ => false
  | _, .cmp op a b, r, e => match e with
    | .Compare x [o] [y] _ => decide (o = opC op) && noSet y && mE S false a r x && mE S false b r y
    | _ => false
  | _, .isN n a, r, e => match e with
    | .Compare x [o] [.Constant .none _ _] _ => decide (o = isOp n) && mE S false a r x
    | _ => false
  | t, .andE a b, r, e => match e with
    | .BoolOp .And (x :: y :: l) p => mE S t a r x && (match l with
      | [] => mE S t b r y
      | z :: l => mE S t b r (.BoolOp .And (y :: z :: l) p))
    | _ => false
  | t, .orE a b, r, e => match e with
    | .BoolOp .Or (x :: y :: l) p => mE S t a r x && (match l with
      | [] => mE S t b r y
      | z :: l => mE S t b r (.BoolOp .Or (y :: z :: l) p))
    | _ => false
  | t, .notE a, r, e => match e with
    | .UnaryOp .Not x _ => mE S t a r x
    | _ => false
  | t, .ite c a b, r, e => !t && match e with
    | .IfExp x y z _ => mE S true c r x && mE S false a r y && mE S false b r z
    | _ => false
  | t, .tup cs, r, e => (!t || plainT e) && match e with
    | .Tuple es _ _ => mEs S cs r es
    | _ => false
  | t, .lst m cs, r, e => (!t || plainT e) && match e with
    | .List es _ => mEs S cs r es
    | _ => false
  | t, .dS ks vs, r, e => (!t || plainT e) && match e with
    | .Dict [] [] _ => ks.isEmpty && vs.isEmpty
    | _ => false
  | t, .dT, r, e => (!t || plainT e) && match e with
    | .Dict [] [] _ => true
    | _ => false
  | t, .item a i, r, e => (!t || plainT e) && match e with
    | .Subscript x y _ => noSlice y && mE S false a r x && mE S false i r y
    | _ => false
  | t, .slice m a lo hi, r, e => (!t || plainT e) && match e with
    | .Subscript x (.Slice l h none _) _ => mE S false a r x && mO S lo r l && mO S hi r h
    | _ => false
  | t, .fld a f, r, e => (!t || plainT e) && match e with
    | .Attribute x n _ => decide (S.flds[f]? = some (some n)) && noSup x && mE S false a r x
    | _ => false
  | t, .bi b m cs, r, e => (!t || plainT e) && match e with
    | .Call (.Name n _) es [] _ => r.glb n && (match isIs b with
      | true => decide (n = "isinstance") && (match es with
        | [x, .Name k _] => decide (k = (kindOf b : Str)) && r.glb k && mEs S cs r [x]
        | _ => false)
      | false => biOk b && decide (n = biName b) && !es.isEmpty && mEs S cs r es)
    | _ => false
  | t, .bm b o cs, r, e => (!t || plainT e) && match e with
    | .Call (.Attribute x n p) es [] q => (p.endLine == q.line) && noSup x && decide (n = bmName b) && mE S false o r x && mEs S cs r es && decide (es.length < 28) && (match b with
      | .join => decide (es.length = 1)
      | .get1 => decide (es.length = 1)
      | .get2 => decide (es.length = 2)
      | b => (isL1 b && !es.isEmpty) || (isL0 b && es.isEmpty))
    | _ => false
  | t, .call f cs, r, e => (!t || plainT e) && match e with
    | .Call (.Name n _) es [] _ => decide (S.fns[f]? = some (some n)) && r.glb n && !bug n && mEs S cs r es
    | _ => false
  | t, .mk c cs, r, e => (!t || plainT e) && match e with
    | .Call (.Name n _) es [] _ => decide (S.cls[c]? = some (some n)) && r.glb n && !bug n && mEs S cs r es
    | _ => false
  | t, .meth m o cs, r, e => (!t || plainT e) && match e with
    | .Call (.Attribute x n p) es [] q => (p.endLine == q.line) && noSup x && decide (S.mts[m]? = some (some n)) && mE S false o r x && mEs S cs r es && decide (es.length < 28)
    | _ => false
  | t, .methD m o cs, r, e => (!t || plainT e) && match e with
    | .Call (.Attribute x n p) es [] q => (p.endLine == q.line) && noSup x && decide (S.mts[m]? = some (some n)) && mE S false o r x && mEs S cs r es && decide (es.length < 28) && !es.isEmpty && S.mds.any fun y => y.1 == m
    | _ => false
  | t, .methK m o cs c, r, e => (!t || plainT e) && match e with
    | .Call (.Attribute x n p) es [⟨some y, z, _⟩] q => (p.endLine == q.line) && noSup x && decide (S.mts[m]? = some (some n)) && mE S false o r x && mEs S cs r es && decide (es.length < 28) && !es.isEmpty && decide ((m, y) ∈ S.mds) && mE S false c r z
    | _ => false
  | t, .comp m elt tg it cond ws, r, e => (!t || plainT e) && match e with
    | .ListComp x [⟨g, i, ifs, a⟩] scope _ => decide (a = 0) && blkB r.N r.sc scope ws && noSet i && ((slots tg).all fun j => decide (j ∈ ws)) && mI S it r g i && mG (r.blk scope) tg g && mC S cond (r.blk scope) ifs && mE S false elt (r.blk scope) x
    | _ => false
  | t, .glob g, r, e => (!t || plainT e) && match e with
    | .Name x _ => decide (S.gls[g]? = some (some x)) && r.glb x && !bug x
    | _ => false
  | _, .inK g n a, r, e => match e with
    | .Compare x [o] [.Name y _] _ => decide (o = inOp n) && decide (S.gts[g]? = some (some y)) && r.glb y && !bug y && mE S false a r x
    | _ => false
  | t, .listK g m, r, e => (!t || plainT e) && match e with
    | .Call (.Name n _) [.Name y _] [] _ => decide (n = "list") && r.glb n && decide (S.gts[g]? = some (some y)) && r.glb y && !bug y
    | _ => false
  | t, .maxD c, r, e => (!t || plainT e) && match e with
    | .Call (.Name n _) [x] [⟨some y, .Constant (.int 0) _ _, _⟩] _ => decide (n = "max") && r.glb n && decide (y = "default") && noStar x && mE S false c r x
    | _ => false
  | t, .lenset c, r, e => (!t || plainT e) && match e with
    | .Call (.Name n _) [.Call (.Name k _) [x] [] _] [] _ => decide (n = "len") && r.glb n && decide (k = "set") && r.glb k && noStar x && mE S false c r x
    | _ => false
  | _, _, _, _ => false
def mEs (S : Sta) : List Ex → Fr → List Expr → Bool
  | [], _, es => es.isEmpty
  | c :: cs, r, es => match es with
    | e :: l => noStar e && mE S false c r e && mEs S cs r l
    | [] => false
def mO (S : Sta) : Option Ex → Fr → Option Expr → Bool
  | none, _, e => e.isNone
  | some c, r, e => match e with
    | some e => mE S false c r e
    | none => false
def mC (S : Sta) : Option Ex → Fr → List Expr → Bool
  | none, _, es => es.isEmpty
  | some c, r, es => match es with
    | [e] => mE S true c r e
    | _ => false
def mI (S : Sta) : Ab.It → Fr → Expr → Expr → Bool
  | .val c, r, _, e => mE S false c r e
  | .rng1 c, r, _, e => match e with
    | .Call (.Name n _) [x] [] _ => decide (n = "range") && r.glb n && noStar x && mE S false c r x
    | _ => false
  | .rng2 c d, r, _, e => match e with
    | .Call (.Name n _) [x, y] [] _ => decide (n = "range") && r.glb n && noStar x && noStar y && mE S false c r x && mE S false d r y
    | _ => false
  | .zip c d, r, .Tuple _ _ _, e => match e with
    | .Call (.Name n _) [x, y] [] _ => decide (n = "zip") && r.glb n && noStar x && noStar y && mE S false c r x && mE S false d r y
    | _ => false
  | .rrng c, r, _, e => match e with
    | .Call (.Name n _) [.Call (.Name k _) [x] [] _] [] _ => decide (n = "reversed") && r.glb n && decide (k = "range") && r.glb k && noStar x && mE S false c r x
    | _ => false
  | _, _, _, _ => false
end
end Sn
end
section
set_option Elab.async false
set_option linter.all false
set_option autoImplicit false
set_option maxRecDepth 100000
set_option maxHeartbeats 4000000
/-! What the test of SnJ shows, of expressions. -/
namespace Sn
open PySem L2
open Ab (Val SO Sto Exc R toD toDs BM BI Ex Stm Tg Walk SR)
/-- the names of built-ins that a program may use here -/
def builtins : List Str := ["len", "list", "tuple", "sorted", "all", "any", "int", "max", "min", "isinstance", "bool", "str", "range", "set", "zip", "enumerate", "reversed"]
/-- what is known where code of level k + 1 runs -/
structure Gd (S : Sta) (B : Bs) (X : Cx) (W : WX) (C : Ab.Ctx) (k : Nat) (r : Fr) : Prop where
  K : X.K = B.K
  calm : X.calm = true
  nd : X.N.Nodup
  N : X.N = r.N
  sc : X.env.scope = r.sc
  fc : ∀ x, r.fc x = true → X.fn x = true
  tk : Takes X W
  fl : Flat W
  rm : Room (k + 1) X.A
  cl : ClsOk B B.K
  fld : ∀ (i : Nat) x, S.flds[i]? = some (some x) → B.fld i = x ∧ B.okF i = true
  bi : ∀ b ∈ builtins, X.mg b = none
  fn : ∀ (f : Nat) x, S.fns[f]? = some (some x) → ∃ a, X.mg x = some (.ref a) ∧ PySem.W.keepIn X.K (.ref a) = true ∧ FnAt B X (k + 1) C.call f a
  cs : ∀ (c : Nat) x, S.cls[c]? = some (some x) → B.okC c = true ∧ X.mg x = some (.ref (B.A c)) ∧ ∃ a, Mk X.K (B.A c) a ∧ FnAt B X k C.init (C.T.init c) a
  mt : ∀ (m : Nat) x, S.mts[m]? = some (some x) → MthOk B X (k + 1) C m x
  md : ∀ (m : Nat) x y, (m, y) ∈ S.mds → S.mts[m]? = some (some x) → Mth1 B X (k + 1) C m x y
  glo : ∀ (g : Nat) x, S.gls[g]? = some (some x) → GOne B X ((C.T.gv g).headD .non) x
  gtu : ∀ (g : Nat) x, S.gts[g]? = some (some x) → GTup B X (C.T.gv g) x
variable {S : Sta} {B : Bs} {X : Cx} {W : WX} {C : Ab.Ctx} {k : Nat} {r : Fr}
/-- in a comprehension's block -/
theorem Gd.blk (g : Gd S B X W C k r) (s : Shared) (H : Hp) (scope : Scope) (cl : List (Str × Addr)) (Cc : Addr) (fp : List Addr) : Gd S B (X.blk s H scope (compEnvC scope cl Cc X.env) fp) W0 C k (r.blk scope) where
  K := g.K
  calm := g.calm
  nd := g.nd
  N := g.N
  sc := by show relS scope X.env.scope = relS scope r.sc; rw [g.sc]
  fc := fun x h => by
    have h' : scope.names.lookup x = some .cell := of_decide_eq_true h
    show (scope.names.lookup x == some .cell) = true
    rw [h']
    rfl
  tk := takes0
  fl := fun _ _ _ _ _ h => h
  rm := g.rm
  cl := g.cl
  fld := g.fld
  bi := g.bi
  fn := fun f x h => let ⟨a, h1, h2, h3⟩ := g.fn f x h; ⟨a, h1, h2, ⟨h3.ok⟩⟩
  cs := fun c x h => let ⟨h0, h1, a, h2, h3⟩ := g.cs c x h; ⟨h0, h1, a, h2, ⟨h3.ok⟩⟩
  mt := fun m x h => let M := g.mt m x h; ⟨M.cl, M.nf, fun c f h1 h2 => let ⟨a, h3, h4⟩ := M.at_ c f h1 h2; ⟨a, h3, ⟨h4.ok⟩⟩⟩
  glo := g.glo
  gtu := g.gtu
  md := fun m x y h0 h => let M := g.md m x y h0 h; ⟨M.cl, M.nf, fun c f h1 h2 => let ⟨a, h3, h4⟩ := M.at_ c f h1 h2; ⟨a, h3, ⟨h4.ok⟩⟩⟩
theorem Gd.vis (g : Gd S B X W C k r) {x : Str} (h : r.vis x = true) : Vis X.env.scope x := by
  unfold Vis
  rw [g.sc]
  unfold Fr.vis at h
  split at h
  · exact .inl ‹_›
  · exact .inr (.inl ‹_›)
  · exact .inr (.inr ‹_›)
  · cases h
theorem Gd.gl (g : Gd S B X W C k r) {x : Str} (h : r.glb x = true) : Gl X x := by
  show X.env.scope.names.lookup x = some .globalImplicit
  rw [g.sc]
  exact of_decide_eq_true h
theorem Gd.sets (g : Gd S B X W C k r) {x : Str} (h : r.sets x = true) : L2.Loc X.env.scope x ∧ (X.fn x = true ∨ X.env.scope.names.lookup x = some .local) := by
  unfold Fr.sets at h
  simp only [Bool.and_eq_true, Bool.or_eq_true, decide_eq_true_eq] at h
  refine ⟨?_, ?_⟩
  · unfold L2.Loc
    rw [g.sc]
    have h1 := h.1
    unfold Fr.loc at h1
    split at h1
    · exact .inl ‹_›
    · exact .inr ‹_›
    · cases h1
  · rw [g.sc]
    exact h.2.imp (g.fc x) id
theorem Gd.units (g : Gd S B X W C k r) : X.A.units + 66 < cLine := by have := g.rm.un; omega
theorem not_bug {x : Str} (h : (!bug x) = true) : (x == ("__debug__" : Str)) = false := by simpa [bug] using h
theorem not_bug2 {x : Str} (h : (!bug2 x) = true) : (x == ("__classdict__" : Str)) = false := by simpa [bug2] using h
/-- what is shown of an expression: as a value; as a test -/
def Shown (B : Bs) (X : Cx) (W : WX) (C : Ab.Ctx) (t : Bool) (c : Ex) (e : Expr) : Prop := match t with
  | false => PE X e (tE B W C c)
  | true => PT X e (tT B W C c)
theorem shown_of {t : Bool} {c : Ex} {e : Expr} (h : PE X e (tE B W C c)) (hp : (!t || plainT e) = true) : Shown B X W C t c e := by
  cases t with
  | false => exact h
  | true => exact t_of h (by simpa using hp)
/-! ### leaves -/
theorem k_ok {v : Val} {e : Expr} (h : mK v e = true) : PE X e (tE B W C (.cst v)) := by
  cases v with
  | non =>
    simp only [mK] at h
    split at h
    · exact cst_of pe_non fun _ _ => rfl
    · cases h
  | bl b =>
    simp only [mK] at h
    split at h
    · rw [show b = _ from by simpa using h]
      exact cst_of pe_bl fun _ _ => rfl
    · cases h
  | int i =>
    simp only [mK] at h
    split at h
    · rw [show i = _ from of_decide_eq_true h]
      exact cst_of pe_int fun _ _ => rfl
    · rw [show i = _ from of_decide_eq_true h]
      refine cst_of (PE_imp (pe_un un_neg pe_int) fun σ H Q q => ⟨_, rfl, q⟩) fun _ _ => rfl
    · cases h
  | str t =>
    simp only [mK] at h
    split at h
    · simp only [Bool.and_eq_true, decide_eq_true_eq, List.all_eq_true] at h
      rw [h.1]
      exact cst_of pe_str fun _ _ => ⟨rfl, h.2⟩
    · cases h
  | _ => simp [mK] at h
theorem nms_ok (g : Gd S B X W C k r) : ∀ {is : List Nat} {es : List Expr}, mN r is es = true → ∃ xs, namesOf es = some xs ∧ xs.length = is.length ∧ es.length = is.length ∧
    ∀ (j : Nat) x i, xs[j]? = some x → is[j]? = some i → X.N[i]? = some x ∧ L2.Loc X.env.scope x ∧ (X.fn x = true ∨ X.env.scope.names.lookup x = some .local)
  | [], [], _ => ⟨[], rfl, rfl, rfl, fun j x i h => by simp at h⟩
  | [], _ :: _, h => by simp [mN] at h
  | _ :: _, [], h => by simp [mN] at h
  | i :: is, e :: es, h => by
    cases e with
    | Name x p =>
      simp only [mN, Bool.and_eq_true, decide_eq_true_eq] at h
      obtain ⟨xs, h1, h2, h3, h4⟩ := nms_ok g h.2
      refine ⟨x :: xs, by simp [namesOf, h1], by simp [h2], by simp [h3], fun j y l e1 e2 => ?_⟩
      cases j with
      | zero =>
        simp at e1 e2
        subst e1
        subst e2
        exact ⟨by rw [g.N]; exact h.1.1, g.sets h.1.2⟩
      | succ j => exact h4 j y l (by simpa using e1) (by simpa using e2)
    | _ => simp [mN] at h
theorem g_ok (g : Gd S B X W C k r) {t : Tg} {e : Expr} (h : mG r t e = true) : PG X e (gT B.K t) := by
  cases t with
  | name i =>
    simp only [mG] at h
    split at h
    · simp only [Bool.and_eq_true, decide_eq_true_eq] at h
      obtain ⟨h1, h2⟩ := g.sets h.2
      exact g_name g.nd (by rw [g.N]; exact h.1) h1 h2
    · cases h
  | names is =>
    simp only [mG] at h
    split at h
    · obtain ⟨xs, h1, h2, h3, h4⟩ := nms_ok g h
      exact g_names g.K g.calm g.nd h1 h2 h3 h4
    · cases h
/-! ### tests of comparisons -/
theorem t_cmp2 {a b : Expr} {ca cb : Ex} {pos : Pos} {op : Ab.COp} (hK : X.K = B.K) (hu : X.A.units + 66 < cLine) (ha : PE X a (tE B W C ca)) (hb : PE X b (tE B W C cb)) (hs : noSet b = true) : PT X (.Compare a [opC op] [b] pos) (tT B W C (.cmp op ca cb)) :=
  t_cmp (op_cmp hu op) ha hb (mark_of hs) fun σ H Q ⟨φ, F, en, s, rp, re, o⟩ =>
    tM_then (rel := RV B) rp re o fun φ1 F1 H1 a s1 x le rp1 re1 r o1 => tM_then (rel := RV B) rp1 re1 o1 fun φ2 F2 H2 b s2 y le2 rp2 re2 r2 o2 => by
      rw [hK]
      exact cmp_ok rp2 (r.mono le2.le) r2 o2
/-- None or not -/
def nonB : Val → Bool
  | .non => true
  | _ => false
theorem non_or {φ : List Addr} {F : Hp} {x : V} : ∀ {v : Val}, RV B φ F v x → (decide (x = V.non)) = nonB v
  | .non, h => by rw [show x = _ from h]; rfl
  | .bl _, h => by rw [show x = _ from h]; rfl
  | .int _, h => by rw [show x = _ from h]; rfl
  | .str _, h => by rw [h.1]; rfl
  | .tup _, h => by obtain ⟨a, xs, rfl, _⟩ := h; rfl
  | .lst _, h => by obtain ⟨a, xs, rfl, _⟩ := h; rfl
  | .loc _, h => by obtain ⟨a, rfl, _⟩ := h; rfl
  | .scr _, h => by obtain ⟨a, rfl, _⟩ := h; rfl
  | .exc _ _, h => h.elim
theorem t_isN {a : Expr} {ca : Ex} {pos p : Pos} {j : Nat} {n : Bool} (ha : PE X a (tE B W C ca)) : PT X (.Compare a [isOp n] [.Constant .none j p] pos) (tT B W C (.isN n ca)) := by
  cases n with
  | false =>
    refine t_cmp op_isN ha pe_non (mark_of rfl) fun σ H Q ⟨φ, F, en, s, rp, re, o⟩ => tM_then (rel := RV B) rp re o fun φ1 F1 H1 v s1 x le rp1 re1 r o1 => ⟨rfl, ?_⟩
    rw [non_or r]
    cases v <;> exact Out.now o1 rp1 rfl
  | true =>
    refine t_cmp op_notN ha pe_non (mark_of rfl) fun σ H Q ⟨φ, F, en, s, rp, re, o⟩ => tM_then (rel := RV B) rp re o fun φ1 F1 H1 v s1 x le rp1 re1 r o1 => ⟨rfl, ?_⟩
    rw [non_or r]
    cases v <;> exact Out.now o1 rp1 rfl
/-! ### a list is empty, or it is not -/
theorem cs_nil {cs : List Ex} {r : Fr} (h : mEs S cs r [] = true) : cs = [] := by
  cases cs with
  | nil => rfl
  | cons c cs => simp [mEs] at h
theorem stars_of : ∀ {cs : List Ex} {es : List Expr}, mEs S cs r es = true → es.all noStar = true
  | [], es, h => by
    simp only [mEs, List.isEmpty_iff] at h
    rw [h]
    rfl
  | c :: cs, es, h => by
    cases es with
    | nil => simp [mEs] at h
    | cons e l =>
      simp only [mEs, Bool.and_eq_true] at h
      simp only [List.all_cons, Bool.and_eq_true]
      exact ⟨h.1.1, stars_of h.2⟩
theorem len_of : ∀ {cs : List Ex} {es : List Expr}, mEs S cs r es = true → cs.length = es.length
  | [], es, h => by
    simp only [mEs, List.isEmpty_iff] at h
    rw [h]
    rfl
  | c :: cs, es, h => by
    cases es with
    | nil => simp [mEs] at h
    | cons e l =>
      simp only [mEs, Bool.and_eq_true] at h
      simp only [List.length_cons, len_of h.2]
theorem bi_in {b : BI} (h : biOk b = true) : biName b ∈ builtins := by
  cases b <;> first | (cases h; done) | (simp only [biName]; decide +kernel)
theorem kind_in {b : BI} (h : isIs b = true) : (kindOf b : Str) ∈ builtins := by
  cases b <;> first | (cases h; done) | (simp only [kindOf]; decide +kernel)
theorem is_in : ("isinstance" : Str) ∈ builtins := by decide +kernel
theorem range_in : ("range" : Str) ∈ builtins := by decide +kernel
theorem max_in : ("max" : Str) ∈ builtins := by decide +kernel
theorem len_in : ("len" : Str) ∈ builtins := by decide +kernel
theorem set_in : ("set" : Str) ∈ builtins := by decide +kernel
theorem list_in : ("list" : Str) ∈ builtins := by decide +kernel
theorem zip_in : ("zip" : Str) ∈ builtins := by decide +kernel
theorem rev_in : ("reversed" : Str) ∈ builtins := by decide +kernel
end Sn
end
section
set_option Elab.async false
set_option linter.all false
set_option autoImplicit false
set_option maxRecDepth 100000
set_option maxHeartbeats 4000000
/-! The test of SnJ shows what it is to show: expressions. -/
namespace Sn
open PySem L2
open Ab (Val SO Sto Exc R toD toDs BM BI Ex Stm Tg Walk SR)
variable {S : Sta} {B : Bs} {C : Ab.Ctx} {k : Nat}
/-- calls of built-ins -/
theorem bi_shown {X : Cx} {W : WX} {r : Fr} {b : BI} {m : Bool} {cs : List Ex} {e : Expr} (g : Gd S B X W C k r) (h : mE S false (.bi b m cs) r e = true) (ih : ∀ es, mEs S cs r es = true → PA X es (tEs B W C cs)) (ih1 : ∀ c x, cs = [c] → mE S false c r x = true → PE X x (tE B W C c)) :
    PE X e (tE B W C (.bi b m cs)) := by
  simp only [mE, Bool.not_false, Bool.true_or, Bool.true_and] at h
  split at h
  · rename_i n p es q
    simp only [Bool.and_eq_true] at h
    obtain ⟨hg, h⟩ := h
    split at h
    · rename_i hb
      simp only [Bool.and_eq_true, decide_eq_true_eq] at h
      obtain ⟨rfl, h⟩ := h
      split at h
      · rename_i x kn p2
        simp only [Bool.and_eq_true, decide_eq_true_eq] at h
        obtain ⟨⟨rfl, hg2⟩, h⟩ := h
        cases cs with
        | nil => simp [mEs] at h
        | cons c cs =>
          simp only [mEs, Bool.and_eq_true] at h
          obtain ⟨⟨h1, h2⟩, h3⟩ := h
          have hc := cs_nil h3
          subst hc
          exact e_is g.K hb (g.gl hg) (g.bi _ is_in) (g.gl hg2) (g.bi _ (kind_in hb)) (ih1 c x rfl h2) h1
      · cases h
    · simp only [Bool.and_eq_true, decide_eq_true_eq] at h
      obtain ⟨⟨⟨h1, rfl⟩, h2⟩, h3⟩ := h
      cases es with
      | nil => cases h2
      | cons e es => exact e_bi g.K g.calm (by have := g.units; omega) h1 (g.gl hg) (g.bi _ (bi_in h1)) (ih _ h3) (stars_of h3)
  · cases h
/-- built-in methods -/
theorem bm_shown {X : Cx} {W : WX} {r : Fr} {b : BM} {o : Ex} {cs : List Ex} {e : Expr} (g : Gd S B X W C k r) (h : mE S false (.bm b o cs) r e = true) (iho : ∀ x, mE S false o r x = true → PE X x (tE B W C o)) (ih : ∀ es, mEs S cs r es = true → PA X es (tEs B W C cs))
    (ih1 : ∀ (j : Nat) c x, cs[j]? = some c → mE S false c r x = true → PE X x (tE B W C c)) : PE X e (tE B W C (.bm b o cs)) := by
  simp only [mE, Bool.not_false, Bool.true_or, Bool.true_and] at h
  split at h
  · rename_i x n p es q
    simp only [Bool.and_eq_true, decide_eq_true_eq] at h
    obtain ⟨⟨⟨⟨⟨⟨hp, hs⟩, rfl⟩, ho⟩, ha⟩, hl⟩, hk⟩ := h
    have ho := iho _ ho
    have st := stars_of ha
    have plain : ((isL1 b && !es.isEmpty) || (isL0 b && es.isEmpty)) = true → PE X (.Call (.Attribute x (bmName b) p) es [] q) (tE B W C (.bm b o cs)) := fun hk => by
      rcases Bool.or_eq_true .. |>.mp hk with hk | hk
      · simp only [Bool.and_eq_true] at hk
        cases es with
        | nil => cases hk.2
        | cons e es => exact e_l1 g.K (by have := g.units; omega) hk.1 ho (ih _ ha) hs st hl hp
      · simp only [Bool.and_eq_true, List.isEmpty_iff] at hk
        obtain ⟨h1, rfl⟩ := hk
        rw [cs_nil ha]
        exact e_l0 g.K h1 ho hs hp
    cases b with
    | join =>
      have hk : es.length = 1 := of_decide_eq_true hk
      match es, cs, hk, ha with
      | [e], [], _, ha => simp [mEs] at ha
      | [e], [c], _, ha => exact e_join g.K ho (ih _ ha) hs (by simpa using st) hp
      | [e], _ :: _ :: _, _, ha => simp [mEs] at ha
    | get1 =>
      have hk : es.length = 1 := of_decide_eq_true hk
      match es, cs, hk, ha with
      | [e], [], _, ha => simp [mEs] at ha
      | [e], [c], _, ha =>
        simp only [mEs, Bool.and_eq_true] at ha
        exact e_get1 (by have := g.units; omega) ho (ih1 0 c e rfl ha.1.2) hs ha.1.1 hp
      | [e], _ :: _ :: _, _, ha => simp [mEs] at ha
    | get2 =>
      have hk : es.length = 2 := of_decide_eq_true hk
      match es, cs, hk, ha with
      | [e, f], [], _, ha => simp [mEs] at ha
      | [e, f], [_], _, ha => simp [mEs] at ha
      | [e, f], [c, d], _, ha =>
        simp only [mEs, Bool.and_eq_true] at ha
        exact e_get2 (by have := g.units; omega) ho (ih1 0 c e rfl ha.1.2) (ih1 1 d f rfl ha.2.1.2) hs ha.1.1 ha.2.1.1 hp
      | [e, f], _ :: _ :: _ :: _, _, ha => simp [mEs] at ha
    | _ => exact plain hk
  · cases h
/-- a comprehension's parts -/
theorem parts_of {X : Cx} {W : WX} {r : Fr} {celt : Ex} {tg : Tg} {it : Ab.It} {cond : Option Ex} {ws : List Nat} {x gt i : Expr} {ifs : List Expr} {scope : Scope} (g : Gd S B X W C k r) (hb : blkB r.N r.sc scope ws = true) (hi : noSet i = true) (hs : ((slots tg).all fun j => decide (j ∈ ws)) = true) (hg : mG (r.blk scope) tg gt = true)
    (ihI : PI X gt i (tI B W C it)) (ihC : ∀ {X' : Cx}, Gd S B X' W0 C k (r.blk scope) → PTs X' ifs (tC' B W0 C cond)) (ihE : ∀ {X' : Cx}, Gd S B X' W0 C k (r.blk scope) → PE X' x (tE B W0 C celt)) :
    Parts B X W C x gt i ifs scope (ownOf r.N ws) celt tg it cond ws where
  hK := g.K
  calm := g.calm
  nd := g.nd
  it := ihI
  blk := by
    have := blk_of hb
    rw [g.N, g.sc]
    exact this
  own := own_map _ _
  sub := fun j hj => of_decide_eq_true (List.all_eq_true.mp hs j hj)
  tg := fun s H Cc cl fp => g_ok (g.blk s H scope cl Cc fp) hg
  cond := fun s H Cc cl fp => ihC (g.blk s H scope cl Cc fp)
  elt := fun s H Cc cl fp => ihE (g.blk s H scope cl Cc fp)
  noset := hi
/-- and, or: as values and as tests -/
def Shown2 (B : Bs) (X : Cx) (W : WX) (C : Ab.Ctx) (t : Bool) (c : Ex) (e : Expr) : Prop := match t with
  | false => PE X e (tE B W C c)
  | true => PW X e (tT B W C c)
theorem shown2 {X : Cx} {W : WX} {t : Bool} {c : Ex} {e : Expr} (h : Shown2 B X W C t c e) : Shown B X W C t c e := by
  cases t with
  | false => exact h
  | true => exact PW.pt h
theorem and_shown {X : Cx} {W : WX} {r : Fr} (a b : Ex) (iha : ∀ (t : Bool) e, mE S t a r e = true → Shown B X W C t a e) (ihb : ∀ (t : Bool) e, mE S t b r e = true → Shown B X W C t b e) (ihb2 : ∀ (t : Bool) x l p, mE S t b r (.BoolOp .And (x :: l) p) = true → Shown2 B X W C t b (.BoolOp .And (x :: l) p))
    {t : Bool} {e : Expr} (h : mE S t (.andE a b) r e = true) : ∃ x l p, e = .BoolOp .And (x :: l) p ∧ Shown2 B X W C t (.andE a b) e := by
  simp only [mE] at h
  split at h
  · rename_i x y l p
    simp only [Bool.and_eq_true] at h
    refine ⟨_, _, _, rfl, ?_⟩
    have ha := iha t x h.1
    have hb : Shown2 B X W C t b (.BoolOp .And (y :: l) p) := by
      split at h
      · have := ihb t y h.2
        cases t with
        | false => exact pe_one this
        | true => exact pw_and1 this
      · exact ihb2 t _ _ _ h.2
    cases t with
    | false => exact e_and ha hb
    | true => exact w_and ha hb
  · cases h
theorem or_shown {X : Cx} {W : WX} {r : Fr} (a b : Ex) (iha : ∀ (t : Bool) e, mE S t a r e = true → Shown B X W C t a e) (ihb : ∀ (t : Bool) e, mE S t b r e = true → Shown B X W C t b e) (ihb2 : ∀ (t : Bool) x l p, mE S t b r (.BoolOp .Or (x :: l) p) = true → Shown2 B X W C t b (.BoolOp .Or (x :: l) p))
    {t : Bool} {e : Expr} (h : mE S t (.orE a b) r e = true) : ∃ x l p, e = .BoolOp .Or (x :: l) p ∧ Shown2 B X W C t (.orE a b) e := by
  simp only [mE] at h
  split at h
  · rename_i x y l p
    simp only [Bool.and_eq_true] at h
    refine ⟨_, _, _, rfl, ?_⟩
    have ha := iha t x h.1
    have hb : Shown2 B X W C t b (.BoolOp .Or (y :: l) p) := by
      split at h
      · have := ihb t y h.2
        cases t with
        | false => exact pe_one this
        | true => exact pw_or1 this
      · exact ihb2 t _ _ _ h.2
    cases t with
    | false => exact e_or ha hb
    | true => exact w_or ha hb
  · cases h
/-- which codes are written with and, with or -/
def isAnd : Ex → Bool
  | .andE _ _ => true
  | _ => false
def isOr : Ex → Bool
  | .orE _ _ => true
  | _ => false
theorem and_only {t : Bool} {c : Ex} {r : Fr} {es : List Expr} {p : Pos} (h : mE S t c r (.BoolOp .And es p) = true) : isAnd c = true := by
  cases c <;> first | rfl | (simp [mE] at h; done) | (rename_i v; cases v <;> simp [mE, mK] at h)
theorem or_only {t : Bool} {c : Ex} {r : Fr} {es : List Expr} {p : Pos} (h : mE S t c r (.BoolOp .Or es p) = true) : isOr c = true := by
  cases c <;> first | rfl | (simp [mE] at h; done) | (rename_i v; cases v <;> simp [mE, mK] at h)
end Sn
end
section
set_option Elab.async false
set_option linter.all false
set_option autoImplicit false
set_option maxRecDepth 100000
set_option maxHeartbeats 4000000
/-! .. all expressions. -/
namespace Sn
open PySem L2
open Ab (Val SO Sto Exc R toD toDs BM BI Ex Stm Tg Walk SR)
section
variable {S : Sta} {B : Bs} {C : Ab.Ctx} {k : Nat}
mutual
theorem sE : ∀ (c : Ex) {X : Cx} {W : WX} {r : Fr} {t : Bool} {e : Expr}, Gd S B X W C k r → mE S t c r e = true → Shown B X W C t c e
  | .var i, X, W, r, t, e, g, h => by
    simp only [mE, Bool.and_eq_true] at h
    refine shown_of ?_ h.1
    have h := h.2
    split at h
    · simp only [Bool.and_eq_true, decide_eq_true_eq] at h
      exact e_var (by rw [g.N]; exact h.1.1.1) (g.vis h.1.1.2) (not_bug h.1.2) (not_bug2 h.2)
    · cases h
  | .cst v, X, W, r, t, e, g, h => by
    simp only [mE, Bool.and_eq_true] at h
    exact shown_of (k_ok h.2) h.1
  | .bin op m a b, X, W, r, t, e, g, h => by
    simp only [mE, Bool.and_eq_true] at h
    refine shown_of ?_ h.1
    have h := h.2
    split at h
    · simp only [Bool.and_eq_true, decide_eq_true_eq] at h
      obtain ⟨⟨rfl, h1⟩, h2⟩ := h
      exact e_bin g.K (sE a (t := false) g h1) (sE b (t := false) g h2)
    · cases h
  | .cmp op a b, X, W, r, t, e, g, h => by
    simp only [mE] at h
    split at h
    · simp only [Bool.and_eq_true, decide_eq_true_eq] at h
      obtain ⟨⟨⟨rfl, hs⟩, h1⟩, h2⟩ := h
      cases t with
      | false => exact e_cmp g.K g.units (sE a (t := false) g h1) (sE b (t := false) g h2) hs
      | true => exact t_cmp2 g.K g.units (sE a (t := false) g h1) (sE b (t := false) g h2) hs
    · cases h
  | .glob i, X, W, r, t, e, g, h => by
    simp only [mE, Bool.and_eq_true] at h
    refine shown_of ?_ h.1
    have h := h.2
    split at h
    · simp only [Bool.and_eq_true, decide_eq_true_eq] at h
      exact e_glob (g.gl h.1.2) (not_bug h.2) (g.glo i _ h.1.1)
    · cases h
  | .inK i n a, X, W, r, t, e, g, h => by
    simp only [mE] at h
    split at h
    · simp only [Bool.and_eq_true, decide_eq_true_eq] at h
      obtain ⟨⟨⟨⟨rfl, h1⟩, h2⟩, h3⟩, h4⟩ := h
      cases t with
      | false => exact e_inK g.K (g.gl h2) (not_bug h3) (g.gtu i _ h1) (sE a (t := false) g h4)
      | true => exact t_inK g.K (g.gl h2) (not_bug h3) (g.gtu i _ h1) (sE a (t := false) g h4)
    · cases h
  | .listK i m, X, W, r, t, e, g, h => by
    simp only [mE, Bool.and_eq_true] at h
    refine shown_of ?_ h.1
    have h := h.2
    split at h
    · simp only [Bool.and_eq_true, decide_eq_true_eq] at h
      obtain ⟨⟨⟨⟨rfl, h1⟩, h2⟩, h3⟩, h4⟩ := h
      exact e_listK g.K (g.gl h1) (g.bi _ list_in) (g.gl h3) (not_bug h4) (g.gtu i _ h2)
    · cases h
  | .maxD c, X, W, r, t, e, g, h => by
    simp only [mE, Bool.and_eq_true] at h
    refine shown_of ?_ h.1
    have h := h.2
    split at h
    · simp only [Bool.and_eq_true, decide_eq_true_eq] at h
      obtain ⟨⟨⟨⟨rfl, h1⟩, rfl⟩, h3⟩, h4⟩ := h
      exact e_maxD g.K g.calm (by have := g.units; omega) (g.gl h1) (g.bi _ max_in) (sE c (t := false) g h4) h3
    · cases h
  | .lenset c, X, W, r, t, e, g, h => by
    simp only [mE, Bool.and_eq_true] at h
    refine shown_of ?_ h.1
    have h := h.2
    split at h
    · simp only [Bool.and_eq_true, decide_eq_true_eq] at h
      obtain ⟨⟨⟨⟨⟨rfl, h1⟩, rfl⟩, h3⟩, h4⟩, h5⟩ := h
      exact e_lenset g.K g.calm (g.gl h1) (g.bi _ len_in) (g.gl h3) (g.bi _ set_in) (sE c (t := false) g h5) h4
    · cases h
  | .isN n a, X, W, r, t, e, g, h => by
    simp only [mE] at h
    split at h
    · simp only [Bool.and_eq_true, decide_eq_true_eq] at h
      obtain ⟨rfl, h1⟩ := h
      cases t with
      | false => exact e_isN (sE a (t := false) g h1)
      | true => exact t_isN (sE a (t := false) g h1)
    · cases h
  | .andE a b, X, W, r, t, e, g, h => by
    obtain ⟨_, _, _, rfl, h⟩ := sB (.andE a b) rfl g h
    exact shown2 h
  | .orE a b, X, W, r, t, e, g, h => by
    obtain ⟨_, _, _, rfl, h⟩ := sD (.orE a b) rfl g h
    exact shown2 h
  | .notE a, X, W, r, t, e, g, h => by
    simp only [mE] at h
    split at h
    · cases t with
      | false => exact e_not (sE a (t := false) g h)
      | true => exact t_not (sE a (t := true) g h)
    · cases h
  | .ite c a b, X, W, r, t, e, g, h => by
    simp only [mE, Bool.and_eq_true] at h
    cases t with
    | true => cases h.1
    | false =>
      have h := h.2
      split at h
      · simp only [Bool.and_eq_true] at h
        exact e_ite (sE c (t := true) g h.1.1) (sE a (t := false) g h.1.2) (sE b (t := false) g h.2)
      · cases h
  | .tup cs, X, W, r, t, e, g, h => by
    simp only [mE, Bool.and_eq_true] at h
    refine shown_of ?_ h.1
    have h := h.2
    split at h
    · exact e_tup (sEs cs g h)
    · cases h
  | .lst m cs, X, W, r, t, e, g, h => by
    simp only [mE, Bool.and_eq_true] at h
    refine shown_of ?_ h.1
    have h := h.2
    split at h
    · exact e_lst (sEs cs g h)
    · cases h
  | .dS ks vs, X, W, r, t, e, g, h => by
    simp only [mE, Bool.and_eq_true] at h
    refine shown_of ?_ h.1
    have h := h.2
    split at h
    · simp only [Bool.and_eq_true, List.isEmpty_iff] at h
      obtain ⟨rfl, rfl⟩ := h
      exact e_dS
    · cases h
  | .dT, X, W, r, t, e, g, h => by
    simp only [mE, Bool.and_eq_true] at h
    refine shown_of ?_ h.1
    have h := h.2
    split at h
    · exact e_dT
    · cases h
  | .item a i, X, W, r, t, e, g, h => by
    simp only [mE, Bool.and_eq_true] at h
    refine shown_of ?_ h.1
    have h := h.2
    split at h
    · simp only [Bool.and_eq_true] at h
      exact e_item g.K (by have := g.units; omega) (sE a (t := false) g h.1.2) (sE i (t := false) g h.2) h.1.1
    · cases h
  | .slice m a lo hi, X, W, r, t, e, g, h => by
    simp only [mE, Bool.and_eq_true] at h
    refine shown_of ?_ h.1
    have h := h.2
    split at h
    · simp only [Bool.and_eq_true] at h
      exact e_slice g.K (sE a (t := false) g h.1.1) (sO lo g h.1.2) (sO hi g h.2)
    · cases h
  | .fld a f, X, W, r, t, e, g, h => by
    simp only [mE, Bool.and_eq_true] at h
    refine shown_of ?_ h.1
    have h := h.2
    split at h
    · simp only [Bool.and_eq_true, decide_eq_true_eq] at h
      obtain ⟨⟨h1, h2⟩, h3⟩ := h
      rw [← (g.fld f _ h1).1]
      exact e_fld g.K g.cl (sE a (t := false) g h3) h2
    · cases h
  | .bi b m cs, X, W, r, t, e, g, h => by
    have h0 : (!t || plainT e) = true := by
      simp only [mE, Bool.and_eq_true] at h
      exact h.1
    have h1 : mE S false (.bi b m cs) r e = true := by
      simp only [mE, Bool.and_eq_true] at h
      simp only [mE, Bool.not_false, Bool.true_or, Bool.true_and]
      exact h.2
    refine shown_of (bi_shown g h1 (fun es he => sEs cs g he) fun c x hc hx => ?_) h0
    match cs, hc with
    | [c], rfl => exact sE c (t := false) g hx
  | .vals _ _, X, W, r, t, e, g, h => by simp [mE] at h
  | .bm b o cs, X, W, r, t, e, g, h => by
    have h0 : (!t || plainT e) = true := by
      simp only [mE, Bool.and_eq_true] at h
      exact h.1
    have h1 : mE S false (.bm b o cs) r e = true := by
      simp only [mE, Bool.and_eq_true] at h
      simp only [mE, Bool.not_false, Bool.true_or, Bool.true_and]
      exact h.2
    exact shown_of (bm_shown g h1 (fun x hx => sE o (t := false) g hx) (fun es he => sEs cs g he) fun j c x hc hx => sN cs hc g hx) h0
  | .call f cs, X, W, r, t, e, g, h => by
    simp only [mE, Bool.and_eq_true] at h
    refine shown_of ?_ h.1
    have h := h.2
    split at h
    · rename_i n p es q _
      simp only [Bool.and_eq_true, decide_eq_true_eq] at h
      obtain ⟨⟨⟨h1, h2⟩, h3⟩, h4⟩ := h
      obtain ⟨a, f1, f2, f3⟩ := g.fn f n h1
      cases es with
      | nil =>
        rw [cs_nil h4]
        exact e_call0 f3 g.rm g.tk g.fl (g.gl h2) f1 f2 (not_bug h3)
      | cons x l => exact e_call f3 g.rm g.tk g.fl (g.gl h2) f1 f2 (sEs cs g h4) (stars_of h4) (not_bug h3)
    · cases h
  | .mk c cs, X, W, r, t, e, g, h => by
    simp only [mE, Bool.and_eq_true] at h
    refine shown_of ?_ h.1
    have h := h.2
    split at h
    · rename_i n p es q _
      simp only [Bool.and_eq_true, decide_eq_true_eq] at h
      obtain ⟨⟨⟨h1, h2⟩, h3⟩, h4⟩ := h
      obtain ⟨f0, f1, a, f2, f3⟩ := g.cs c n h1
      cases es with
      | nil =>
        rw [cs_nil h4]
        exact e_mk0 f2 f3 f0 g.rm g.tk g.fl (g.gl h2) f1 (not_bug h3)
      | cons x l => exact e_mk f2 f3 f0 g.rm g.tk g.fl (g.gl h2) f1 (sEs cs g h4) (stars_of h4) (not_bug h3)
    · cases h
  | .meth m o cs, X, W, r, t, e, g, h => by
    simp only [mE, Bool.and_eq_true] at h
    refine shown_of ?_ h.1
    have h := h.2
    split at h
    · rename_i x n p es q _
      simp only [Bool.and_eq_true, decide_eq_true_eq] at h
      obtain ⟨⟨⟨⟨⟨h1, h2⟩, h3⟩, h4⟩, h5⟩, h6⟩ := h
      cases es with
      | nil =>
        rw [cs_nil h5]
        exact e_meth0 (g.mt m n h3) g.rm g.tk (sE o (t := false) g h4) h2 h1
      | cons y l => exact e_meth (g.mt m n h3) g.rm g.tk (sE o (t := false) g h4) (sEs cs g h5) h2 (stars_of h5) h6 h1
    · cases h
  | .methD m o cs, X, W, r, t, e, g, h => by
    simp only [mE, Bool.and_eq_true] at h
    refine shown_of ?_ h.1
    have h := h.2
    split at h
    · rename_i x n p es q _
      simp only [Bool.and_eq_true, decide_eq_true_eq, List.any_eq_true] at h
      obtain ⟨⟨⟨⟨⟨⟨⟨h1, h2⟩, h3⟩, h4⟩, h5⟩, h6⟩, h7⟩, ⟨m', y⟩, h8, h9⟩ := h
      have h9 : m' = m := by simpa using h9
      subst h9
      cases es with
      | nil => cases h7
      | cons z l => exact e_methD (g.md m' n y h8 h3) g.rm g.tk g.fl (sE o (t := false) g h4) (sEs cs g h5) h2 (stars_of h5) h6 h1
    · cases h
  | .methK m o cs c, X, W, r, t, e, g, h => by
    simp only [mE, Bool.and_eq_true] at h
    refine shown_of ?_ h.1
    have h := h.2
    split at h
    · rename_i x n p es y z kp q _
      simp only [Bool.and_eq_true, decide_eq_true_eq] at h
      obtain ⟨⟨⟨⟨⟨⟨⟨⟨h1, h2⟩, h3⟩, h4⟩, h5⟩, h6⟩, h7⟩, h8⟩, h9⟩ := h
      cases es with
      | nil => cases h7
      | cons z' l => exact e_methK (g.md m n y h8 h3) g.rm g.tk g.fl (sE o (t := false) g h4) (sEs cs g h5) (sE c (t := false) g h9) h2 (stars_of h5) h6 h1
    · cases h
  | .comp m elt tg it cond ws, X, W, r, t, e, g, h => by
    simp only [mE, Bool.and_eq_true] at h
    refine shown_of ?_ h.1
    have h := h.2
    split at h
    · rename_i x gt i ifs a scope q
      simp only [Bool.and_eq_true, decide_eq_true_eq] at h
      obtain ⟨⟨⟨⟨⟨⟨⟨rfl, h1⟩, h2⟩, h3⟩, h4⟩, h5⟩, h6⟩, h7⟩ := h
      exact e_comp (parts_of g h1 h2 h3 h5 (sI it g h4) (fun g' => sC cond g' h6) fun g' => sE elt (t := false) g' h7)
    · cases h
theorem sB : ∀ (c : Ex), isAnd c = true → ∀ {X : Cx} {W : WX} {r : Fr} {t : Bool} {e : Expr}, Gd S B X W C k r → mE S t c r e = true → ∃ x l p, e = .BoolOp .And (x :: l) p ∧ Shown2 B X W C t c e
  | .andE a b, _, X, W, r, t, e, g, h => and_shown a b (fun t e h => sE a g h) (fun t e h => sE b g h) (fun t x l p h => by
      obtain ⟨_, _, _, e, h'⟩ := sB b (and_only h) g h
      exact h') h
theorem sD : ∀ (c : Ex), isOr c = true → ∀ {X : Cx} {W : WX} {r : Fr} {t : Bool} {e : Expr}, Gd S B X W C k r → mE S t c r e = true → ∃ x l p, e = .BoolOp .Or (x :: l) p ∧ Shown2 B X W C t c e
  | .orE a b, _, X, W, r, t, e, g, h => or_shown a b (fun t e h => sE a g h) (fun t e h => sE b g h) (fun t x l p h => by
      obtain ⟨_, _, _, e, h'⟩ := sD b (or_only h) g h
      exact h') h
theorem sEs : ∀ (cs : List Ex) {X : Cx} {W : WX} {r : Fr} {es : List Expr}, Gd S B X W C k r → mEs S cs r es = true → PA X es (tEs B W C cs)
  | [], X, W, r, es, g, h => by
    simp only [mEs, List.isEmpty_iff] at h
    rw [h]
    exact a_nil
  | c :: cs, X, W, r, es, g, h => by
    cases es with
    | nil => simp [mEs] at h
    | cons e l =>
      simp only [mEs, Bool.and_eq_true] at h
      exact a_cons (sE c (t := false) g h.1.2) (sEs cs g h.2) h.1.1
theorem sN : ∀ (cs : List Ex) {j : Nat} {c : Ex}, cs[j]? = some c → ∀ {X : Cx} {W : WX} {r : Fr} {x : Expr}, Gd S B X W C k r → mE S false c r x = true → PE X x (tE B W C c)
  | [], _, _, h, _, _, _, _, _, _ => by simp at h
  | d :: cs, 0, c, h, X, W, r, x, g, hx => by
    have : d = c := by simpa using h
    subst this
    exact sE d (t := false) g hx
  | d :: cs, j + 1, c, h, X, W, r, x, g, hx => sN cs (j := j) (by simpa using h) g hx
theorem sO : ∀ (c : Option Ex) {X : Cx} {W : WX} {r : Fr} {e : Option Expr}, Gd S B X W C k r → mO S c r e = true → PO X e (tO B W C c)
  | none, X, W, r, e, g, h => by
    simp only [mO, Option.isNone_iff_eq_none] at h
    rw [h]
    exact o_none
  | some c, X, W, r, e, g, h => by
    simp only [mO] at h
    split at h
    · exact o_some (sE c (t := false) g h)
    · cases h
theorem sC : ∀ (c : Option Ex) {X : Cx} {W : WX} {r : Fr} {es : List Expr}, Gd S B X W C k r → mC S c r es = true → PTs X es (tC' B W C c)
  | none, X, W, r, es, g, h => by
    simp only [mC, List.isEmpty_iff] at h
    rw [h]
    exact c_none
  | some c, X, W, r, es, g, h => by
    simp only [mC] at h
    split at h
    · exact c_some (sE c (t := true) g h)
    · cases h
theorem sI : ∀ (c : Ab.It) {X : Cx} {W : WX} {r : Fr} {tg e : Expr}, Gd S B X W C k r → mI S c r tg e = true → PI X tg e (tI B W C c)
  | .val c, X, W, r, tg, e, g, h => by
    simp only [mI] at h
    exact i_val g.K (sE c (t := false) g h)
  | .rng1 c, X, W, r, tg, e, g, h => by
    simp only [mI] at h
    split at h
    · simp only [Bool.and_eq_true, decide_eq_true_eq] at h
      obtain ⟨⟨⟨rfl, h1⟩, h2⟩, h3⟩ := h
      exact i_rng1 (g.gl h1) (g.bi _ range_in) (a_cons (sE c (t := false) g h3) a_nil h2) h2
    · cases h
  | .rng2 c d, X, W, r, tg, e, g, h => by
    simp only [mI] at h
    split at h
    · simp only [Bool.and_eq_true, decide_eq_true_eq] at h
      obtain ⟨⟨⟨⟨⟨rfl, h1⟩, h2⟩, h3⟩, h4⟩, h5⟩ := h
      exact i_rng2 (g.gl h1) (g.bi _ range_in) (a_cons (sE c (t := false) g h4) (a_cons (sE d (t := false) g h5) a_nil h3) h2) h2 h3
    · cases h
  | .rrng c, X, W, r, tg, e, g, h => by
    simp only [mI] at h
    split at h
    · simp only [Bool.and_eq_true, decide_eq_true_eq] at h
      obtain ⟨⟨⟨⟨⟨rfl, h1⟩, rfl⟩, h3⟩, h4⟩, h5⟩ := h
      exact i_rrng (g.gl h1) (g.bi _ rev_in) (g.gl h3) (g.bi _ range_in) (sE c (t := false) g h5) h4
    · cases h
  | .enum _, X, W, r, tg, e, g, h => by simp [mI] at h
  | .zip c d, X, W, r, tg, e, g, h => by
    cases tg with
    | Tuple es kk p =>
      simp only [mI] at h
      split at h
      · simp only [Bool.and_eq_true, decide_eq_true_eq] at h
        obtain ⟨⟨⟨⟨⟨rfl, h1⟩, h2⟩, h3⟩, h4⟩, h5⟩ := h
        exact i_zip g.K (g.gl h1) (g.bi _ zip_in) (a_cons (sE c (t := false) g h4) (a_cons (sE d (t := false) g h5) a_nil h3) h2) h2 h3
      · cases h
    | _ => simp [mI] at h
  | .keys _, X, W, r, tg, e, g, h => by simp [mI] at h
end
end
end Sn
end
section
set_option Elab.async false
set_option linter.all false
set_option autoImplicit false
set_option maxRecDepth 100000
set_option maxHeartbeats 4000000
/-! The code of the machine against the program's text: statements. -/
namespace Sn
open PySem L2
open Ab (Val SO Sto Exc R toD toDs BM BI Ex Stm Tg Walk SR)
/-- [..] on the name's own line -/
def swapB (sc : Scope) (x : Str) (p : Pos) : Expr → Bool
  | .ListComp _ _ s q => (sc.names.lookup x == some .local) && (p.line == q.line) && !(s.names.any fun (n, k) => n == x && (k == .local || k == .cell))
  | _ => false
def noSD : Expr → Bool
  | .SetComp _ _ _ _ => false
  | .DictComp _ _ _ _ _ => false
  | _ => true
theorem swap_name {e : Expr} {x : Str} {p : Pos} {l : Nat} {env : Env} (hk : (env.blockKind == .function) = true) (h : noSD e = true) : swapsWith e (some (.Name x p)) l env = pure (swapB env.scope x p e) := by
  cases e with
  | ListComp a b s q =>
    show pure (env.blockKind == .function && env.kindOf x == some .local && p.line == q.line && !(s.names.any fun (n, k) => n == x && (k == .local || k == .cell))) = pure _
    rw [hk]
    rfl
  | SetComp _ _ _ _ => cases h
  | DictComp _ _ _ _ _ => cases h
  | _ => rfl
mutual
def mS (S : Sta) : Stm → Fr → Stmt → Bool
  | .asg t c, r, st => match st with
    | .Assign [.Name x p] v _ => noSD v && (match t with
      | .name i => decide (r.N[i]? = some x) && r.sets x && mE S false c r v && (!swapB r.sc x p v || decide (r.sc.names.lookup x = some .local))
      | _ => false)
    | .Assign [.Tuple es _ _] v _ => (match t with
      | .names is => mN r is es && noTup v && mE S false c r v
      | _ => false)
    | _ => false
  | .asgF o f c, r, st => match st with
    | .Assign [.Attribute x n _] v _ => decide (S.flds[f]? = some (some n)) && mE S false o r x && mE S false c r v
    | _ => false
  | .asgI o i c, r, st => match st with
    | .Assign [.Subscript x y _] v _ => noSlice y && mE S false o r x && mE S false i r y && mE S false c r v
    | _ => false
  | .augN i op c, r, st => match st with
    | .AugAssign (.Name x _) o v _ => isAug op && decide (o = opB op) && decide (r.N[i]? = some x) && r.sets x && mE S false c r v
    | _ => false
  | .augF o f op c, r, st => match st with
    | .AugAssign (.Attribute x n _) k v _ => isAug op && decide (k = opB op) && decide (S.flds[f]? = some (some n)) && mE S false o r x && mE S false c r v
    | _ => false
  | .expr c, r, st => match st with
    | .Expr v _ => noCmp v && mE S false c r v
    | _ => false
  | .ret c, r, st => match st with
    | .Return (some v) _ => mE S false c r v
    | _ => false
  | .retN, r, st => match st with
    | .Return none _ => true
    | _ => false
  | .ifS c a b, r, st => match st with
    | .If v x y _ => mE S true c r v && mSs S a r x && mSs S b r y
    | _ => false
  | .forS t it b, r, st => match st with
    | .For g v x [] _ => noSet v && mG r t g && mI S it r g v && mSs S b r x
    | _ => false
  | .forK t c b, r, st => match st with
    | .For g v x [] _ => noSet v && mG r t g && mE S false c r v && mSs S b r x
    | _ => false
  | .whl c b, r, st => match st with
    | .While v x [] _ => mE S true c r v && mSs S b r x
    | _ => false
  | .pass, _, st => match st with
    | .Pass _ => true
    | .Expr (.Constant (.str _) _ _) _ => true
    | _ => false
  | .brk, _, st => match st with
    | .Break _ => true
    | _ => false
  | .cont, _, st => match st with
    | .Continue _ => true
    | _ => false
  | .stuck, _, _ => true
  | _, _, _ => false
def mSs (S : Sta) : List Stm → Fr → List Stmt → Bool
  | [], _, l => l.isEmpty
  | c :: cs, r, l => match l with
    | st :: l => mS S c r st && mSs S cs r l
    | [] => false
end
/-- what is known where statements run -/
structure GdS (S : Sta) (B : Bs) (X : Cx) (W : WX) (C : Ab.Ctx) (k : Nat) (r : Fr) : Prop extends Gd S B X W C k r where
  ow : PassesOwn (model X.prog X.w) X.A X.env X.xe
  bk : (X.env.blockKind == .function) = true
variable {S : Sta} {B : Bs} {C : Ab.Ctx} {k : Nat}
theorem asg_ok {X : Cx} {W : WX} {r : Fr} {t : Tg} {c : Ex} {st : Stmt} (g : GdS S B X W C k r) (h : mS S (.asg t c) r st = true) : PS X st (tS B W (Ab.exec C (.asg t c))) := by
  simp only [mS] at h
  split at h
  · rename_i x p v q
    simp only [Bool.and_eq_true] at h
    obtain ⟨h0, h⟩ := h
    cases t with
    | names is => cases h
    | name i =>
      simp only [Bool.and_eq_true, decide_eq_true_eq] at h
      obtain ⟨⟨⟨h1, h2⟩, h3⟩, h4⟩ := h
      obtain ⟨l1, l2⟩ := g.sets h2
      have hN : X.N[i]? = some x := by rw [g.N]; exact h1
      have sw := swap_name (x := x) (p := p) (l := q.line) g.bk h0
      cases e : swapB r.sc x p v with
      | false =>
        refine s_set g.nd hN l1 l2 (sE c (t := false) g.toGd h3) ?_
        rw [sw, g.sc, e]
      | true =>
        rw [e] at h4
        have h4 : r.sc.names.lookup x = some .local := by simpa using h4
        cases v with
        | ListComp y gs scope q2 =>
          cases c with
          | comp m celt tg it cond ws =>
            simp only [mE, Bool.not_false, Bool.true_or, Bool.true_and] at h3
            split at h3
            · rename_i x2 gt i2 ifs a scope2 q3 heq
              cases heq
              simp only [Bool.and_eq_true, decide_eq_true_eq] at h3
              obtain ⟨⟨⟨⟨⟨⟨⟨rfl, f1⟩, f2⟩, f3⟩, f4⟩, f5⟩, f6⟩, f7⟩ := h3
              refine s_setC (parts_of g.toGd f1 f2 f3 f5 (sI it g.toGd f4) (fun g' => sC cond g' f6) fun g' => sE celt (t := false) g' f7) hN (by rw [g.sc]; exact h4) ?_
              rw [sw, g.sc, e]
            · cases h3
          | cst v => cases v <;> simp [mE, mK] at h3
          | _ => simp [mE] at h3
        | _ => cases e
  · rename_i es k2 p v q
    cases t with
    | name i => cases h
    | names is =>
      simp only [Bool.and_eq_true] at h
      obtain ⟨⟨h1, h2⟩, h3⟩ := h
      exact s_tup (xs := []) g.K (g_ok g.toGd (t := .names is) (by simpa only [mG] using h1)) (sE c (t := false) g.toGd h3) h2
  · cases h
mutual
theorem sS : ∀ (c : Stm) {X : Cx} {W : WX} {r : Fr} {st : Stmt}, GdS S B X W C k r → mS S c r st = true → PS X st (tS B W (Ab.exec C c))
  | .asg t c, X, W, r, st, g, h => asg_ok g h
  | .asgF o f c, X, W, r, st, g, h => by
    simp only [mS] at h
    split at h
    · simp only [Bool.and_eq_true, decide_eq_true_eq] at h
      obtain ⟨⟨h1, h2⟩, h3⟩ := h
      obtain ⟨e, hf⟩ := g.fld f _ h1
      rw [← e]
      exact s_fld g.K g.cl hf (sE o (t := false) g.toGd h2) (sE c (t := false) g.toGd h3)
    · cases h
  | .asgI o i c, X, W, r, st, g, h => by
    simp only [mS] at h
    split at h
    · simp only [Bool.and_eq_true] at h
      obtain ⟨⟨⟨h1, h2⟩, h3⟩, h4⟩ := h
      exact s_sub (by have := g.units; omega) (sE o (t := false) g.toGd h2) (sE i (t := false) g.toGd h3) (sE c (t := false) g.toGd h4) h1
    · cases h
  | .augN i op c, X, W, r, st, g, h => by
    simp only [mS] at h
    split at h
    · simp only [Bool.and_eq_true, decide_eq_true_eq] at h
      obtain ⟨⟨⟨⟨h1, rfl⟩, h2⟩, h3⟩, h4⟩ := h
      obtain ⟨l1, l2⟩ := g.sets h3
      exact s_augN h1 g.nd (by rw [g.N]; exact h2) l1 l2 (sE c (t := false) g.toGd h4)
    · cases h
  | .augF o f op c, X, W, r, st, g, h => by
    simp only [mS] at h
    split at h
    · simp only [Bool.and_eq_true, decide_eq_true_eq] at h
      obtain ⟨⟨⟨⟨h1, rfl⟩, h2⟩, h3⟩, h4⟩ := h
      obtain ⟨e, hf⟩ := g.fld f _ h2
      rw [← e]
      exact s_augF h1 g.K g.cl hf (sE o (t := false) g.toGd h3) (sE c (t := false) g.toGd h4)
    · cases h
  | .expr c, X, W, r, st, g, h => by
    simp only [mS] at h
    split at h
    · simp only [Bool.and_eq_true] at h
      exact s_expr (sE c (t := false) g.toGd h.2) h.1
    · cases h
  | .ret c, X, W, r, st, g, h => by
    simp only [mS] at h
    split at h
    · exact s_ret (sE c (t := false) g.toGd h)
    · cases h
  | .retN, X, W, r, st, g, h => by
    simp only [mS] at h
    split at h
    · exact s_retN
    · cases h
  | .ifS c a b, X, W, r, st, g, h => by
    simp only [mS] at h
    split at h
    · simp only [Bool.and_eq_true] at h
      exact s_if (sE c (t := true) g.toGd h.1.1) (sSs a g h.1.2) (sSs b g h.2)
    · cases h
  | .forS t it b, X, W, r, st, g, h => by
    simp only [mS] at h
    split at h
    · simp only [Bool.and_eq_true] at h
      exact s_for g.ow g.calm (sI it g.toGd h.1.2) (g_ok g.toGd h.1.1.2) (sSs b g h.2) h.1.1.1
    · cases h
  | .forK t c b, X, W, r, st, g, h => by
    simp only [mS] at h
    split at h
    · simp only [Bool.and_eq_true] at h
      exact s_forK g.ow g.calm (sE c (t := false) g.toGd h.1.2) (g_ok g.toGd h.1.1.2) (sSs b g h.2) h.1.1.1
    · cases h
  | .whl c b, X, W, r, st, g, h => by
    simp only [mS] at h
    split at h
    · simp only [Bool.and_eq_true] at h
      exact s_while g.ow (sE c (t := true) g.toGd h.1) (sSs b g h.2)
    · cases h
  | .pass, X, W, r, st, g, h => by
    simp only [mS] at h
    split at h
    · exact s_pass
    · exact s_doc
    · cases h
  | .brk, X, W, r, st, g, h => by
    simp only [mS] at h
    split at h
    · exact s_brk
    · cases h
  | .cont, X, W, r, st, g, h => by
    simp only [mS] at h
    split at h
    · exact s_cont
    · cases h
  | .stuck, X, W, r, st, g, h => s_stuck
  | .raise _ _, X, W, r, st, g, h => by simp [mS] at h
  | .tryS _ _ _ _, X, W, r, st, g, h => by simp [mS] at h
theorem sSs : ∀ (cs : List Stm) {X : Cx} {W : WX} {r : Fr} {l : List Stmt}, GdS S B X W C k r → mSs S cs r l = true → PSs X l (tS B W (Ab.execs C cs))
  | [], X, W, r, l, g, h => by
    simp only [mSs, List.isEmpty_iff] at h
    rw [h]
    exact b_nil
  | c :: cs, X, W, r, l, g, h => by
    simp only [mSs] at h
    split at h
    · simp only [Bool.and_eq_true] at h
      exact b_cons (sS c g h.1) (sSs cs g h.2)
    · cases h
end
end Sn
end
section
set_option Elab.async false
set_option linter.all false
set_option autoImplicit false
set_option maxRecDepth 100000
set_option maxHeartbeats 4000000
/-! The defs of a program, all levels at once. -/
namespace Sn
open PySem L2
open Ab (Val SO Sto Exc R toD toDs BM BI Ex Stm Tg Walk SR)
/-- a def as it is written and as the machine has it -/
structure Txt where
  x : Str
  qual : Str
  params : Arguments
  body : List Stmt
  sc : Scope
  N : List Str
  ps : List Str
  code : List Stm
def Txt.fr (D : Txt) : Fr := ⟨D.N, D.sc, fun _ => true⟩
def scopeB (N P : List Str) (sc : Scope) : Bool :=
  decide (sc.kind = .function) && !sc.isCoroutine && !sc.isGenerator && decide N.Nodup && decide (N.take P.length = P) && (P.all fun x => decide (sc.names.lookup x = some .local) || decide (sc.names.lookup x = some .cell)) && (sc.names.all fun y => !decide (y.2 = .free))
theorem scope_of {N P : List Str} {sc : Scope} (h : scopeB N P sc = true) : FnScope N P sc := by
  simp only [scopeB, Bool.and_eq_true, decide_eq_true_eq, Bool.not_eq_true', List.all_eq_true, Bool.or_eq_true, decide_eq_false_iff_not] at h
  obtain ⟨⟨⟨⟨⟨⟨h1, h2⟩, h3⟩, h4⟩, h5⟩, h6⟩, h7⟩ := h
  exact ⟨h1, h2, h3, h4, h5, h6, h7⟩
/-- all that is to be computed of a def -/
def Txt.ok (S : Sta) (D : Txt) : Bool := scopeB D.N D.ps D.sc && mSs S D.code D.fr D.body
section
variable {S : Sta} {B : Bs} {T : Ab.Tab} {P : Program} {w : World} {K : PySem.W.Frag} {mg : Str → Option Value} {base : Heap}
/-- the def at an address is the machine's f -/
def At (S : Sta) (K : PySem.W.Frag) (T : Ab.Tab) (f : Nat) (a : Addr) : Prop :=
  ∃ (D : Txt) (dvs : List V) (fd : FuncData), FunD K D.x D.qual D.params D.body D.sc dvs [] a fd ∧ Binds K fd D.ps [] ∧ D.ok S = true ∧ T.code f = some ⟨D.ps.length, D.N.length, D.code⟩
/-- .. whose last parameter may lack -/
def At1 (S : Sta) (K : PySem.W.Frag) (T : Ab.Tab) (f : Nat) (a : Addr) (y : Str) : Prop :=
  ∃ (D : Txt) (dvs : List V) (fd : FuncData), FunD K D.x D.qual D.params D.body D.sc dvs [] a fd ∧ Takes1 K fd D.ps y (.bl false) ∧ D.ok S = true ∧ T.code f = some ⟨D.ps.length, D.N.length, D.code⟩
/-- what the top has made -/
structure Wd (S : Sta) (B : Bs) (T : Ab.Tab) (K : PySem.W.Frag) (mg : Str → Option Value) : Prop where
  eqK : B.K = K
  cl : ClsOk B B.K
  fld : ∀ (i : Nat) x, S.flds[i]? = some (some x) → B.fld i = x ∧ B.okF i = true
  bi : ∀ b ∈ builtins, mg b = none
  fn : ∀ (f : Nat) x, S.fns[f]? = some (some x) → ∃ a, mg x = some (.ref a) ∧ PySem.W.keepIn K (.ref a) = true ∧ At S K T f a
  cs : ∀ (c : Nat) x, S.cls[c]? = some (some x) → B.okC c = true ∧ mg x = some (.ref (B.A c)) ∧ ∃ a, Mk K (B.A c) a ∧ At S K T (T.init c) a
  glo : ∀ (g : Nat) x, S.gls[g]? = some (some x) → ∃ u v, mg x = some u ∧ RelV v u ∧ ∀ φ F, RV B φ F ((T.gv g).headD .non) v
  gtu : ∀ (g : Nat) x, S.gts[g]? = some (some x) → ∃ a xs, mg x = some (.ref a) ∧ (∀ H, SqT B.K H a xs) ∧ ∀ φ F, RVs B φ F (T.gv g) xs
  mt : ∀ (m : Nat) x, S.mts[m]? = some (some x) → (∀ f, B.okF f = true → B.fld f ≠ x) ∧ ∀ c f, B.okC c = true → T.meth c m = some f → ∃ a, Meth K (B.A c) x a ∧ At S K T f a
  md : ∀ (m : Nat) x y, (m, y) ∈ S.mds → S.mts[m]? = some (some x) → (∀ f, B.okF f = true → B.fld f ≠ x) ∧ ∀ c f, B.okC c = true → T.meth c m = some f → ∃ a, Meth K (B.A c) x a ∧ At1 S K T f a y
/-- it keeps what the machine promises, to a level -/
def Keeps (B : Bs) (T : Ab.Tab) (P : Program) (w : World) (K : PySem.W.Frag) (mg : Str → Option Value) (base : Heap) (k : Nat) (call : Nat → List Val → Sto → R Val) (f : Nat) (a : Addr) : Prop :=
  ∃ fd ps, Binds K fd ps [] ∧ FnOk P w K mg base (L2.CX P w) k a fd ps (spF B call f)
def Keeps1 (B : Bs) (T : Ab.Tab) (P : Program) (w : World) (K : PySem.W.Frag) (mg : Str → Option Value) (base : Heap) (k : Nat) (call : Nat → List Val → Sto → R Val) (f : Nat) (a : Addr) (y : Str) : Prop :=
  ∃ fd ps, Takes1 K fd ps y (.bl false) ∧ FnOk P w K mg base (L2.CX P w) k a fd ps (spF B call f)
theorem keeps_none {f : Nat} {a : Addr} {k : Nat} (h : At S K T f a) : Keeps B T P w K mg base k (fun _ _ _ => none) f a := by
  obtain ⟨D, dvs, fd, F, b, _⟩ := h
  refine ⟨fd, D.ps, b, fun vs H Q E q => ?_, fun A outer s H args us vs Q E _ _ _ _ q => ?_⟩
  · obtain ⟨_, _, _, _, _, _, o⟩ := q
    exact o.elim
  · obtain ⟨_, _, _, _, _, _, o⟩ := q
    exact o.elim
theorem callN_zero : Ab.callN T 0 = fun _ _ _ => none := rfl
theorem callN_next (k : Nat) : Ab.callN T (k + 1) = Ab.runF T (Ab.callN T k) (Ab.callN T (k - 1)) := by
  cases k with
  | zero => rfl
  | succ k => rfl
theorem run_len {call init : Nat → List Val → Sto → R Val} {f : Nat} {us : List Val} {s : Sto} {c : Ab.Fn} (hc : T.code f = some c) (h : Ab.runF T call init f us s ≠ none) : us.length = c.np := by
  unfold Ab.runF at h
  rw [hc] at h
  by_cases q : us.length = c.np
  · exact q
  · simp only [if_neg q] at h
    exact absurd rfl h
theorem start_ok {φ : List Addr} {F : Hp} {N : List Str} {us : List Val} {vs : List V} (r : RVs B φ F us vs) : REn B φ F (us.map some ++ List.replicate (N.length - us.length) none) (L2.start N vs) := by
  have hl := r.length
  refine ⟨by simp [L2.start, hl], fun i v e => ?_⟩
  by_cases c : i < us.length
  · rw [List.getElem?_append_left (by simpa using c), List.getElem?_map] at e
    cases e1 : us[i]? with
    | none => rw [e1] at e; cases e
    | some u =>
      rw [e1] at e
      cases e
      obtain ⟨y, g1, g2⟩ := r.got e1
      refine ⟨y, ?_, g2⟩
      unfold L2.start
      rw [List.getElem?_append_left (by simp; omega), List.getElem?_map, g1]
      rfl
  · rw [List.getElem?_append_right (by simpa using c), List.getElem?_replicate] at e
    split at e <;> cases e
/-- one def, from the level below -/
theorem fn_one {k f : Nat} {a : Addr} (wd : Wd S B T K mg) (D : Txt) {dvs : List V} {fd : FuncData} (F : FunD K D.x D.qual D.params D.body D.sc dvs [] a fd) (hk : D.ok S = true) (hc : T.code f = some ⟨D.ps.length, D.N.length, D.code⟩)
    (ih : ∀ f a, At S K T f a → Keeps B T P w K mg base (k + 1) (Ab.callN T k) f a) (ih1 : ∀ f a y, At1 S K T f a y → Keeps1 B T P w K mg base (k + 1) (Ab.callN T k) f a y) (ih' : ∀ f a, At S K T f a → Keeps B T P w K mg base k (Ab.callN T (k - 1)) f a) :
    FnOk P w K mg base (L2.CX P w) (k + 2) a fd D.ps (spF B (Ab.callN T (k + 1)) f) := by
  have hk2 : scopeB D.N D.ps D.sc = true ∧ mSs S D.code D.fr D.body = true := by simpa [Txt.ok] using hk
  have S1 := scope_of hk2.1
  have len : ∀ vs H Q E, spF B (Ab.callN T (k + 1)) f vs H Q E → vs.length = D.ps.length := by
    rintro vs H Q E ⟨φ, F1, s, us, rp, r, o⟩
    rw [callN_next] at o
    rw [← r.length]
    refine run_len (call := Ab.callN T k) (init := Ab.callN T (k - 1)) (s := s) hc fun e => ?_
    rw [e] at o
    exact o.elim
  refine F.ok S1 len fun cdv A outer s0 H vs Q E hr hsp => ?_
  let C : Ab.Ctx := { T := T, call := Ab.callN T k, init := Ab.callN T (k - 1) }
  have hl := len vs H Q E hsp
  obtain ⟨φ, F1, s, us, rp, r, o⟩ := hsp
  rw [callN_next] at o
  unfold Ab.runF at o
  rw [hc] at o
  have hu : us.length = D.ps.length := by rw [r.length]; exact hl
  simp only [if_pos hu] at o
  let X : Cx := cxOf (L2.CX P w) P w K mg base D.N D.qual D.sc a cdv A outer s0 H E
  have g : Gd S B X (fun cls d _ H => E cls d H) C k D.fr :=
    { K := wd.eqK.symm, calm := rfl, nd := S1.nd, N := rfl, sc := rfl, fc := fun _ _ => rfl
      tk := takes_of rfl rfl rfl rfl
      fl := fun _ _ _ _ _ h => h
      rm := hr
      cl := wd.cl
      fld := wd.fld
      bi := wd.bi
      glo := wd.glo
      gtu := wd.gtu
      fn := fun f x hx => by
        obtain ⟨a, h1, h2, h3⟩ := wd.fn f x hx
        exact ⟨a, h1, h2, ⟨ih f a h3⟩⟩
      cs := fun c x hx => by
        obtain ⟨h0, h1, a, h2, h3⟩ := wd.cs c x hx
        exact ⟨h0, h1, a, h2, ⟨ih' _ a h3⟩⟩
      mt := fun m x hx => by
        obtain ⟨h1, h2⟩ := wd.mt m x hx
        refine ⟨fun c hc => ?_, h1, fun c f hc hf => ?_⟩
        · have := wd.cl.cl c hc
          rw [wd.eqK] at this
          exact this
        · obtain ⟨a, h3, h4⟩ := h2 c f hc hf
          exact ⟨a, h3, ⟨ih f a h4⟩⟩
      md := fun m x y h0 hx => by
        obtain ⟨h1, h2⟩ := wd.md m x y h0 hx
        refine ⟨fun c hc => ?_, h1, fun c f hc hf => ?_⟩
        · have := wd.cl.cl c hc
          rw [wd.eqK] at this
          exact this
        · obtain ⟨a, h3, h4⟩ := h2 c f hc hf
          exact ⟨a, h3, ⟨ih1 f a y h4⟩⟩ }
  have bk : (X.env.blockKind == .function) = true := by
    show ((if D.sc.kind.isAnnotationScope then ScopeKind.function else D.sc.kind) == .function) = true
    rw [S1.kind]
    rfl
  have gs : GdS S B X (fun cls d _ H => E cls d H) C k D.fr := { toGd := g, ow := passes_of rfl, bk := bk }
  refine ⟨_, sSs D.code gs hk2.2, φ, F1, _, s, rp, start_ok r, ?_⟩
  have o' : Out B (fun cls d _ H => E cls d H) (RV B) φ F1 H (Ab.fin (Ab.execs C D.code (us.map some ++ List.replicate (D.N.length - us.length) none) s)) [] Q := by
    rw [hu]
    exact o
  revert o'
  cases Ab.execs C D.code (us.map some ++ List.replicate (D.N.length - us.length) none) s with
  | none => exact fun h => h
  | some q =>
    obtain ⟨e, en, s1⟩ := q
    cases e with
    | next => exact fun o φ' F' σ' H' x rp1 _ => o φ' F' .non H' x rp1 rfl
    | brk => exact fun o => o.elim
    | cont => exact fun o => o.elim
    | ret v => exact fun o => o
    | err x => exact fun o φ' F' σ' H' cls d x1 rp1 _ q => o φ' F' H' cls d x1 rp1 q
theorem keeps_one {k f : Nat} {a : Addr} (wd : Wd S B T K mg) (h : At S K T f a) (ih : ∀ f a, At S K T f a → Keeps B T P w K mg base (k + 1) (Ab.callN T k) f a) (ih1 : ∀ f a y, At1 S K T f a y → Keeps1 B T P w K mg base (k + 1) (Ab.callN T k) f a y) (ih' : ∀ f a, At S K T f a → Keeps B T P w K mg base k (Ab.callN T (k - 1)) f a) :
    Keeps B T P w K mg base (k + 2) (Ab.callN T (k + 1)) f a := by
  obtain ⟨D, dvs, fd, F, b, hk, hc⟩ := h
  exact ⟨fd, D.ps, b, fn_one wd D F hk hc ih ih1 ih'⟩
theorem keeps_one1 {k f : Nat} {a : Addr} {y : Str} (wd : Wd S B T K mg) (h : At1 S K T f a y) (ih : ∀ f a, At S K T f a → Keeps B T P w K mg base (k + 1) (Ab.callN T k) f a) (ih1 : ∀ f a y, At1 S K T f a y → Keeps1 B T P w K mg base (k + 1) (Ab.callN T k) f a y) (ih' : ∀ f a, At S K T f a → Keeps B T P w K mg base k (Ab.callN T (k - 1)) f a) :
    Keeps1 B T P w K mg base (k + 2) (Ab.callN T (k + 1)) f a y := by
  obtain ⟨D, dvs, fd, F, b, hk, hc⟩ := h
  exact ⟨fd, D.ps, b, fn_one wd D F hk hc ih ih1 ih'⟩
theorem keeps_none1 {f : Nat} {a : Addr} {y : Str} {k : Nat} (h : At1 S K T f a y) : Keeps1 B T P w K mg base k (fun _ _ _ => none) f a y := by
  obtain ⟨D, dvs, fd, F, b, _⟩ := h
  exact ⟨fd, D.ps, b, ⟨fun vs H Q E ⟨_, _, _, _, _, _, o⟩ => o.elim, fun A outer s H args us vs Q E _ _ _ _ ⟨_, _, _, _, _, _, o⟩ => o.elim⟩⟩
/-- all of them -/
theorem keeps_all (wd : Wd S B T K mg) : ∀ (k : Nat), (∀ f a, At S K T f a → Keeps B T P w K mg base (k + 1) (Ab.callN T k) f a) ∧ (∀ f a y, At1 S K T f a y → Keeps1 B T P w K mg base (k + 1) (Ab.callN T k) f a y) ∧ ∀ f a, At S K T f a → Keeps B T P w K mg base k (Ab.callN T (k - 1)) f a
  | 0 => ⟨fun _ _ h => keeps_none h, fun _ _ _ h => keeps_none1 h, fun _ _ h => keeps_none h⟩
  | k + 1 => ⟨fun f a h => keeps_one wd h (keeps_all wd k).1 (keeps_all wd k).2.1 (keeps_all wd k).2.2, fun f a y h => keeps_one1 wd h (keeps_all wd k).1 (keeps_all wd k).2.1 (keeps_all wd k).2.2, fun f a h => (keeps_all wd k).1 f a h⟩
/-- the law's own def -/
theorem fn_all {f : Nat} {a : Addr} (wd : Wd S B T K mg) (D : Txt) {dvs : List V} {fd : FuncData} (F : FunD K D.x D.qual D.params D.body D.sc dvs [] a fd) (hk : D.ok S = true) (hc : T.code f = some ⟨D.ps.length, D.N.length, D.code⟩) (k : Nat) :
    FnOk P w K mg base (L2.CX P w) (k + 2) a fd D.ps (spF B (Ab.callN T (k + 1)) f) := fn_one wd D F hk hc (keeps_all wd k).1 (keeps_all wd k).2.1 (keeps_all wd k).2.2
/-- what a law's def is to promise -/
def spLaw (K : PySem.W.Frag) : Sp := fun vs H Q _ => ∃ (a : Addr) (ns : List Int), vs = [.ref a] ∧ SqL K H a (ns.map V.int) ∧ ns.length ≤ 63 ∧ ∀ H', Q (.bl true) H'
/-- from the machine's run to the law's promise -/
theorem law_imp {f n : Nat} (wd : Wd S B T K mg) (h : ∀ ns : List Int, ns.length ≤ 63 → ∃ s, Ab.callN T n f [.scr ns] [] = some (.ok (.bl true), s)) : ∀ vs H Q E, spLaw K vs H Q E → spF B (Ab.callN T n) f vs H Q E := by
  rintro vs H Q E ⟨a, ns, rfl, hs, hl, q⟩
  obtain ⟨s, e⟩ := h ns hl
  refine ⟨[], H, [], [.scr ns], ⟨rfl, fun i j a h => by simp at h, fun l o h => by simp at h, fun _ _ h => h, fun l a h => by simp at h⟩, ⟨_, [], rfl, ⟨a, rfl, by rw [wd.eqK]; exact hs⟩, rfl⟩, ?_⟩
  rw [e]
  intro φ' F' x H' _ _ r
  rw [show x = _ from r]
  exact q H'
end
/-- nothing is let out -/
theorem no_out {P : Program} {w : World} {H : Hp} {s : Shared} {e : Value} {s' : Shared} : L2.CX P w [] H s (fun _ _ _ => False) e s' → False := fun h => by
  obtain ⟨_, _, _, _, _, _, _, _, _, _, _, _, z⟩ := h
  exact z.elim
/-- the row from the facts of its top -/
theorem walk {l : PySem.W.OpenLaw} {q : Program} {loose : List Str} {XP : (Str → Option Value) → Heap → Prop} {YP : World → Heap → Prop} {d : DefRec} {K : Params → PySem.W.Frag} {k : Nat} {x : Str} (hn : l.most = some 63) (hdf : d.params.defaults = []) (hr : Room (k + 2) callerA)
    (hY : ∀ (w : World) (h : Heap), YP w h → (K w.params).In h)
    (F : ∀ (w : World) (mg : Str → Option Value) (fa : Addr) (h : Heap), (K w.params).In h → h.Ns mainGlobals mg → mg d.name = some (.ref fa) → ∃ (S : Sta) (B : Bs) (T : Ab.Tab) (f : Nat) (D : Txt) (fd : FuncData),
      Wd S B T (K w.params) mg ∧ FunD (K w.params) D.x D.qual D.params D.body D.sc [] [] fa fd ∧ D.ok S = true ∧ T.code f = some ⟨D.ps.length, D.N.length, D.code⟩ ∧ D.ps = [x] ∧ (∀ (s : Shared) (u : Value), BindsTo s fd ⟨[u], []⟩ [(x, u)]) ∧
      ∀ ns : List Int, ns.length ≤ 63 → ∃ s, Ab.callN T (k + 1) f [.scr ns] [] = some (.ok (.bl true), s)) :
    PySem.W.WalkO q loose XP YP l.row.toRowW d [] (fun f vs => PySem.call f vs) :=
  L2.walk_of (n := 63) (k := k + 2) (x := x) (CX := fun w => L2.CX l.prog w) (sp := fun w => spLaw (K w.params)) hn (by decide) hdf hr hY
    (fun w mg fa h KX G hm => by
      obtain ⟨S, B, T, f, D, fd, wd, F1, hk, hc, hp, hb, hm⟩ := F w mg fa h KX G hm
      refine ⟨fd, hb, fun base _ _ => ?_⟩
      have := (fn_all (P := l.prog) (w := w) (base := base) wd D F1 hk hc k).imp (law_imp wd hm)
      rw [hp] at this
      exact this)
    (fun _ _ a ns hl _ hS => ⟨a, ns, rfl, hS, hl, fun _ => rfl⟩) fun _ _ _ _ _ z => no_out z
end Sn
end
section
set_option Elab.async false
set_option linter.all false
set_option autoImplicit false
set_option maxRecDepth 100000
set_option maxHeartbeats 4000000
/-! From the facts of a top to what SnO asks. -/
namespace Sn
open PySem L2
open Ab (Val SO Sto Exc R BM BI Ex Stm Tg)
/-- an attribute's name; at other places names that no program writes -/
def fldOf (l : List (Option Str)) (i : Nat) : Str := match l[i]? with
  | some (some x) => x
  | _ => ⟨#[1114112 + i]⟩
def fldsB (l : List (Option Str)) : Bool := decide (l.filterMap id).Nodup && (l.filterMap id).all fun x => x.cps.toList.all fun c => decide (c < 1114112)
theorem fm_inj {l : List (Option Str)} (nd : (l.filterMap id).Nodup) : ∀ {i j : Nat} {x : Str}, l[i]? = some (some x) → l[j]? = some (some x) → i = j := by
  induction l with
  | nil => intro i j x h; simp at h
  | cons o r ih =>
    intro i j x h1 h2
    have nr : (r.filterMap id).Nodup := by
      cases o with
      | none => exact nd
      | some y => exact (List.nodup_cons.mp (show (y :: r.filterMap id).Nodup from nd)).2
    have mem : ∀ k : Nat, o = some x → r[k]? = some (some x) → False := fun k e h => by
      subst e
      exact (List.nodup_cons.mp (show (x :: r.filterMap id).Nodup from nd)).1 (List.mem_filterMap.mpr ⟨some x, List.mem_of_getElem? h, rfl⟩)
    cases i with
    | zero =>
      cases j with
      | zero => rfl
      | succ j => exact (mem j (by simpa using h1) (by simpa using h2)).elim
    | succ i =>
      cases j with
      | zero => exact (mem i (by simpa using h2) (by simpa using h1)).elim
      | succ j => exact congrArg (· + 1) (ih nr (by simpa using h1) (by simpa using h2))
theorem fld_inj {l : List (Option Str)} (h : fldsB l = true) : ∀ i j, fldOf l i = fldOf l j → i = j := by
  simp only [fldsB, Bool.and_eq_true, decide_eq_true_eq, List.all_eq_true] at h
  obtain ⟨nd, hg⟩ := h
  have far : ∀ (i : Nat) x, l[i]? = some (some x) → ∀ j, x ≠ ⟨#[1114112 + j]⟩ := fun i x e j z => by
    have := hg x (List.mem_filterMap.mpr ⟨some x, List.mem_of_getElem? e, rfl⟩) (1114112 + j) (by rw [z]; simp)
    omega
  have two : ∀ i : Nat, (∃ x, l[i]? = some (some x) ∧ fldOf l i = x) ∨ fldOf l i = ⟨#[1114112 + i]⟩ := fun i => by
    unfold fldOf
    split
    · exact .inl ⟨_, ‹_›, rfl⟩
    · exact .inr rfl
  intro i j e
  rcases two i with ⟨x, h1, h2⟩ | h2 <;> rcases two j with ⟨y, h3, h4⟩ | h4
  · have exy : x = y := by rw [← h2, ← h4, e]
    subst exy
    exact fm_inj nd h1 h3
  · exact absurd (by rw [← h2, e, h4]) (far i x h1 j)
  · exact absurd (by rw [← h4, ← e, h2]) (far j y h3 i)
  · rw [h2, h4] at e
    simpa using e
/-- the base of a program -/
def mkB (K : PySem.W.Frag) (As : List (Option Addr)) (fl : List (Option Str)) (h : fldsB fl = true) : Bs where
  K := K
  A := fun c => (As[c]?.join).getD 0
  fld := fldOf fl
  inj := fld_inj h
  okC := fun c => (As[c]?.join).isSome
  okF := fun f => (fl[f]?.join).isSome
section
variable {K : PySem.W.Frag} {As : List (Option Addr)} {fl : List (Option Str)} {h : fldsB fl = true}
theorem at_some {α : Type} {l : List (Option α)} {i : Nat} (h : (l[i]?.join).isSome = true) : ∃ x, l[i]? = some (some x) := by
  cases e : l[i]? with
  | none => rw [e] at h; cases h
  | some o =>
    cases o with
    | none => rw [e] at h; cases h
    | some x => exact ⟨x, rfl⟩
theorem fld_mem {f : Nat} (hf : (mkB K As fl h).okF f = true) : some ((mkB K As fl h).fld f) ∈ fl := by
  obtain ⟨x, e⟩ := at_some hf
  show some (fldOf fl f) ∈ fl
  unfold fldOf
  rw [e]
  exact List.mem_of_getElem? e
theorem mkB_cls (hc : ∀ C, some C ∈ As → Cls K C) (hn : ∀ C, some C ∈ As → ∀ x, some x ∈ fl → NoAttr K C x) : ClsOk (mkB K As fl h) (mkB K As fl h).K := by
  have mem : ∀ c, (mkB K As fl h).okC c = true → some ((mkB K As fl h).A c) ∈ As := fun c hc => by
    obtain ⟨x, e⟩ := at_some hc
    show some ((As[c]?.join).getD 0) ∈ As
    rw [e]
    exact List.mem_of_getElem? e
  exact ⟨fun c h1 => hc _ (mem c h1), fun c f h1 h2 => hn _ (mem c h1) _ (fld_mem h2)⟩
theorem mkB_fld (i : Nat) (x : Str) (e : fl[i]? = some (some x)) : (mkB K As fl h).fld i = x ∧ (mkB K As fl h).okF i = true := by
  refine ⟨?_, ?_⟩
  · show fldOf fl i = x
    unfold fldOf
    rw [e]
  · show (fl[i]?.join).isSome = true
    rw [e]
    rfl
theorem mkB_nf {m : Str} (hm : some m ∉ fl) : ∀ f, (mkB K As fl h).okF f = true → (mkB K As fl h).fld f ≠ m := fun f hf z => by
  have := fld_mem hf
  rw [z] at this
  exact hm this
/-- a constant tuple of texts -/
theorem gtup_of {a : Addr} {dd : Option Addr} {its : Array Value} {n : Nat} {sl : Array (Option Value)} {ws : List Val} {xs : List V} (l : K.lookup a = some ⟨.type "tuple", dd, .seq its n, sl⟩) (hl : its.size ≤ sizeLine) (hv : Vals xs its.toList)
    (hr : ∀ φ F, RVs (mkB K As fl h) φ F ws xs) : ∃ (b : Addr) (ys : List V), (.ref a : Value) = .ref b ∧ (∀ H, SqT (mkB K As fl h).K H b ys) ∧ ∀ φ F, RVs (mkB K As fl h) φ F ws ys :=
  ⟨a, xs, rfl, fun H => .inr ⟨_, its, n, l, rfl, rfl, hl, hv⟩, hr⟩
/-- a def without defaults -/
theorem at_mk {S : Sta} {T : Ab.Tab} {f : Nat} {a : Addr} (D : Txt) {oc kV doc pm cdv ct : Value} {od an : Option Addr} {sl : Array (Option Value)} (l : K.lookup a = some ⟨oc, od, .func (PySem.W.fnOf D.x D.qual D.params D.body D.sc .none kV doc pm an cdv ct), sl⟩) (c : PySem.W.codeIn K cdv D.qual = true)
    (k : PySem.W.keepIn K (.ref a) = true) : FunD K D.x D.qual D.params D.body D.sc [] [] a (PySem.W.fnOf D.x D.qual D.params D.body D.sc .none kV doc pm an cdv ct) :=
  ⟨⟨oc, od, .none, kV, doc, pm, an, cdv, ct, sl, rfl, l, c, .inl ⟨rfl, rfl⟩, .inl rfl⟩, k⟩
/-- a def whose last parameter is False if it lacks -/
theorem at_mk1 {S : Sta} {T : Ab.Tab} {f : Nat} {a A2 : Addr} (D : Txt) {oc kV doc pm cdv ct oc2 : Value} {od an od2 : Option Addr} {sl sl2 : Array (Option Value)} {n : Nat} (l : K.lookup a = some ⟨oc, od, .func (PySem.W.fnOf D.x D.qual D.params D.body D.sc (.ref A2) kV doc pm an cdv ct), sl⟩) (c : PySem.W.codeIn K cdv D.qual = true)
    (k : PySem.W.keepIn K (.ref a) = true) (l2 : K.lookup A2 = some ⟨oc2, od2, .seq #[.bool false] n, sl2⟩) : FunD K D.x D.qual D.params D.body D.sc [.bl false] [] a (PySem.W.fnOf D.x D.qual D.params D.body D.sc (.ref A2) kV doc pm an cdv ct) :=
  ⟨⟨oc, od, .ref A2, kV, doc, pm, an, cdv, ct, sl, rfl, l, c, .inr ⟨List.cons_ne_nil _ _, A2, _, [.bool false], n, rfl, l2, rfl, .cons rfl .nil⟩, .inl rfl⟩, k⟩
theorem kbinds1 {x qual : Str} {params : Arguments} {body : List Stmt} {scope : Scope} {dvs : List V} {a : Addr} {fd : FuncData} {ps : List Str} {y : Str} (F : FunD K x qual params body scope dvs [] a fd) (hd : dvs ≠ [])
    (hb : ∀ (A : Addr) (kV doc pm : Value) (an : Option Addr) (cdv ct w : Value) (us its : List Value), us.length = ps.length - 1 → its.length = dvs.length →
      ∃ k, bindArgs (PySem.W.fnOf x qual params body scope (.ref A) kV doc pm an cdv ct) ⟨us, [(y, w)]⟩ = seqItems? (.ref A) >>= k ∧ k (some its.toArray) = pure (ps.zip (us ++ [w]))) : KBn K fd ps (ps.length - 1) [y] (fun us ws => us ++ ws) (fun vs zs => vs ++ zs) := by
  obtain ⟨oc, od, dV, kV, doc, pm, an, cdv, ct, osl, rfl, lk, hcd, hD, hK⟩ := F.ex
  rcases hD with ⟨e, _⟩ | ⟨_, A, o, its, m, rfl, lT, oT, rT⟩
  · exact absurd e hd
  · refine ⟨fun s us ws X l1 l2 => ?_, fun r1 r2 => r1.append r2⟩
    match ws, l2 with
    | [w], _ =>
      obtain ⟨k, e1, e2⟩ := hb A kV doc pm an cdv ct w us its l1 rT.length.symm
      refine BindsTo.of_looks fun M => ?_
      show PySem.W.Looks M s.heap (bindArgs _ ⟨us, [(y, w)]⟩) _
      rw [e1]
      exact looks_items X lT oT (.of_pure e2)
theorem vals_nil {ds : List Value} (h : Vals [] ds) : ds = [] := by cases h; rfl
theorem binds_full {x qual : Str} {params : Arguments} {body : List Stmt} {scope : Scope} {dvs : List V} {a : Addr} {fd : FuncData} {ps : List Str} (F : FunD K x qual params body scope dvs [] a fd) (hd : dvs ≠ [])
    (hb : ∀ (A : Addr) (kV doc pm : Value) (an : Option Addr) (cdv ct : Value) (us its : List Value), us.length = ps.length → its.length = dvs.length →
      ∃ k, bindArgs (PySem.W.fnOf x qual params body scope (.ref A) kV doc pm an cdv ct) ⟨us, []⟩ = seqItems? (.ref A) >>= k ∧ k (some its.toArray) = pure (ps.zip (us ++ its.drop dvs.length))) : Binds K fd ps [] := by
  obtain ⟨ds, h1, h2⟩ := F.binds1 ps.length dvs.length hd (by omega) hb
  rw [List.drop_length] at h1
  rw [vals_nil h1] at h2
  exact h2
end
end Sn
end
section
set_option maxRecDepth 100000
set_option maxHeartbeats 4000000
/-! printed by gen2.py: the code that several laws share -/
namespace Pg
/-- _wall: 0 k (k01 k02 k03 k04 k08 k09 k18) -/
def c7b0 : List Ab.Stm := [.pass]
def c7 : List Ab.Stm := [(.whl (.cst (.bl true)) c7b0)]
/-- is_step: 0 plan (k01 k02 k03 k04 k05 k06 k07 k08 k09 k12 k13 k14 k15 k16 k17 k18) -/
def c0 : List Ab.Stm := [(.ret (.inK 0 false (.item (.var 0) (.cst (.int 0)))))]
/-- is_name: 0 text, 1 sign (k01 k02 k03 k04 k05 k06 k07 k08 k09 k12 k13 k14 k15 k16 k17 k18) -/
def c4 : List Ab.Stm := [(.ifS (.orE (.cmp .lt (.bi .len false [(.var 0)]) (.cst (.int 1))) (.cmp .gt (.bi .len false [(.var 0)]) (.cst (.int 6)))) [(.ret (.cst (.bl false)))] []), (.ret (.bi .all false [(.comp false (.cmp .inn (.var 1) (.glob 1)) (.name 1) (.val (.var 0)) none [1])]))]
/-- names_of: 0 plan, 1 found, 2 part (k01 k02 k03 k04 k05 k06 k07 k08 k09 k12 k13 k14 k15 k16 k17 k18) -/
def c1b0 : List Ab.Stm := [(.asg (.name 1) (.bin .add false (.var 1) (.call 1 [(.var 2)])))]
def c1 : List Ab.Stm := [(.ifS (.call 0 [(.var 0)]) [(.ret (.lst false [(.item (.var 0) (.cst (.int 1)))]))] []), (.asg (.name 1) (.lst false [])), (.forS (.name 2) (.val (.item (.var 0) (.cst (.int 1)))) c1b0), (.ret (.var 1))]
/-- depth_of: 0 plan, 1 part (k01 k02 k03 k04 k05 k06 k07 k08 k09 k12 k13 k14 k15 k16 k17 k18) -/
def c2 : List Ab.Stm := [(.ifS (.call 0 [(.var 0)]) [(.ret (.cst (.int 1)))] []), (.ret (.bin .add false (.cst (.int 1)) (.maxD (.comp false (.call 2 [(.var 1)]) (.name 1) (.val (.item (.var 0) (.cst (.int 1)))) none [1]))))]
/-- fits_many: 0 plan, 1 part (k01 k02 k03 k04 k05 k06 k07 k08 k09 k12 k13 k14 k15 k16 k17 k18) -/
def c3 : List Ab.Stm := [(.ifS (.call 0 [(.var 0)]) [(.ret (.cst (.bl true)))] []), (.ifS (.orE (.cmp .lt (.bi .len false [(.item (.var 0) (.cst (.int 1)))]) (.cst (.int 1))) (.cmp .gt (.bi .len false [(.item (.var 0) (.cst (.int 1)))]) (.glob 2))) [(.ret (.cst (.bl false)))] []), (.ret (.bi .all false [(.comp false (.call 3 [(.var 1)]) (.name 1) (.val (.item (.var 0) (.cst (.int 1)))) none [1])]))]
/-- check_plan: 0 plan, 1 names, 2 name (k01 k02 k03 k04 k05 k06 k07 k08 k09 k12 k13 k14 k15 k16 k17 k18) -/
def c6 : List Ab.Stm := [(.asg (.name 1) (.call 1 [(.var 0)])), (.ifS (.notE (.bi .all false [(.comp false (.call 4 [(.var 2)]) (.name 2) (.val (.var 1)) none [2])])) [.stuck] []), (.ifS (.notE (.call 3 [(.var 0)])) [.stuck] []), (.ifS (.cmp .gt (.call 2 [(.var 0)]) (.glob 3)) [.stuck] []), (.ifS (.cmp .gt (.bi .len false [(.var 1)]) (.glob 4)) [.stuck] []), (.ifS (.cmp .lt (.lenset (.var 1)) (.bi .len false [(.var 1)])) [.stuck] [])]
/-- Record.__init__: 0 self (k01 k02 k03 k04 k05 k06 k07 k08 k09 k12 k13 k14 k15 k18) -/
def c91 : List Ab.Stm := [(.asgF (.var 0) 0 (.lst true [])), (.asgF (.var 0) 1 (.lst true [])), (.asgF (.var 0) 2 (.dS [] []))]
/-- Step.__init__: 0 self, 1 make, 2 name, 3 record (k01 k02 k03 k04 k05 k06 k07 k08 k09 k12 k13 k14 k15 k18) -/
def c92 : List Ab.Stm := [(.asgF (.var 0) 3 (.var 1)), (.asgF (.var 0) 4 (.var 2)), (.asgF (.var 0) 5 (.var 3)), (.asgF (.var 0) 6 (.cst (.str [119, 97, 105, 116, 115]))), (.asgF (.var 0) 7 (.cst (.bl false))), (.asgI (.fld (.var 3) 2) (.var 2) (.var 0))]
/-- Step.begin: 0 self (k01 k02 k03 k04 k05 k06 k07 k08 k09 k12 k13 k14 k15 k18) -/
def c93 : List Ab.Stm := [(.asgF (.var 0) 6 (.cst (.str [97, 115, 107, 101, 100])))]
/-- Step.call_off: 0 self (k01 k02 k03 k04 k05 k06 k07 k08 k09 k12 k13 k14 k15 k18) -/
def c94 : List Ab.Stm := [(.asgF (.var 0) 7 (.cst (.bl true))), (.ifS (.cmp .eq (.fld (.var 0) 6) (.cst (.str [119, 97, 105, 116, 115]))) [(.asgF (.var 0) 6 (.cst (.str [103, 111, 110, 101])))] [(.ifS (.cmp .eq (.fld (.var 0) 6) (.cst (.str [100, 111, 110, 101]))) [(.expr (.meth 0 (.var 0) []))] [])])]
/-- Step.leave: 0 self (k01 k02 k03 k04 k05 k06 k07 k08 k09 k12 k13 k14 k15 k18) -/
def c95 : List Ab.Stm := [(.ifS (.cmp .eq (.fld (.var 0) 3) (.cst (.str [98, 97, 99, 107]))) [(.asgF (.var 0) 6 (.cst (.str [98, 97, 99, 107, 105, 110, 103])))] [(.asgF (.var 0) 6 (.cst (.str [103, 111, 110, 101]))), (.expr (.bm .append (.fld (.fld (.var 0) 5) 1) [(.fld (.var 0) 4)]))])]
/-- Step.asks: 0 self (k01 k02 k03 k04 k05 k06 k07 k08 k09 k12 k13 k14 k15 k18) -/
def c96 : List Ab.Stm := [(.ifS (.cmp .eq (.fld (.var 0) 6) (.cst (.str [97, 115, 107, 101, 100]))) [(.ret (.lst false [(.tup [(.cst (.str [100, 111])), (.fld (.var 0) 4)])]))] []), (.ifS (.cmp .eq (.fld (.var 0) 6) (.cst (.str [98, 97, 99, 107, 105, 110, 103]))) [(.ret (.lst false [(.tup [(.cst (.str [98, 97, 99, 107])), (.fld (.var 0) 4)])]))] []), (.ret (.lst false []))]
/-- Step.answer: 0 self, 1 word (k01 k02 k03 k04 k05 k06 k07 k08 k09 k12 k13 k14 k15 k18) -/
def c97 : List Ab.Stm := [(.ifS (.cmp .eq (.var 1) (.cst (.str [100, 111, 110, 101]))) [(.asgF (.var 0) 6 (.cst (.str [100, 111, 110, 101]))), (.expr (.bm .append (.fld (.fld (.var 0) 5) 0) [(.fld (.var 0) 4)])), (.ifS (.fld (.var 0) 7) [(.expr (.meth 0 (.var 0) []))] [])] [(.ifS (.cmp .eq (.var 1) (.cst (.str [102, 97, 105, 108, 101, 100]))) [(.asgF (.var 0) 6 (.cst (.str [103, 111, 110, 101])))] [(.ifS (.cmp .eq (.var 1) (.cst (.str [98, 97, 99, 107, 101, 100]))) [(.asgF (.var 0) 6 (.cst (.str [103, 111, 110, 101]))), (.expr (.bm .remove (.fld (.fld (.var 0) 5) 0) [(.fld (.var 0) 4)]))] [])])])]
/-- Step.settle: 0 self (k01 k02 k03 k04 k05 k06 k07 k08 k09 k12 k13 k14 k15 k18) -/
def c98 : List Ab.Stm := [.pass]
/-- Join.__init__: 0 self, 1 parts (k01 k02 k03 k04 k05 k06 k07 k08 k09 k12 k13 k14 k15 k18) -/
def c99 : List Ab.Stm := [(.asgF (.var 0) 8 (.var 1)), (.asgF (.var 0) 6 (.cst (.str [119, 97, 105, 116, 115]))), (.asgF (.var 0) 9 (.cst (.int 0)))]
/-- Join.asks: 0 self, 1 found, 2 part (k01 k02 k03 k04 k05 k06 k07 k08 k09 k12 k13 k14 k15 k18) -/
def c100b0 : List Ab.Stm := [(.expr (.bm .extend (.var 1) [(.meth 1 (.var 2) [])]))]
def c100 : List Ab.Stm := [(.asg (.name 1) (.lst true [])), (.forS (.name 2) (.val (.fld (.var 0) 8)) c100b0), (.ret (.var 1))]
/-- Join.begin: 0 self (k01 k02 k03 k04 k05 k06 k07 k08 k09 k12 k13 k14 k15 k18) -/
def c101 : List Ab.Stm := [(.asgF (.var 0) 6 (.cst (.str [114, 117, 110, 115]))), (.expr (.meth 2 (.item (.fld (.var 0) 8) (.cst (.int 0))) []))]
/-- Join.call_off: 0 self (k01 k02 k03 k04 k05 k06 k07 k08 k09 k12 k13 k14 k15 k18) -/
def c102 : List Ab.Stm := [(.ifS (.cmp .eq (.fld (.var 0) 6) (.cst (.str [119, 97, 105, 116, 115]))) [(.asgF (.var 0) 6 (.cst (.str [103, 111, 110, 101])))] [(.ifS (.cmp .inn (.fld (.var 0) 6) (.tup [(.cst (.str [114, 117, 110, 115])), (.cst (.str [100, 111, 110, 101]))])) [(.asgF (.var 0) 6 (.cst (.str [108, 101, 97, 118, 101, 115]))), (.expr (.meth 3 (.var 0) []))] [])])]
/-- Join.settle: 0 self, 1 part (k01 k02 k03 k04 k05 k06 k07 k08 k09 k12 k13 k14 k15 k18) -/
def c103b0 : List Ab.Stm := [(.expr (.meth 3 (.var 1) []))]
def c103 : List Ab.Stm := [(.forS (.name 1) (.val (.fld (.var 0) 8)) c103b0), (.ifS (.cmp .eq (.fld (.var 0) 6) (.cst (.str [114, 117, 110, 115]))) [(.expr (.meth 4 (.var 0) []))] []), (.ifS (.cmp .eq (.fld (.var 0) 6) (.cst (.str [108, 101, 97, 118, 101, 115]))) [(.expr (.meth 5 (.var 0) []))] [])]
/-- Join.go_on: 0 self (k01 k02 k03 k04 k05 k06 k07 k08 k09 k12 k13 k14 k15 k18) -/
def c104 : List Ab.Stm := [.pass]
/-- Join.go_back: 0 self (k01 k02 k03 k04 k05 k06 k07 k08 k09 k12 k13 k14 k15 k18) -/
def c105 : List Ab.Stm := [.pass]
/-- Row.go_on: 0 self (k01 k02 k03 k04 k05 k06 k07 k08 k09 k12 k13 k14 k15 k18) -/
def c106b0 : List Ab.Stm := [(.augF (.var 0) 9 .add (.cst (.int 1))), (.expr (.meth 2 (.item (.fld (.var 0) 8) (.fld (.var 0) 9)) []))]
def c106 : List Ab.Stm := [(.whl (.andE (.cmp .eq (.fld (.item (.fld (.var 0) 8) (.fld (.var 0) 9)) 6) (.cst (.str [100, 111, 110, 101]))) (.cmp .lt (.bin .add false (.fld (.var 0) 9) (.cst (.int 1))) (.bi .len false [(.fld (.var 0) 8)]))) c106b0), (.ifS (.cmp .eq (.fld (.item (.fld (.var 0) 8) (.fld (.var 0) 9)) 6) (.cst (.str [100, 111, 110, 101]))) [(.asgF (.var 0) 6 (.cst (.str [100, 111, 110, 101])))] [(.ifS (.cmp .eq (.fld (.item (.fld (.var 0) 8) (.fld (.var 0) 9)) 6) (.cst (.str [103, 111, 110, 101]))) [(.asgF (.var 0) 6 (.cst (.str [108, 101, 97, 118, 101, 115])))] [])])]
/-- Row.go_back: 0 self (k01 k02 k03 k04 k05 k06 k07 k08 k09 k12 k13 k14 k15 k18) -/
def c107b0 : List Ab.Stm := [(.expr (.meth 6 (.item (.fld (.var 0) 8) (.fld (.var 0) 9)) [])), (.ifS (.cmp .ne (.fld (.item (.fld (.var 0) 8) (.fld (.var 0) 9)) 6) (.cst (.str [103, 111, 110, 101]))) [.retN] []), (.augF (.var 0) 9 .sub (.cst (.int 1)))]
def c107 : List Ab.Stm := [(.whl (.cmp .ge (.fld (.var 0) 9) (.cst (.int 0))) c107b0), (.asgF (.var 0) 6 (.cst (.str [103, 111, 110, 101])))]
/-- Side.begin: 0 self, 1 part (k01 k02 k03 k04 k05 k06 k07 k08 k09 k12 k13 k14 k15 k18) -/
def c108b0 : List Ab.Stm := [(.expr (.meth 2 (.var 1) []))]
def c108 : List Ab.Stm := [(.asgF (.var 0) 6 (.cst (.str [114, 117, 110, 115]))), (.forS (.name 1) (.val (.fld (.var 0) 8)) c108b0)]
/-- Side.go_on: 0 self, 1 part (k01 k02 k03 k04 k05 k06 k07 k08 k09 k12 k13 k14 k15 k18) -/
def c109 : List Ab.Stm := [(.ifS (.bi .all false [(.comp false (.cmp .eq (.fld (.var 1) 6) (.cst (.str [100, 111, 110, 101]))) (.name 1) (.val (.fld (.var 0) 8)) none [1])]) [(.asgF (.var 0) 6 (.cst (.str [100, 111, 110, 101])))] [(.ifS (.bi .any false [(.comp false (.cmp .eq (.fld (.var 1) 6) (.cst (.str [103, 111, 110, 101]))) (.name 1) (.val (.fld (.var 0) 8)) none [1])]) [(.asgF (.var 0) 6 (.cst (.str [108, 101, 97, 118, 101, 115])))] [])])]
/-- Side.go_back: 0 self, 1 part (k01 k02 k03 k04 k05 k06 k07 k08 k09 k12 k13 k14 k15 k18) -/
def c110b0 : List Ab.Stm := [(.expr (.meth 6 (.var 1) []))]
def c110 : List Ab.Stm := [(.forS (.name 1) (.val (.fld (.var 0) 8)) c110b0), (.ifS (.bi .all false [(.comp false (.cmp .eq (.fld (.var 1) 6) (.cst (.str [103, 111, 110, 101]))) (.name 1) (.val (.fld (.var 0) 8)) none [1])]) [(.asgF (.var 0) 6 (.cst (.str [103, 111, 110, 101])))] [])]
/-- Else.go_on: 0 self (k01 k02 k03 k04 k05 k06 k07 k08 k09 k12 k13 k14 k15 k18) -/
def c111b0 : List Ab.Stm := [(.augF (.var 0) 9 .add (.cst (.int 1))), (.expr (.meth 2 (.item (.fld (.var 0) 8) (.fld (.var 0) 9)) []))]
def c111 : List Ab.Stm := [(.whl (.andE (.cmp .eq (.fld (.item (.fld (.var 0) 8) (.fld (.var 0) 9)) 6) (.cst (.str [103, 111, 110, 101]))) (.cmp .lt (.bin .add false (.fld (.var 0) 9) (.cst (.int 1))) (.bi .len false [(.fld (.var 0) 8)]))) c111b0), (.ifS (.cmp .inn (.fld (.item (.fld (.var 0) 8) (.fld (.var 0) 9)) 6) (.tup [(.cst (.str [100, 111, 110, 101])), (.cst (.str [103, 111, 110, 101]))])) [(.asgF (.var 0) 6 (.fld (.item (.fld (.var 0) 8) (.fld (.var 0) 9)) 6))] [])]
/-- Else.go_back: 0 self (k01 k02 k03 k04 k05 k06 k07 k08 k09 k12 k13 k14 k15 k18) -/
def c112 : List Ab.Stm := [(.expr (.meth 6 (.item (.fld (.var 0) 8) (.fld (.var 0) 9)) [])), (.ifS (.cmp .eq (.fld (.item (.fld (.var 0) 8) (.fld (.var 0) 9)) 6) (.cst (.str [103, 111, 110, 101]))) [(.asgF (.var 0) 6 (.cst (.str [103, 111, 110, 101])))] [])]
/-- node_of: 0 plan, 1 record, 2 parts, 3 part (k01 k02 k03 k04 k05 k06 k07 k08 k09 k12 k13 k14 k15 k18) -/
def c5 : List Ab.Stm := [(.ifS (.call 0 [(.var 0)]) [(.ret (.mk 0 [(.item (.var 0) (.cst (.int 0))), (.item (.var 0) (.cst (.int 1))), (.var 1)]))] []), (.asg (.name 2) (.comp false (.call 5 [(.var 3), (.var 1)]) (.name 3) (.val (.item (.var 0) (.cst (.int 1)))) none [3])), (.ifS (.cmp .eq (.item (.var 0) (.cst (.int 0))) (.cst (.str [114, 111, 119]))) [(.ret (.mk 1 [(.var 2)]))] []), (.ifS (.cmp .eq (.item (.var 0) (.cst (.int 0))) (.cst (.str [115, 105, 100, 101]))) [(.ret (.mk 2 [(.var 2)]))] []), (.ret (.mk 3 [(.var 2)]))]
/-- Errand.__init__: 0 self, 1 plan (k01 k02 k03 k04 k05 k06 k07 k08 k09 k12 k13 k14 k15 k18) -/
def c113 : List Ab.Stm := [(.expr (.call 6 [(.var 1)])), (.asgF (.var 0) 5 (.mk 4 [])), (.asgF (.var 0) 10 (.call 5 [(.var 1), (.fld (.var 0) 5)])), (.expr (.meth 2 (.fld (.var 0) 10) [])), (.expr (.meth 3 (.fld (.var 0) 10) []))]
/-- Errand.due: 0 self (k01 k02 k03 k04 k05 k06 k07 k08 k09 k12 k13 k14 k15 k18) -/
def c114 : List Ab.Stm := [(.ret (.bi .sorted true [(.meth 1 (.fld (.var 0) 10) [])]))]
/-- Errand.told: 0 self, 1 word, 2 name, 3 step (k01 k02 k03 k04 k05 k06 k07 k08 k09 k12 k13 k14 k15 k18) -/
def c115 : List Ab.Stm := [(.asg (.name 3) (.bm .get1 (.fld (.fld (.var 0) 5) 2) [(.var 2)])), (.ifS (.orE (.isN false (.var 3)) (.notE (.meth 7 (.var 0) [(.var 3), (.var 1)]))) [.stuck] []), (.expr (.meth 8 (.var 3) [(.var 1)])), (.expr (.meth 3 (.fld (.var 0) 10) []))]
/-- Errand.fits: 0 self, 1 step, 2 word (k01 k02 k03 k04 k05 k06 k07 k08 k09 k12 k13 k14 k15 k18) -/
def c116 : List Ab.Stm := [(.ifS (.cmp .eq (.fld (.var 1) 6) (.cst (.str [97, 115, 107, 101, 100]))) [(.ret (.orE (.cmp .inn (.var 2) (.tup [(.cst (.str [100, 111, 110, 101])), (.cst (.str [97, 103, 97, 105, 110]))])) (.andE (.cmp .eq (.var 2) (.cst (.str [102, 97, 105, 108, 101, 100]))) (.cmp .ne (.fld (.var 1) 3) (.cst (.str [115, 117, 114, 101]))))))] []), (.ifS (.cmp .eq (.fld (.var 1) 6) (.cst (.str [98, 97, 99, 107, 105, 110, 103]))) [(.ret (.cmp .inn (.var 2) (.tup [(.cst (.str [98, 97, 99, 107, 101, 100])), (.cst (.str [97, 103, 97, 105, 110]))])))] []), (.ret (.cst (.bl false)))]
/-- Errand.state: 0 self (k01 k02 k03 k04 k05 k06 k07 k08 k09 k12 k13 k14 k15 k18) -/
def c117 : List Ab.Stm := [(.ifS (.cmp .inn (.fld (.fld (.var 0) 10) 6) (.tup [(.cst (.str [100, 111, 110, 101])), (.cst (.str [103, 111, 110, 101]))])) [(.ret (.fld (.fld (.var 0) 10) 6))] []), (.ret (.cst (.str [114, 117, 110, 115])))]
/-- Errand.kept: 0 self (k01 k02 k03 k04 k05 k06 k07 k08 k09 k12 k13 k14 k15 k18) -/
def c118 : List Ab.Stm := [(.ret (.bi .list true [(.fld (.fld (.var 0) 5) 0)]))]
/-- Errand.rests: 0 self (k01 k02 k03 k04 k05 k06 k07 k08 k09 k12 k13 k14 k15 k18) -/
def c119 : List Ab.Stm := [(.ret (.bi .sorted true [(.fld (.fld (.var 0) 5) 1)]))]
/-- Errand.stop: 0 self, 1 step (k01 k05 k06 k07 k12 k13 k14 k15 k18) -/
def c120 : List Ab.Stm := [(.ifS (.cmp .ne (.meth 9 (.var 0) []) (.cst (.str [114, 117, 110, 115]))) [.stuck] []), .stuck, (.expr (.meth 6 (.fld (.var 0) 10) []))]
/-- Errand.stop: 0 self (k02 k03 k04 k08 k09) -/
def c120b : List Ab.Stm := [(.expr (.call 7 [(.cst (.int 0))]))]
/-- House.__init__: 0 self, 1 names (k01 k10 k11 k12 k13 k14 k15 k18) -/
def c121 : List Ab.Stm := [(.asgF (.var 0) 11 (.bi .list false [(.var 1)])), (.asgF (.var 0) 12 .dT), (.asgF (.var 0) 13 (.lst true []))]
/-- House.refuse: 0 self, 1 names (k10 k11 k12 k13 k14 k15) -/
def c122 : List Ab.Stm := [(.asgF (.var 0) 11 (.bi .list false [(.var 1)]))]
/-- House.refuse: 0 self, 1 names (k01 k18) -/
def c122b : List Ab.Stm := [(.expr (.call 7 [(.cst (.int 0))]))]
/-- House.do: 0 self, 1 errand, 2 name, 3 sure, 4 at (k01 k10 k11 k12 k13 k14 k15 k18) -/
def c123 : List Ab.Stm := [(.asg (.name 4) (.tup [(.var 1), (.var 2)])), (.ifS (.cmp .notin (.var 4) (.fld (.var 0) 12)) [(.ifS (.andE (.cmp .inn (.var 2) (.fld (.var 0) 11)) (.notE (.var 3))) [(.asgI (.fld (.var 0) 12) (.var 4) (.cst (.str [102, 97, 105, 108, 101, 100])))] [(.asgI (.fld (.var 0) 12) (.var 4) (.cst (.str [100, 111, 110, 101]))), (.expr (.bm .append (.fld (.var 0) 13) [(.tup [(.cst (.str [100, 111, 110, 101])), (.var 1), (.var 2)])]))])] []), (.ret (.item (.fld (.var 0) 12) (.var 4)))]
/-- House.back: 0 self, 1 errand, 2 name, 3 at (k01 k10 k11 k12 k13 k14 k15 k18) -/
def c124 : List Ab.Stm := [(.asg (.name 3) (.tup [(.var 1), (.var 2)])), (.ifS (.cmp .notin (.var 3) (.fld (.var 0) 12)) [(.asgI (.fld (.var 0) 12) (.var 3) (.cst (.str [102, 97, 105, 108, 101, 100])))] [(.ifS (.andE (.cmp .eq (.item (.fld (.var 0) 12) (.var 3)) (.cst (.str [100, 111, 110, 101]))) (.cmp .notin (.tup [(.cst (.str [98, 97, 99, 107, 101, 100])), (.var 1), (.var 2)]) (.fld (.var 0) 13))) [(.expr (.bm .append (.fld (.var 0) 13) [(.tup [(.cst (.str [98, 97, 99, 107, 101, 100])), (.var 1), (.var 2)])]))] [])]), (.ret (.cst (.str [98, 97, 99, 107, 101, 100])))]
/-- House.story: 0 self (k10 k11 k12 k13 k14 k15 k18) -/
def c125 : List Ab.Stm := [(.ret (.bi .list true [(.fld (.var 0) 13)]))]
/-- House.story: 0 self (k01) -/
def c125b : List Ab.Stm := [(.expr (.call 7 [(.cst (.int 1))]))]
/-- House.holds: 0 self, 1 deed (k10 k11 k12 k13 k14 k15 k18) -/
def c126 : List Ab.Stm := [(.ret (.comp true (.slice false (.var 1) (some (.cst (.int 1))) none) (.name 1) (.val (.fld (.var 0) 13)) (some (.andE (.cmp .eq (.item (.var 1) (.cst (.int 0))) (.cst (.str [100, 111, 110, 101]))) (.cmp .notin (.bin .add false (.tup [(.cst (.str [98, 97, 99, 107, 101, 100]))]) (.slice false (.var 1) (some (.cst (.int 1))) none)) (.fld (.var 0) 13)))) [1]))]
/-- House.holds: 0 self (k01) -/
def c126b : List Ab.Stm := [(.expr (.call 7 [(.cst (.int 2))]))]
/-- Hall.__init__: 0 self, 1 many, 2 number (k01 k12 k13 k14 k15 k18) -/
def c127 : List Ab.Stm := [(.asgF (.var 0) 14 (.comp false (.mk 5 [(.lst false [])]) (.name 2) (.rng1 (.var 1)) none [2])), (.asgF (.var 0) 15 (.lst false [])), (.asgF (.var 0) 16 (.lst false [])), (.asgF (.var 0) 17 (.lst false [])), (.asgF (.var 0) 18 (.cst (.bl false)))]
/-- Hall.house_of: 0 self, 1 name (k01) -/
def c128 : List Ab.Stm := [(.expr (.call 7 [(.cst (.int 3))]))]
/-- Hall.must_be_up: 0 self (k01 k12 k13 k14 k15 k18) -/
def c129 : List Ab.Stm := [(.ifS (.fld (.var 0) 18) [.stuck] [])]
/-- Hall.errand: 0 self, 1 number, 2 found, 3 word, 4 name (k01 k12 k13 k14 k15 k18) -/
def c130b0 : List Ab.Stm := [(.ifS (.cmp .eq (.var 3) (.cst (.str [115, 116, 111, 112]))) [(.expr (.meth 10 (.var 2) []))] [(.expr (.meth 11 (.var 2) [(.var 3), (.var 4)]))])]
def c130 : List Ab.Stm := [(.ifS (.orE (.cmp .lt (.var 1) (.cst (.int 1))) (.cmp .gt (.var 1) (.bi .len false [(.fld (.var 0) 15)]))) [.stuck] []), (.asg (.name 2) (.mk 6 [(.item (.fld (.var 0) 15) (.bin .sub false (.var 1) (.cst (.int 1))))])), (.forS (.names [3, 4]) (.val (.item (.fld (.var 0) 16) (.bin .sub false (.var 1) (.cst (.int 1))))) c130b0), (.ret (.var 2))]
/-- Hall.sorts: 0 self, 1 plan, 2 found, 3 part (k01 k12 k13 k14 k15 k18) -/
def c131b0 : List Ab.Stm := [.stuck]
def c131 : List Ab.Stm := [(.ifS (.cmp .inn (.item (.var 1) (.cst (.int 0))) (.tup [(.cst (.str [114, 111, 119])), (.cst (.str [115, 105, 100, 101])), (.cst (.str [101, 108, 115, 101]))])) [(.asg (.name 2) .dT), (.forS (.name 3) (.val (.item (.var 1) (.cst (.int 1)))) c131b0), (.ret (.var 2))] []), .stuck]
/-- Hall.send: 0 self, 1 number, 2 asked, 3 sorts, 4 word, 5 name (k01 k12 k13 k14 k15 k18) -/
def c132b0 : List Ab.Stm := [(.ifS (.andE (.cmp .eq (.var 4) (.cst (.str [100, 111]))) (.cmp .eq (.item (.var 3) (.var 5)) (.cst (.str [115, 117, 114, 101])))) [(.asg (.name 4) (.cst (.str [109, 117, 115, 116])))] []), (.expr (.bm .append (.fld (.var 0) 17) [(.tup [(.var 4), (.var 1), (.var 5)])]))]
def c132 : List Ab.Stm := [(.asg (.name 3) (.meth 12 (.var 0) [(.item (.fld (.var 0) 15) (.bin .sub false (.var 1) (.cst (.int 1))))])), (.forS (.names [4, 5]) (.val (.var 2)) c132b0)]
/-- Hall.begin: 0 self, 1 plan (k01 k12 k13 k14 k15 k18) -/
def c133 : List Ab.Stm := [(.expr (.meth 13 (.var 0) [])), (.expr (.call 6 [(.var 1)])), (.expr (.bm .append (.fld (.var 0) 15) [(.var 1)])), (.expr (.bm .append (.fld (.var 0) 16) [(.lst false [])])), (.expr (.meth 14 (.var 0) [(.bi .len false [(.fld (.var 0) 15)]), (.meth 15 (.meth 16 (.var 0) [(.bi .len false [(.fld (.var 0) 15)])]) [])])), (.ret (.bi .len false [(.fld (.var 0) 15)]))]
/-- Hall.write: 0 self, 1 number, 2 word, 3 name, 4 found, 5 elder, 6 one (k01 k12 k13 k14 k15 k18) -/
def c134 : List Ab.Stm := [(.asg (.name 4) (.meth 16 (.var 0) [(.var 1)])), (.asg (.name 5) (.meth 15 (.var 4) [])), (.ifS (.cmp .eq (.var 2) (.cst (.str [115, 116, 111, 112]))) [(.expr (.meth 10 (.var 4) []))] [(.expr (.meth 11 (.var 4) [(.var 2), (.var 3)]))]), (.expr (.bm .append (.item (.fld (.var 0) 16) (.bin .sub false (.var 1) (.cst (.int 1)))) [(.tup [(.var 2), (.var 3)])])), (.expr (.meth 14 (.var 0) [(.var 1), (.comp false (.var 6) (.name 6) (.val (.meth 15 (.var 4) [])) (some (.cmp .notin (.var 6) (.var 5))) [6])]))]
/-- Hall.stop: 0 self, 1 number (k01 k12 k13 k14 k15 k18) -/
def c135 : List Ab.Stm := [(.expr (.meth 13 (.var 0) [])), (.expr (.meth 17 (.var 0) [(.var 1), (.cst (.str [115, 116, 111, 112])), (.cst (.str []))]))]
/-- Hall.ring: 0 self, 1 number (k12 k13 k14 k15 k18) -/
def c136b0 : List Ab.Stm := [(.expr (.meth 14 (.var 0) [(.var 1), (.meth 15 (.meth 16 (.var 0) [(.var 1)]) [])]))]
def c136 : List Ab.Stm := [(.expr (.meth 13 (.var 0) [])), (.forS (.name 1) (.rng2 (.cst (.int 1)) (.bin .add false (.bi .len false [(.fld (.var 0) 15)]) (.cst (.int 1)))) c136b0)]
/-- Hall.ring: 0 self (k01) -/
def c136b : List Ab.Stm := [(.expr (.call 7 [(.cst (.int 4))]))]
/-- Hall.letter: 0 self, 1 number (k01 k12 k13 k14 k15 k18) -/
def c137 : List Ab.Stm := [(.ifS (.orE (.cmp .lt (.var 1) (.cst (.int 0))) (.cmp .ge (.var 1) (.bi .len false [(.fld (.var 0) 17)]))) [.stuck] []), (.ret (.item (.fld (.var 0) 17) (.var 1)))]
/-- Hall.carry: 0 self, 1 number, 2 house, 3 word, 4 errand, 5 name (k12 k13 k14 k15 k18) -/
def c138 : List Ab.Stm := [(.asg (.names [3, 4, 5]) (.meth 26 (.var 0) [(.var 1)])), (.expr (.bm .popAt (.fld (.var 0) 17) [(.var 1)])), (.asg (.name 2) (.item (.fld (.var 0) 14) (.meth 27 (.var 0) [(.var 5)]))), (.ifS (.cmp .inn (.var 3) (.tup [(.cst (.str [100, 111])), (.cst (.str [109, 117, 115, 116]))])) [(.expr (.bm .append (.fld (.var 0) 17) [(.tup [(.methK 23 (.var 2) [(.var 4), (.var 5)] (.cmp .eq (.var 3) (.cst (.str [109, 117, 115, 116])))), (.var 4), (.var 5)])]))] [(.ifS (.cmp .eq (.var 3) (.cst (.str [98, 97, 99, 107]))) [(.expr (.bm .append (.fld (.var 0) 17) [(.tup [(.meth 22 (.var 2) [(.var 4), (.var 5)]), (.var 4), (.var 5)])]))] [(.ifS (.notE (.fld (.var 0) 18)) [.stuck] [])])])]
/-- Hall.carry: 0 self, 1 number (k01) -/
def c138b : List Ab.Stm := [(.expr (.call 7 [(.cst (.int 5))]))]
/-- Hall.lose: 0 self, 1 number (k12 k13 k14 k15) -/
def c139 : List Ab.Stm := [(.expr (.meth 26 (.var 0) [(.var 1)])), (.expr (.bm .popAt (.fld (.var 0) 17) [(.var 1)]))]
/-- Hall.lose: 0 self, 1 number (k01) -/
def c139b : List Ab.Stm := [(.expr (.call 7 [(.cst (.int 6))]))]
/-- Hall.lose: 0 self, 1 number (k18) -/
def c139c : List Ab.Stm := [(.expr (.call 7 [(.cst (.int 1))]))]
/-- Hall.double: 0 self, 1 number (k12 k13 k14 k15) -/
def c140 : List Ab.Stm := [(.expr (.bm .append (.fld (.var 0) 17) [(.meth 26 (.var 0) [(.var 1)])]))]
/-- Hall.double: 0 self, 1 number (k01) -/
def c140b : List Ab.Stm := [(.expr (.call 7 [(.cst (.int 7))]))]
/-- Hall.double: 0 self, 1 number (k18) -/
def c140c : List Ab.Stm := [(.expr (.call 7 [(.cst (.int 2))]))]
/-- Hall.fall: 0 self (k12 k13 k14 k15) -/
def c141 : List Ab.Stm := [(.expr (.meth 13 (.var 0) [])), (.asgF (.var 0) 18 (.cst (.bl true)))]
/-- Hall.fall: 0 self (k01) -/
def c141b : List Ab.Stm := [(.expr (.call 7 [(.cst (.int 8))]))]
/-- Hall.fall: 0 self (k18) -/
def c141c : List Ab.Stm := [(.expr (.call 7 [(.cst (.int 3))]))]
/-- Hall.rise: 0 self (k12 k13 k14 k15) -/
def c142 : List Ab.Stm := [(.ifS (.notE (.fld (.var 0) 18)) [.stuck] []), (.asgF (.var 0) 18 (.cst (.bl false)))]
/-- Hall.rise: 0 self (k01) -/
def c142b : List Ab.Stm := [(.expr (.call 7 [(.cst (.int 9))]))]
/-- Hall.rise: 0 self (k18) -/
def c142c : List Ab.Stm := [(.expr (.call 7 [(.cst (.int 4))]))]
/-- Hall.road: 0 self (k01 k12 k13 k14 k15 k18) -/
def c143 : List Ab.Stm := [(.ret (.bi .list false [(.fld (.var 0) 17)]))]
/-- Hall.view: 0 self, 1 number, 2 found (k12 k13 k14 k15 k18) -/
def c144 : List Ab.Stm := [(.asg (.name 2) (.meth 16 (.var 0) [(.var 1)])), (.ret (.tup [(.meth 9 (.var 2) []), (.meth 20 (.var 2) []), (.meth 18 (.var 2) [])]))]
/-- Hall.view: 0 self, 1 number (k01) -/
def c144b : List Ab.Stm := [(.expr (.call 7 [(.cst (.int 10))]))]
/-- Hall.house: 0 self, 1 number (k01 k12 k13 k14 k15 k18) -/
def c145 : List Ab.Stm := [(.ifS (.orE (.cmp .lt (.var 1) (.cst (.int 0))) (.cmp .ge (.var 1) (.bi .len false [(.fld (.var 0) 14)]))) [.stuck] []), (.ret (.item (.fld (.var 0) 14) (.var 1)))]
/-- Hall.refuse: 0 self, 1 number, 2 names (k12 k13 k14 k15) -/
def c146 : List Ab.Stm := [(.expr (.meth 21 (.meth 28 (.var 0) [(.var 1)]) [(.var 2)]))]
/-- Hall.refuse: 0 self, 1 number, 2 names (k01) -/
def c146b : List Ab.Stm := [(.expr (.call 7 [(.cst (.int 11))]))]
/-- Hall.refuse: 0 self, 1 number, 2 names (k18) -/
def c146c : List Ab.Stm := [(.expr (.call 7 [(.cst (.int 5))]))]
/-- Hall.story: 0 self, 1 number (k12 k13 k14 k15 k18) -/
def c147 : List Ab.Stm := [(.ret (.meth 24 (.meth 28 (.var 0) [(.var 1)]) []))]
/-- Hall.story: 0 self, 1 number (k01) -/
def c147b : List Ab.Stm := [(.expr (.call 7 [(.cst (.int 12))]))]
/-- Hall.holds: 0 self, 1 number (k12 k13 k14 k15 k18) -/
def c148 : List Ab.Stm := [(.ret (.meth 25 (.meth 28 (.var 0) [(.var 1)]) []))]
/-- Hall.holds: 0 self, 1 number (k01) -/
def c148b : List Ab.Stm := [(.expr (.call 7 [(.cst (.int 13))]))]
/-- can_fail: 0 plan, 1 part (k01 k07 k08 k09 k14 k18) -/
def c8 : List Ab.Stm := [(.ifS (.call 0 [(.var 0)]) [(.ret (.cmp .ne (.item (.var 0) (.cst (.int 0))) (.cst (.str [115, 117, 114, 101]))))] []), (.ifS (.cmp .eq (.item (.var 0) (.cst (.int 0))) (.cst (.str [101, 108, 115, 101]))) [(.ret (.bi .all false [(.comp false (.call 8 [(.var 1)]) (.name 1) (.val (.item (.var 0) (.cst (.int 1)))) none [1])]))] []), (.ret (.bi .any false [(.comp false (.call 8 [(.var 1)]) (.name 1) (.val (.item (.var 0) (.cst (.int 1)))) none [1])]))]
/-- begun_parts: 0 plan, 1 found, 2 part (k01 k07 k08 k09 k14 k18) -/
def c10b0 : List Ab.Stm := [(.expr (.bm .append (.var 1) [(.var 2)])), (.ifS (.notE (.call 8 [(.var 2)])) [(.ret (.var 1))] [])]
def c10 : List Ab.Stm := [(.ifS (.cmp .ne (.item (.var 0) (.cst (.int 0))) (.cst (.str [101, 108, 115, 101]))) [(.ret (.bi .list false [(.item (.var 0) (.cst (.int 1)))]))] []), (.asg (.name 1) (.lst false [])), (.forS (.name 2) (.val (.item (.var 0) (.cst (.int 1)))) c10b0), (.ret (.var 1))]
/-- can_stick: 0 plan, 1 part (k01 k07 k08 k09 k14 k18) -/
def c9 : List Ab.Stm := [(.ifS (.call 0 [(.var 0)]) [(.ret (.cmp .ne (.item (.var 0) (.cst (.int 0))) (.cst (.str [98, 97, 99, 107]))))] []), (.ret (.bi .any false [(.comp false (.call 9 [(.var 1)]) (.name 1) (.val (.call 10 [(.var 0)])) none [1])]))]
/-- torn_pair: 0 plan, 1 stuck, 2 one, 3 failed, 4 other (k01 k07 k08 k09 k14 k18) -/
def c11 : List Ab.Stm := [(.ifS (.cmp .eq (.item (.var 0) (.cst (.int 0))) (.cst (.str [101, 108, 115, 101]))) [(.ret (.cst .non))] []), .stuck, (.ret (.cst .non))]
/-- can_tear: 0 plan, 1 part (k01 k07 k08 k09 k14 k18) -/
def c12 : List Ab.Stm := [(.ifS (.call 0 [(.var 0)]) [(.ret (.cst (.bl false)))] []), (.ret (.orE (.isN true (.call 11 [(.var 0)])) (.bi .any false [(.comp false (.call 12 [(.var 1)]) (.name 1) (.val (.call 10 [(.var 0)])) none [1])])))]
/-- failing: 0 plan, 1 found, 2 part (k01 k07 k08 k09 k14 k18) -/
def c13b0 : List Ab.Stm := [(.ifS (.call 8 [(.var 2)]) [(.asg (.name 1) (.bin .add false (.var 1) (.call 13 [(.var 2)]))), (.ifS (.cmp .ne (.item (.var 0) (.cst (.int 0))) (.cst (.str [101, 108, 115, 101]))) [(.ret (.var 1))] [])] [])]
def c13 : List Ab.Stm := [(.ifS (.call 0 [(.var 0)]) [(.ret (.lst false [(.item (.var 0) (.cst (.int 1)))]))] []), (.asg (.name 1) (.lst false [])), (.forS (.name 2) (.val (.item (.var 0) (.cst (.int 1)))) c13b0), (.ret (.var 1))]
/-- ahead_of: 0 plan, 1 number, 2 found, 3 part (k01 k07 k08 k09 k14 k18) -/
def c14b0 : List Ab.Stm := [(.asg (.name 2) (.bin .add false (.var 2) (.call 13 [(.var 3)])))]
def c14 : List Ab.Stm := [(.asg (.name 2) (.lst false [])), (.ifS (.cmp .eq (.item (.var 0) (.cst (.int 0))) (.cst (.str [101, 108, 115, 101]))) [(.forS (.name 3) (.val (.slice false (.item (.var 0) (.cst (.int 1))) none (some (.var 1)))) c14b0)] []), (.ret (.var 2))]
/-- sticking: 0 plan, 1 number, 2 part (k01 k07 k08 k09 k14 k18) -/
def c15 : List Ab.Stm := [(.ifS (.call 0 [(.var 0)]) [(.ret (.lst false []))] []), (.asg (.name 1) (.bm .index (.comp false (.call 9 [(.var 2)]) (.name 2) (.val (.call 10 [(.var 0)])) none [2]) [(.cst (.bl true))])), (.ret (.bin .add false (.call 14 [(.var 0), (.var 1)]) (.call 15 [(.item (.item (.var 0) (.cst (.int 1))) (.var 1))])))]
/-- tearing: 0 plan, 1 torn, 2 names, 3 number, 4 stuck, 5 failed, 6 part, 7 first (k01 k07 k08 k09 k14 k18) -/
def c16 : List Ab.Stm := [(.asg (.name 1) (.comp false (.call 12 [(.var 6)]) (.name 6) (.val (.call 10 [(.var 0)])) none [6])), (.ifS (.cmp .inn (.cst (.bl true)) (.var 1)) [(.asg (.name 3) (.bm .index (.var 1) [(.cst (.bl true))])), (.asg (.names [2, 7]) (.call 16 [(.item (.item (.var 0) (.cst (.int 1))) (.var 3))])), (.ret (.tup [(.bin .add false (.call 14 [(.var 0), (.var 3)]) (.var 2)), (.var 7)]))] []), (.asg (.names [4, 5]) (.call 11 [(.var 0)])), (.asg (.name 2) (.bin .add false (.call 15 [(.item (.item (.var 0) (.cst (.int 1))) (.var 4))]) (.call 13 [(.item (.item (.var 0) (.cst (.int 1))) (.var 5))]))), (.ret (.tup [(.var 2), (.call 1 [(.item (.item (.var 0) (.cst (.int 1))) (.var 4))])]))]
/-- judged: 0 plan, 1 errand, 2 run, 3 names, 4 first, 5 asked, 6 early, 7 said, 8 word, 9 name, 10 one (k01 k07 k08 k09 k14 k18) -/
def c51b0 : List Ab.Stm := [(.asg (.name 5) (.meth 15 (.var 1) [])), (.asg (.name 6) (.comp false (.var 10) (.name 10) (.val (.var 5)) (some (.cmp .inn (.item (.var 10) (.cst (.int 1))) (.var 4))) [10])), (.asg (.names [8, 9]) (.item (.bin .add false (.var 6) (.var 5)) (.cst (.int 0)))), (.asg (.name 7) (.cst (.str [100, 111, 110, 101]))), (.ifS (.cmp .eq (.var 8) (.cst (.str [98, 97, 99, 107]))) [(.asg (.name 7) (.cst (.str [98, 97, 99, 107, 101, 100])))] [(.ifS (.cmp .inn (.var 9) (.var 3)) [(.asg (.name 7) (.cst (.str [102, 97, 105, 108, 101, 100])))] [])]), (.expr (.meth 11 (.var 1) [(.var 7), (.var 9)])), (.expr (.bm .append (.var 2) [(.tup [(.var 7), (.var 9)])]))]
def c51 : List Ab.Stm := [(.expr (.call 6 [(.var 0)])), (.ifS (.notE (.call 12 [(.var 0)])) [(.ret (.tup [(.cst (.str [115, 97, 102, 101]))]))] []), (.asg (.names [3, 4]) (.call 16 [(.var 0)])), (.asg (.name 1) (.mk 6 [(.var 0)])), (.asg (.name 2) (.lst false [])), (.whl (.cmp .eq (.meth 18 (.var 1) []) (.lst false [])) c51b0), (.ret (.tup [(.cst (.str [116, 111, 114, 110])), (.var 2)]))]
/-- text_of: 0 plan, 1 part (k01 k16) -/
def c17 : List Ab.Stm := [(.ifS (.call 0 [(.var 0)]) [(.ret (.bin .add false (.bin .add false (.item (.var 0) (.cst (.int 0))) (.cst (.str [32]))) (.item (.var 0) (.cst (.int 1)))))] []), (.ret (.bin .add false (.bin .add false (.bin .add false (.item (.var 0) (.cst (.int 0))) (.cst (.str [40]))) (.bm .join (.cst (.str [44, 32])) [(.comp false (.call 17 [(.var 1)]) (.name 1) (.val (.item (.var 0) (.cst (.int 1)))) none [1])])) (.cst (.str [41]))))]
/-- written: 0 plan (k01 k16) -/
def c80 : List Ab.Stm := [(.expr (.call 6 [(.var 0)])), (.ret (.call 17 [(.var 0)]))]
/-- _law_begun: 0 _law_script, 1 _law_stirred, 2 _law_cell (k01 k02 k03 k04 k05 k06 k07 k08 k09 k10 k11 k12 k13 k14 k15 k16 k17 k18) -/
def c25b0 : List Ab.Stm := [(.asg (.name 1) (.bin .mod false (.bin .add false (.bin .add false (.bin .mul false (.var 1) (.cst (.int 48271))) (.bin .mul false (.var 2) (.cst (.int 69621)))) (.cst (.int 11))) (.cst (.int 2147483647))))]
def c25 : List Ab.Stm := [(.asg (.name 1) (.cst (.int 0))), (.forS (.name 2) (.val (.var 0)) c25b0), (.ret (.lst true [(.bi .list true [(.var 0)]), (.bin .mul false (.var 1) (.bi .int false [(.cmp .gt (.bi .len false [(.var 0)]) (.cst (.int 2)))]))]))]
/-- _law_take: 0 _law_box, 1 _law_many, 2 _law_number (k01 k02 k03 k04 k05 k06 k07 k08 k09 k10 k11 k12 k13 k14 k15 k16 k17 k18) -/
def c19 : List Ab.Stm := [(.ifS (.cmp .eq (.item (.var 0) (.cst (.int 0))) (.lst false [])) [(.asgI (.var 0) (.cst (.int 1)) (.bin .mod false (.bin .mul false (.item (.var 0) (.cst (.int 1))) (.cst (.int 48271))) (.cst (.int 2147483647)))), (.ret (.bin .mod false (.bin .fdiv false (.item (.var 0) (.cst (.int 1))) (.cst (.int 7))) (.var 1)))] []), (.asg (.name 2) (.item (.item (.var 0) (.cst (.int 0))) (.cst (.int 0)))), (.asgI (.item (.var 0) (.cst (.int 0))) (.cst (.int 0)) (.bin .fdiv false (.var 2) (.var 1))), (.ifS (.orE (.cmp .eq (.item (.item (.var 0) (.cst (.int 0))) (.cst (.int 0))) (.cst (.int 0))) (.cmp .eq (.item (.item (.var 0) (.cst (.int 0))) (.cst (.int 0))) (.cst (.int (-1))))) [(.expr (.bm .popAt (.item (.var 0) (.cst (.int 0))) [(.cst (.int 0))]))] []), (.ret (.bin .mod false (.var 2) (.var 1)))]
/-- _law_alike: 0 _law_found, 1 _law_due_here, 2 _law_k (k01 k02 k03 k04 k05 k06 k10 k13 k16 k17) -/
def c18b0 : List Ab.Stm := [(.ifS (.notE (.call 18 [(.item (.var 0) (.var 2)), (.item (.var 1) (.var 2))])) [(.ret (.cst (.bl false)))] [])]
def c18 : List Ab.Stm := [(.ifS (.isN false (.var 1)) [(.ret (.isN false (.var 0)))] []), (.ifS (.bi .isB false [(.var 1)]) [(.ret (.andE (.bi .isB false [(.var 0)]) (.cmp .eq (.var 0) (.var 1))))] []), (.ifS (.bi .isI false [(.var 1)]) [(.ret (.andE (.bi .isI false [(.var 0)]) (.andE (.notE (.bi .isB false [(.var 0)])) (.cmp .eq (.var 0) (.var 1)))))] []), (.ifS (.bi .isS false [(.var 1)]) [(.ret (.andE (.bi .isS false [(.var 0)]) (.cmp .eq (.var 0) (.var 1))))] []), (.ifS (.orE (.cmp .ne (.bi .isT false [(.var 1)]) (.bi .isT false [(.var 0)])) (.cmp .ne (.bi .isL false [(.var 1)]) (.bi .isL false [(.var 0)]))) [(.ret (.cst (.bl false)))] []), (.ifS (.cmp .ne (.bi .len false [(.var 0)]) (.bi .len false [(.var 1)])) [(.ret (.cst (.bl false)))] []), (.forS (.name 2) (.rng1 (.bi .len false [(.var 1)])) c18b0), (.ret (.cst (.bl true)))]
/-- _law_class: 0 _law_e, 1 _law_kinds, 2 _law_words_here (k01 k05 k06 k13 k17) -/
def c149 : List Ab.Stm := [.stuck, .stuck, .stuck, (.asg (.name 2) (.lst false [(.cst (.str [66, 97, 100, 80, 108, 97, 110])), (.cst (.str [78, 111, 116, 68, 117, 101])), (.cst (.str [84, 111, 111, 76, 97, 116, 101])), (.cst (.str [78, 111, 69, 114, 114, 97, 110, 100])), (.cst (.str [78, 111, 72, 111, 117, 115, 101])), (.cst (.str [78, 111, 76, 101, 116, 116, 101, 114])), (.cst (.str [65, 119, 97, 121])), (.cst (.str [83, 116, 97, 110, 100, 105, 110, 103])), (.cst (.str [66, 97, 100, 84, 101, 120, 116]))])), .stuck, (.ret (.item (.var 2) (.bm .index (.var 1) [(.cst (.bl true))])))]
/-- _law_words: 0 _law_box, 1 _law_letters, 2 _law_base, 3 _law_first, 4 _law_sort, 5 _law_words_here, 6 _law_k, 7 _law_place, 8 _law_size, 9 _law_step, 10 _law_others, 11 _law_word, 12 _law_number, 13 _law_letter (k01 k02 k03 k04 k05 k06 k07 k08 k09 k10 k11 k16 k17 k18) -/
def c26b0 : List Ab.Stm := [(.asg (.name 11) (.bin .add false (.item (.var 1) (.bin .mod false (.bin .add false (.var 3) (.bin .mod false (.var 12) (.cst (.int 2)))) (.cst (.int 26)))) (.var 11))), (.asg (.name 12) (.bin .fdiv false (.var 12) (.cst (.int 2))))]
def c26b1 : List Ab.Stm := [(.asg (.name 11) (.cst (.str []))), (.asg (.name 12) (.bin .add false (.var 6) (.cst (.int 2)))), (.whl (.cmp .gt (.var 12) (.cst (.int 1))) c26b0), (.expr (.bm .append (.var 5) [(.var 11)]))]
def c26 : List Ab.Stm := [(.asg (.name 1) (.cst (.str [97, 98, 99, 100, 101, 102, 103, 104, 105, 106, 107, 108, 109, 110, 111, 112, 113, 114, 115, 116, 117, 118, 119, 120, 121, 122]))), (.asg (.name 2) (.comp false (.item (.var 1) (.call 19 [(.var 0), (.cst (.int 26))])) (.name 7) (.rng1 (.cst (.int 6))) none [7])), (.asg (.name 3) (.call 19 [(.var 0), (.cst (.int 26))])), (.asg (.name 4) (.call 19 [(.var 0), (.cst (.int 3))])), (.ifS (.cmp .eq (.var 4) (.cst (.int 0))) [(.asg (.name 7) (.call 19 [(.var 0), (.cst (.int 6))])), (.asg (.name 8) (.bin .add false (.bin .add false (.var 7) (.cst (.int 1))) (.call 19 [(.var 0), (.bin .sub false (.cst (.int 6)) (.var 7))]))), (.asg (.name 9) (.item (.lst false [(.cst (.int 1)), (.cst (.int 3)), (.cst (.int 5)), (.cst (.int 7))]) (.call 19 [(.var 0), (.cst (.int 4))]))), (.asg (.name 10) (.comp false (.item (.var 1) (.bin .mod false (.bin .add false (.var 3) (.bin .mul false (.var 9) (.var 6))) (.cst (.int 26)))) (.name 6) (.rng1 (.cst (.int 14))) none [6])), (.ret (.comp false (.bm .join (.cst (.str [])) [(.bin .add false (.bin .add false (.slice false (.var 2) none (some (.var 7))) (.lst false [(.var 13)])) (.slice false (.var 2) (some (.bin .add false (.var 7) (.cst (.int 1)))) (some (.var 8))))]) (.name 13) (.val (.var 10)) none [13]))] []), (.ifS (.cmp .eq (.var 4) (.cst (.int 1))) [(.ret (.comp false (.bin .add false (.item (.var 1) (.bin .mod false (.bin .add false (.var 3) (.bin .fdiv false (.var 6) (.cst (.int 6)))) (.cst (.int 26)))) (.bm .join (.cst (.str [])) [(.slice false (.var 2) (some (.cst (.int 1))) (some (.bin .add false (.cst (.int 1)) (.bin .mod false (.var 6) (.cst (.int 6))))))])) (.name 6) (.rng1 (.cst (.int 14))) none [6]))] []), (.asg (.name 5) (.lst true [])), (.forS (.name 6) (.rng1 (.cst (.int 14))) c26b1), (.ret (.var 5))]
/-- _law_words: 0 _law_box, 1 _law_letters, 2 _law_first, 3 _law_k (k12 k13 k14 k15) -/
def c26b : List Ab.Stm := [(.asg (.name 1) (.cst (.str [97, 98, 99, 100, 101, 102, 103, 104, 105, 106, 107, 108, 109, 110, 111, 112, 113, 114, 115, 116, 117, 118, 119, 120, 121, 122]))), (.asg (.name 2) (.call 19 [(.var 0), (.cst (.int 26))])), (.ret (.comp false (.bin .add false (.item (.var 1) (.bin .mod false (.bin .add false (.var 2) (.bin .mod false (.var 3) (.cst (.int 4)))) (.cst (.int 26)))) (.bin .mul false (.item (.var 1) (.bin .mod false (.bin .add false (.var 2) (.var 3)) (.cst (.int 26)))) (.bin .fdiv false (.var 3) (.cst (.int 4))))) (.name 3) (.rng1 (.cst (.int 14))) none [3]))]
/-- _law_plan: 0 _law_box, 1 _law_names_here, 2 _law_deep, 3 _law_menu, 4 _law_word, 5 _law_many, 6 _law_parts (k01 k04 k05 k06 k07 k08 k09 k12 k13 k14 k15 k16 k17 k18) -/
def c20b0 : List Ab.Stm := [(.expr (.bm .append (.var 6) [(.call 20 [(.var 0), (.var 1), (.bin .sub false (.var 2) (.cst (.int 1))), (.var 3)])]))]
def c20 : List Ab.Stm := [(.ifS (.orE (.cmp .eq (.var 2) (.cst (.int 0))) (.orE (.cmp .eq (.bi .len false [(.var 1)]) (.cst (.int 1))) (.cmp .lt (.call 19 [(.var 0), (.cst (.int 5))]) (.cst (.int 2))))) [(.ret (.tup [(.item (.var 3) (.call 19 [(.var 0), (.bi .len false [(.var 3)])])), (.bm .popAt (.var 1) [(.cst (.int 0))])]))] []), (.asg (.name 4) (.item (.lst false [(.cst (.str [114, 111, 119])), (.cst (.str [115, 105, 100, 101])), (.cst (.str [101, 108, 115, 101]))]) (.call 19 [(.var 0), (.cst (.int 3))]))), (.asg (.name 5) (.item (.lst false [(.cst (.int 1)), (.cst (.int 2)), (.cst (.int 2)), (.cst (.int 3)), (.cst (.int 4)), (.cst (.int 5))]) (.call 19 [(.var 0), (.cst (.int 6))]))), (.asg (.name 6) (.lst false [])), (.whl (.andE (.cmp .ne (.var 1) (.lst true [])) (.cmp .lt (.bi .len false [(.var 6)]) (.var 5))) c20b0), (.ret (.tup [(.var 4), (.bi .tuple false [(.var 6)])]))]
/-- _law_drawn: 0 _law_box, 1 _law_words_here, 2 _law_most, 3 _law_menus, 4 _law_names_here (k01 k04 k05 k06 k07 k08 k09 k12 k13 k14 k15 k16 k17 k18) -/
def c28 : List Ab.Stm := [(.asg (.name 3) (.lst true [(.lst false [(.cst (.str [98, 97, 99, 107]))]), (.lst false [(.cst (.str [98, 97, 99, 107])), (.cst (.str [98, 97, 99, 107])), (.cst (.str [98, 97, 99, 107])), (.cst (.str [102, 105, 114, 109]))]), (.lst false [(.cst (.str [98, 97, 99, 107])), (.cst (.str [98, 97, 99, 107])), (.cst (.str [115, 117, 114, 101]))]), (.lst false [(.cst (.str [98, 97, 99, 107])), (.cst (.str [102, 105, 114, 109])), (.cst (.str [115, 117, 114, 101]))])])), (.expr (.bm .append (.var 3) [(.lst false [(.cst (.str [115, 117, 114, 101])), (.cst (.str [115, 117, 114, 101])), (.cst (.str [98, 97, 99, 107]))])])), (.asg (.name 4) (.slice true (.var 1) none (some (.bin .add false (.cst (.int 1)) (.call 19 [(.var 0), (.var 2)]))))), (.ret (.call 20 [(.var 0), (.var 4), (.bin .add false (.cst (.int 1)) (.call 19 [(.var 0), (.cst (.int 4))])), (.item (.var 3) (.call 19 [(.var 0), (.cst (.int 5))]))]))]
/-- _law_names: 0 _law_plan_here, 1 _law_found, 2 _law_part (k01 k04 k05 k06 k07 k08 k09 k12 k13 k14 k15 k16 k17 k18) -/
def c21b0 : List Ab.Stm := [(.asg (.name 1) (.bin .add false (.var 1) (.call 21 [(.var 2)])))]
def c21 : List Ab.Stm := [(.ifS (.cmp .inn (.item (.var 0) (.cst (.int 0))) (.tup [(.cst (.str [98, 97, 99, 107])), (.cst (.str [102, 105, 114, 109])), (.cst (.str [115, 117, 114, 101]))])) [(.ret (.lst false [(.item (.var 0) (.cst (.int 1)))]))] []), (.asg (.name 1) (.lst false [])), (.forS (.name 2) (.val (.item (.var 0) (.cst (.int 1)))) c21b0), (.ret (.var 1))]
/-- _law_refused: 0 _law_work, 1 _law_word, 2 _law_number (k05 k13) -/
def c29 : List Ab.Stm := [.stuck, (.ret (.cst (.bl false)))]
/-- _law_tell: 0 _law_plan_here, 1 _law_errand, 2 _law_word, 3 _law_name (k04 k05 k06 k08 k09 k12) -/
def c30 : List Ab.Stm := [(.asgI (.var 1) (.cst (.int 0)) (.call 35 [(.var 0), (.call 39 [(.var 0), (.item (.var 1) (.cst (.int 0))), (.var 2), (.var 3)])])), (.ifS (.cmp .eq (.var 2) (.cst (.str [100, 111, 110, 101]))) [(.expr (.bm .append (.item (.var 1) (.cst (.int 1))) [(.var 3)]))] []), (.ifS (.cmp .eq (.var 2) (.cst (.str [98, 97, 99, 107, 101, 100]))) [(.expr (.bm .remove (.item (.var 1) (.cst (.int 1))) [(.var 3)]))] [])]
/-- _law_side: 0 _law_plan_here, 1 _law_now, 2 _law_at_here, 3 _law_parts, 4 _law_part, 5 _law_inner (k04 k05 k06 k08 k09 k12) -/
def c31 : List Ab.Stm := [(.ifS (.andE (.cmp .eq (.var 1) (.cst (.str [114, 117, 110, 115]))) (.bi .all false [(.comp false (.cmp .eq (.item (.var 4) (.cst (.int 0))) (.cst (.str [100, 111, 110, 101]))) (.name 4) (.val (.var 3)) none [4])])) [(.ret (.tup [(.cst (.str [100, 111, 110, 101])), (.var 2), (.bi .tuple false [(.var 3)])]))] []), (.ifS (.andE (.cmp .eq (.var 1) (.cst (.str [114, 117, 110, 115]))) (.bi .any false [(.comp false (.call 36 [(.var 4)]) (.name 4) (.val (.var 3)) none [4])])) [(.asg (.name 1) (.cst (.str [108, 101, 97, 118, 101, 115])))] []), (.ifS (.cmp .eq (.var 1) (.cst (.str [108, 101, 97, 118, 101, 115]))) [(.asg (.name 3) (.comp false (.call 37 [(.var 4), (.var 5)]) (.names [4, 5]) (.zip (.item (.var 0) (.cst (.int 1))) (.var 3)) none [4, 5])), (.ifS (.bi .all false [(.comp false (.call 36 [(.var 4)]) (.name 4) (.val (.var 3)) none [4])]) [(.asg (.name 1) (.cst (.str [103, 111, 110, 101])))] [])] []), (.ret (.tup [(.var 1), (.var 2), (.bi .tuple false [(.var 3)])]))]
/-- _law_stead: 0 _law_plan_here, 1 _law_now, 2 _law_at_here, 3 _law_parts (k04 k05 k06 k08 k09 k12) -/
def c32b0 : List Ab.Stm := [(.asg (.name 2) (.bin .add false (.var 2) (.cst (.int 1)))), (.asgI (.var 3) (.var 2) (.call 34 [(.item (.item (.var 0) (.cst (.int 1))) (.var 2))]))]
def c32 : List Ab.Stm := [(.whl (.andE (.cmp .eq (.var 1) (.cst (.str [114, 117, 110, 115]))) (.andE (.call 36 [(.item (.var 3) (.var 2))]) (.cmp .lt (.bin .add false (.var 2) (.cst (.int 1))) (.bi .len false [(.var 3)])))) c32b0), (.ifS (.andE (.cmp .eq (.var 1) (.cst (.str [114, 117, 110, 115]))) (.cmp .eq (.item (.item (.var 3) (.var 2)) (.cst (.int 0))) (.cst (.str [100, 111, 110, 101])))) [(.asg (.name 1) (.cst (.str [100, 111, 110, 101])))] []), (.ifS (.cmp .eq (.var 1) (.cst (.str [108, 101, 97, 118, 101, 115]))) [(.asgI (.var 3) (.var 2) (.call 37 [(.item (.item (.var 0) (.cst (.int 1))) (.var 2)), (.item (.var 3) (.var 2))]))] []), (.ifS (.call 36 [(.item (.var 3) (.var 2))]) [(.asg (.name 1) (.cst (.str [103, 111, 110, 101])))] []), (.ret (.tup [(.var 1), (.var 2), (.bi .tuple false [(.var 3)])]))]
/-- _law_fresh: 0 _law_plan_here, 1 _law_part (k04 k05 k06 k08 k09 k12) -/
def c33 : List Ab.Stm := [(.ifS (.cmp .inn (.item (.var 0) (.cst (.int 0))) (.tup [(.cst (.str [98, 97, 99, 107])), (.cst (.str [102, 105, 114, 109])), (.cst (.str [115, 117, 114, 101]))])) [(.ret (.tup [(.cst (.str [119, 97, 105, 116, 115])), (.cst (.bl false))]))] []), (.ret (.tup [(.cst (.str [119, 97, 105, 116, 115])), (.cst (.int 0)), (.bi .tuple false [(.comp false (.call 33 [(.var 1)]) (.name 1) (.val (.item (.var 0) (.cst (.int 1)))) none [1])])]))]
/-- _law_started: 0 _law_plan_here, 1 _law_many, 2 _law_parts, 3 _law_part (k04 k05 k06 k08 k09 k12) -/
def c34 : List Ab.Stm := [(.ifS (.cmp .inn (.item (.var 0) (.cst (.int 0))) (.tup [(.cst (.str [98, 97, 99, 107])), (.cst (.str [102, 105, 114, 109])), (.cst (.str [115, 117, 114, 101]))])) [(.ret (.tup [(.cst (.str [97, 115, 107, 101, 100])), (.cst (.bl false))]))] []), (.asg (.name 1) (.ite (.cmp .eq (.item (.var 0) (.cst (.int 0))) (.cst (.str [115, 105, 100, 101]))) (.bi .len false [(.item (.var 0) (.cst (.int 1)))]) (.cst (.int 1)))), (.asg (.name 2) (.bin .add false (.comp false (.call 34 [(.var 3)]) (.name 3) (.val (.slice false (.item (.var 0) (.cst (.int 1))) none (some (.var 1)))) none [3]) (.comp false (.call 33 [(.var 3)]) (.name 3) (.val (.slice false (.item (.var 0) (.cst (.int 1))) (some (.var 1)) none)) none [3]))), (.ret (.tup [(.cst (.str [114, 117, 110, 115])), (.cst (.int 0)), (.bi .tuple false [(.var 2)])]))]
/-- _law_over: 0 _law_state (k04 k05 k06 k08 k09 k12) -/
def c36 : List Ab.Stm := [(.ret (.cmp .inn (.item (.var 0) (.cst (.int 0))) (.tup [(.cst (.str [103, 111, 110, 101])), (.cst (.str [114, 101, 115, 116]))])))]
/-- _law_left: 0 _law_plan_here, 1 _law_state (k04 k05 k06 k08 k09 k12) -/
def c37 : List Ab.Stm := [(.ifS (.cmp .inn (.item (.var 0) (.cst (.int 0))) (.tup [(.cst (.str [98, 97, 99, 107])), (.cst (.str [102, 105, 114, 109])), (.cst (.str [115, 117, 114, 101]))])) [(.ifS (.cmp .eq (.item (.var 1) (.cst (.int 0))) (.cst (.str [97, 115, 107, 101, 100]))) [(.ret (.tup [(.cst (.str [97, 115, 107, 101, 100])), (.cst (.bl true))]))] []), (.ifS (.cmp .eq (.item (.var 1) (.cst (.int 0))) (.cst (.str [100, 111, 110, 101]))) [(.ret (.tup [(.item (.lst false [(.cst (.str [114, 101, 115, 116])), (.cst (.str [98, 97, 99, 107, 105, 110, 103]))]) (.bi .int false [(.cmp .eq (.item (.var 0) (.cst (.int 0))) (.cst (.str [98, 97, 99, 107])))])), (.cst (.bl true))]))] []), (.ret (.var 1))] []), (.ifS (.cmp .inn (.item (.var 1) (.cst (.int 0))) (.tup [(.cst (.str [114, 117, 110, 115])), (.cst (.str [100, 111, 110, 101]))])) [(.ret (.call 35 [(.var 0), (.tup [(.cst (.str [108, 101, 97, 118, 101, 115])), (.item (.var 1) (.cst (.int 1))), (.item (.var 1) (.cst (.int 2)))])]))] []), (.ret (.var 1))]
/-- _law_row: 0 _law_plan_here, 1 _law_now, 2 _law_at_here, 3 _law_parts (k04 k05 k06 k08 k09 k12) -/
def c38b0 : List Ab.Stm := [(.asg (.name 2) (.bin .add false (.var 2) (.cst (.int 1)))), (.asgI (.var 3) (.var 2) (.call 34 [(.item (.item (.var 0) (.cst (.int 1))) (.var 2))]))]
def c38b1 : List Ab.Stm := [(.asgI (.var 3) (.var 2) (.call 37 [(.item (.item (.var 0) (.cst (.int 1))) (.var 2)), (.item (.var 3) (.var 2))])), (.ifS (.notE (.call 36 [(.item (.var 3) (.var 2))])) [(.ret (.tup [(.var 1), (.var 2), (.bi .tuple false [(.var 3)])]))] []), (.ifS (.cmp .eq (.var 2) (.cst (.int 0))) [(.asg (.name 1) (.cst (.str [103, 111, 110, 101])))] []), (.asg (.name 2) (.bi .max2 false [(.cst (.int 0)), (.bin .sub false (.var 2) (.cst (.int 1)))]))]
def c38 : List Ab.Stm := [(.whl (.andE (.cmp .eq (.var 1) (.cst (.str [114, 117, 110, 115]))) (.andE (.cmp .eq (.item (.item (.var 3) (.var 2)) (.cst (.int 0))) (.cst (.str [100, 111, 110, 101]))) (.cmp .lt (.bin .add false (.var 2) (.cst (.int 1))) (.bi .len false [(.var 3)])))) c38b0), (.ifS (.andE (.cmp .eq (.var 1) (.cst (.str [114, 117, 110, 115]))) (.cmp .eq (.item (.item (.var 3) (.var 2)) (.cst (.int 0))) (.cst (.str [100, 111, 110, 101])))) [(.asg (.name 1) (.cst (.str [100, 111, 110, 101])))] []), (.ifS (.andE (.cmp .eq (.var 1) (.cst (.str [114, 117, 110, 115]))) (.call 36 [(.item (.var 3) (.var 2))])) [(.asg (.name 1) (.cst (.str [108, 101, 97, 118, 101, 115])))] []), (.whl (.cmp .eq (.var 1) (.cst (.str [108, 101, 97, 118, 101, 115]))) c38b1), (.ret (.tup [(.var 1), (.var 2), (.bi .tuple false [(.var 3)])]))]
/-- _law_settled: 0 _law_plan_here, 1 _law_state, 2 _law_parts, 3 _law_part, 4 _law_inner (k04 k05 k06 k08 k09 k12) -/
def c35 : List Ab.Stm := [(.ifS (.orE (.cmp .inn (.item (.var 0) (.cst (.int 0))) (.tup [(.cst (.str [98, 97, 99, 107])), (.cst (.str [102, 105, 114, 109])), (.cst (.str [115, 117, 114, 101]))])) (.cmp .notin (.item (.var 1) (.cst (.int 0))) (.tup [(.cst (.str [114, 117, 110, 115])), (.cst (.str [108, 101, 97, 118, 101, 115]))]))) [(.ret (.var 1))] []), (.asg (.name 2) (.comp true (.call 35 [(.var 3), (.var 4)]) (.names [3, 4]) (.zip (.item (.var 0) (.cst (.int 1))) (.item (.var 1) (.cst (.int 2)))) none [3, 4])), (.ifS (.cmp .eq (.item (.var 0) (.cst (.int 0))) (.cst (.str [114, 111, 119]))) [(.ret (.call 38 [(.var 0), (.item (.var 1) (.cst (.int 0))), (.item (.var 1) (.cst (.int 1))), (.var 2)]))] []), (.ifS (.cmp .eq (.item (.var 0) (.cst (.int 0))) (.cst (.str [115, 105, 100, 101]))) [(.ret (.call 31 [(.var 0), (.item (.var 1) (.cst (.int 0))), (.item (.var 1) (.cst (.int 1))), (.var 2)]))] []), (.ret (.call 32 [(.var 0), (.item (.var 1) (.cst (.int 0))), (.item (.var 1) (.cst (.int 1))), (.var 2)]))]
/-- _law_heard: 0 _law_plan_here, 1 _law_state, 2 _law_word, 3 _law_name, 4 _law_parts, 5 _law_part, 6 _law_inner (k04 k05 k06 k08 k09 k12) -/
def c39 : List Ab.Stm := [(.ifS (.cmp .notin (.item (.var 0) (.cst (.int 0))) (.tup [(.cst (.str [98, 97, 99, 107])), (.cst (.str [102, 105, 114, 109])), (.cst (.str [115, 117, 114, 101]))])) [(.asg (.name 4) (.comp false (.call 39 [(.var 5), (.var 6), (.var 2), (.var 3)]) (.names [5, 6]) (.zip (.item (.var 0) (.cst (.int 1))) (.item (.var 1) (.cst (.int 2)))) none [5, 6])), (.ret (.tup [(.item (.var 1) (.cst (.int 0))), (.item (.var 1) (.cst (.int 1))), (.bi .tuple false [(.var 4)])]))] []), (.ifS (.orE (.cmp .ne (.item (.var 0) (.cst (.int 1))) (.var 3)) (.cmp .eq (.var 2) (.cst (.str [97, 103, 97, 105, 110])))) [(.ret (.var 1))] []), (.ifS (.cmp .ne (.var 2) (.cst (.str [100, 111, 110, 101]))) [(.ret (.tup [(.cst (.str [103, 111, 110, 101])), (.item (.var 1) (.cst (.int 1)))]))] []), (.ifS (.item (.var 1) (.cst (.int 1))) [(.ret (.tup [(.item (.lst false [(.cst (.str [114, 101, 115, 116])), (.cst (.str [98, 97, 99, 107, 105, 110, 103]))]) (.bi .int false [(.cmp .eq (.item (.var 0) (.cst (.int 0))) (.cst (.str [98, 97, 99, 107])))])), (.cst (.bl true))]))] []), (.ret (.tup [(.cst (.str [100, 111, 110, 101])), (.cst (.bl false))]))]
/-- _law_asks: 0 _law_plan_here, 1 _law_state, 2 _law_found, 3 _law_part, 4 _law_inner (k04 k05 k06 k08 k09 k12) -/
def c40b0 : List Ab.Stm := [(.asg (.name 2) (.bin .add false (.var 2) (.call 40 [(.var 3), (.var 4)])))]
def c40 : List Ab.Stm := [(.ifS (.cmp .inn (.item (.var 0) (.cst (.int 0))) (.tup [(.cst (.str [98, 97, 99, 107])), (.cst (.str [102, 105, 114, 109])), (.cst (.str [115, 117, 114, 101]))])) [(.ifS (.cmp .inn (.item (.var 1) (.cst (.int 0))) (.tup [(.cst (.str [97, 115, 107, 101, 100])), (.cst (.str [98, 97, 99, 107, 105, 110, 103]))])) [(.ret (.lst false [(.tup [(.item (.lst false [(.cst (.str [98, 97, 99, 107])), (.cst (.str [100, 111]))]) (.bi .int false [(.cmp .eq (.item (.var 1) (.cst (.int 0))) (.cst (.str [97, 115, 107, 101, 100])))])), (.item (.var 0) (.cst (.int 1))), (.item (.var 0) (.cst (.int 0)))])]))] []), (.ret (.lst false []))] []), (.asg (.name 2) (.lst false [])), (.forS (.names [3, 4]) (.zip (.item (.var 0) (.cst (.int 1))) (.item (.var 1) (.cst (.int 2)))) c40b0), (.ret (.var 2))]
/-- _law_rests: 0 _law_plan_here, 1 _law_state, 2 _law_found, 3 _law_part, 4 _law_inner (k04 k05 k06 k08 k09 k12) -/
def c41b0 : List Ab.Stm := [(.asg (.name 2) (.bin .add false (.var 2) (.call 41 [(.var 3), (.var 4)])))]
def c41 : List Ab.Stm := [(.ifS (.cmp .inn (.item (.var 0) (.cst (.int 0))) (.tup [(.cst (.str [98, 97, 99, 107])), (.cst (.str [102, 105, 114, 109])), (.cst (.str [115, 117, 114, 101]))])) [(.ret (.ite (.cmp .eq (.item (.var 1) (.cst (.int 0))) (.cst (.str [114, 101, 115, 116]))) (.lst false [(.item (.var 0) (.cst (.int 1)))]) (.lst false [])))] []), (.asg (.name 2) (.lst false [])), (.forS (.names [3, 4]) (.zip (.item (.var 0) (.cst (.int 1))) (.item (.var 1) (.cst (.int 2)))) c41b0), (.ret (.var 2))]
/-- _law_begun_errand: 0 _law_plan_here (k04 k05 k06 k08 k09 k12) -/
def c43 : List Ab.Stm := [(.ret (.lst true [(.call 34 [(.var 0)]), (.lst true [])]))]
/-- _law_end: 0 _law_errand (k04 k05 k06 k08 k09 k12) -/
def c42 : List Ab.Stm := [(.ifS (.cmp .eq (.item (.item (.var 0) (.cst (.int 0))) (.cst (.int 0))) (.cst (.str [100, 111, 110, 101]))) [(.ret (.cst (.str [100, 111, 110, 101])))] []), (.ret (.ite (.call 36 [(.item (.var 0) (.cst (.int 0)))]) (.cst (.str [103, 111, 110, 101])) (.cst (.str [114, 117, 110, 115]))))]
/-- _law_answers: 0 _law_one (k04 k05 k06 k08 k09 k12) -/
def c45 : List Ab.Stm := [(.ifS (.cmp .eq (.item (.var 0) (.cst (.int 0))) (.cst (.str [98, 97, 99, 107]))) [(.ret (.lst false [(.cst (.str [98, 97, 99, 107, 101, 100])), (.cst (.str [97, 103, 97, 105, 110]))]))] []), (.ret (.ite (.cmp .eq (.item (.var 0) (.cst (.int 2))) (.cst (.str [115, 117, 114, 101]))) (.lst false [(.cst (.str [100, 111, 110, 101])), (.cst (.str [97, 103, 97, 105, 110]))]) (.lst false [(.cst (.str [100, 111, 110, 101])), (.cst (.str [102, 97, 105, 108, 101, 100])), (.cst (.str [97, 103, 97, 105, 110]))])))]
/-- _law_sort: 0 _law_plan_here, 1 _law_name, 2 _law_part (k06 k12) -/
def c46 : List Ab.Stm := [(.ifS (.cmp .inn (.item (.var 0) (.cst (.int 0))) (.tup [(.cst (.str [98, 97, 99, 107])), (.cst (.str [102, 105, 114, 109])), (.cst (.str [115, 117, 114, 101]))])) [(.ret (.ite (.cmp .eq (.item (.var 0) (.cst (.int 1))) (.var 1)) (.item (.var 0) (.cst (.int 0))) (.cst (.str []))))] []), (.ret (.bm .join (.cst (.str [])) [(.comp false (.call 46 [(.var 2), (.var 1)]) (.name 2) (.val (.item (.var 0) (.cst (.int 1)))) none [2])]))]
/-- _law_full: 0 _law_plan_here, 1 _law_kept, 2 _law_full_here, 3 _law_some, 4 _law_part, 5 _law_name (k07 k14) -/
def c49 : List Ab.Stm := [(.ifS (.cmp .inn (.item (.var 0) (.cst (.int 0))) (.tup [(.cst (.str [98, 97, 99, 107])), (.cst (.str [102, 105, 114, 109])), (.cst (.str [115, 117, 114, 101]))])) [(.ret (.cmp .inn (.item (.var 0) (.cst (.int 1))) (.var 1)))] []), (.asg (.name 2) (.comp false (.var 4) (.name 4) (.val (.item (.var 0) (.cst (.int 1)))) (some (.call 49 [(.var 4), (.var 1)])) [4])), (.ifS (.cmp .ne (.item (.var 0) (.cst (.int 0))) (.cst (.str [101, 108, 115, 101]))) [(.ret (.cmp .eq (.bi .len false [(.var 2)]) (.bi .len false [(.item (.var 0) (.cst (.int 1)))])))] []), (.asg (.name 3) (.comp false (.var 4) (.name 4) (.val (.item (.var 0) (.cst (.int 1)))) (some (.cmp .ne (.comp false (.var 5) (.name 5) (.val (.call 21 [(.var 4)])) (some (.cmp .inn (.var 5) (.var 1))) [5]) (.lst false []))) [4])), (.ret (.andE (.cmp .eq (.bi .len false [(.var 2)]) (.cst (.int 1))) (.cmp .eq (.var 3) (.var 2))))]
/-- _law_deed: 0 _law_box, 1 _law_hall, 2 _law_state, 3 _law_words_here, 4 _law_kind, 5 _law_many, 6 _law_turn (k13 k14) -/
def c61 : List Ab.Stm := [(.asg (.name 4) (.call 19 [(.var 0), (.cst (.int 16))])), (.asg (.name 5) (.bi .len false [(.meth 19 (.var 1) [])])), (.ifS (.andE (.cmp .lt (.var 4) (.cst (.int 9))) (.cmp .gt (.var 5) (.cst (.int 0)))) [(.expr (.meth 29 (.var 1) [(.item (.lst false [(.cst (.int 0)), (.call 19 [(.var 0), (.var 5)])]) (.bi .int false [(.cmp .gt (.var 4) (.cst (.int 2)))]))]))] [(.ifS (.andE (.cmp .eq (.var 4) (.cst (.int 9))) (.cmp .gt (.var 5) (.cst (.int 0)))) [(.expr (.meth 30 (.var 1) [(.call 19 [(.var 0), (.var 5)])]))] [(.ifS (.andE (.cmp .eq (.var 4) (.cst (.int 10))) (.cmp .gt (.var 5) (.cst (.int 0)))) [(.expr (.meth 31 (.var 1) [(.call 19 [(.var 0), (.var 5)])]))] [(.ifS (.cmp .eq (.var 4) (.cst (.int 11))) [(.expr (.meth 21 (.var 1) [(.cst (.int 0)), (.comp false (.item (.var 3) (.call 19 [(.var 0), (.cst (.int 6))])) (.name 6) (.rng1 (.call 19 [(.var 0), (.cst (.int 4))])) none [6])]))] [(.ifS (.andE (.cmp .eq (.var 4) (.cst (.int 12))) (.item (.var 2) (.cst (.int 0)))) [(.expr (.meth 32 (.var 1) [])), (.asgI (.var 2) (.cst (.int 0)) (.cst (.bl false)))] [(.ifS (.cmp .eq (.var 4) (.cst (.int 12))) [(.expr (.meth 33 (.var 1) [])), (.asgI (.var 2) (.cst (.int 0)) (.cst (.bl true)))] [(.ifS (.andE (.notE (.item (.var 2) (.cst (.int 0)))) (.andE (.cmp .eq (.var 4) (.cst (.int 13))) (.cmp .ne (.item (.var 2) (.cst (.int 1))) (.lst false [])))) [.stuck] [(.ifS (.andE (.notE (.item (.var 2) (.cst (.int 0)))) (.andE (.cmp .eq (.var 4) (.cst (.int 14))) (.cmp .lt (.bi .len false [(.item (.var 2) (.cst (.int 1)))]) (.item (.item (.var 2) (.cst (.int 2))) (.cst (.int 1)))))) [(.expr (.bm .append (.item (.var 2) (.cst (.int 1))) [(.call 28 [(.var 0), (.var 3), (.item (.item (.var 2) (.cst (.int 2))) (.cst (.int 0)))])])), (.expr (.meth 2 (.var 1) [(.item (.item (.var 2) (.cst (.int 1))) (.cst (.int (-1))))]))] [(.ifS (.notE (.item (.var 2) (.cst (.int 0)))) [(.expr (.meth 34 (.var 1) []))] [])])])])])])])])])]
/-- Reader.__init__: 0 self, 1 text (k16 k17) -/
def c150 : List Ab.Stm := [(.asgF (.var 0) 19 (.var 1)), (.asgF (.var 0) 20 (.cst (.int 0)))]
/-- Reader.sign: 0 self (k16 k17) -/
def c151 : List Ab.Stm := [(.ret (.slice false (.fld (.var 0) 19) (some (.fld (.var 0) 20)) (some (.bin .add false (.fld (.var 0) 20) (.cst (.int 1))))))]
/-- Reader.head: 0 self, 1 left, 2 size, 3 one (k16 k17) -/
def c152b0 : List Ab.Stm := [(.asg (.name 1) (.comp false (.var 3) (.name 3) (.val (.var 1)) (some (.cmp .eq (.item (.var 3) (.var 2)) (.meth 36 (.var 0) []))) [3])), (.ifS (.cmp .eq (.var 1) (.lst false [])) [.stuck] []), (.augF (.var 0) 20 .add (.cst (.int 1))), (.augN 2 .add (.cst (.int 1))), (.ifS (.cmp .eq (.bi .len false [(.item (.var 1) (.cst (.int 0)))]) (.var 2)) [(.ret (.item (.var 1) (.cst (.int 0))))] [])]
def c152 : List Ab.Stm := [(.asg (.name 1) (.listK 5 false)), (.asg (.name 2) (.cst (.int 0))), (.whl (.cst (.bl true)) c152b0)]
/-- Reader.short_word: 0 self, 1 found (k16 k17) -/
def c153b0 : List Ab.Stm := [(.asg (.name 1) (.bin .add false (.var 1) (.meth 36 (.var 0) []))), (.augF (.var 0) 20 .add (.cst (.int 1)))]
def c153 : List Ab.Stm := [(.asg (.name 1) (.cst (.str []))), (.whl (.andE (.cmp .lt (.bi .len false [(.var 1)]) (.cst (.int 6))) (.andE (.cmp .ne (.meth 36 (.var 0) []) (.cst (.str []))) (.cmp .inn (.meth 36 (.var 0) []) (.glob 1)))) c153b0), (.ifS (.cmp .eq (.var 1) (.cst (.str []))) [.stuck] []), (.ret (.var 1))]
/-- Reader.plan: 0 self, 1 head, 2 parts (k16 k17) -/
def c154b0 : List Ab.Stm := [(.augF (.var 0) 20 .add (.cst (.int 1))), (.ifS (.cmp .ne (.meth 36 (.var 0) []) (.cst (.str [32]))) [.stuck] []), (.augF (.var 0) 20 .add (.cst (.int 1))), (.expr (.bm .append (.var 2) [(.meth 39 (.var 0) [])]))]
def c154 : List Ab.Stm := [(.asg (.name 1) (.meth 37 (.var 0) [])), (.ifS (.cmp .eq (.item (.var 1) (.cst (.int (-1)))) (.cst (.str [32]))) [(.ret (.tup [(.slice false (.var 1) none (some (.cst (.int (-1))))), (.meth 38 (.var 0) [])]))] []), (.asg (.name 2) (.lst true [(.meth 39 (.var 0) [])])), (.whl (.cmp .eq (.meth 36 (.var 0) []) (.cst (.str [44]))) c154b0), (.ifS (.cmp .ne (.meth 36 (.var 0) []) (.cst (.str [41]))) [.stuck] []), (.augF (.var 0) 20 .add (.cst (.int 1))), (.ret (.tup [(.slice false (.var 1) none (some (.cst (.int (-1))))), (.bi .tuple false [(.var 2)])]))]
/-- read_plan: 0 text, 1 reader, 2 plan (k16 k17) -/
def c81 : List Ab.Stm := [(.asg (.name 1) (.mk 8 [(.var 0)])), (.asg (.name 2) (.meth 39 (.var 1) [])), (.ifS (.cmp .ne (.meth 36 (.var 1) []) (.cst (.str []))) [.stuck] []), (.expr (.call 6 [(.var 2)])), (.ret (.var 2))]
end Pg
end
section
set_option Elab.async false
set_option linter.all false
set_option autoImplicit false
set_option maxRecDepth 100000
set_option maxHeartbeats 1000000
/-! A small Hoare layer over the machine. -/
namespace Lw
open Ab
/-- it comes to a value, of which Q holds -/
def Wp {α : Type} (m : R α) (Q : α → Sto → Prop) : Prop := ∃ a s, m = some (.ok a, s) ∧ Q a s
theorem wp_ok {α : Type} {a : α} {s : Sto} {Q : α → Sto → Prop} : Wp (ok a s) Q ↔ Q a s := by
  constructor
  · rintro ⟨b, t, e, q⟩
    cases e
    exact q
  · exact fun q => ⟨a, s, rfl, q⟩
theorem wp_bnd {α β : Type} {m : R α} {k : α → Sto → R β} {Q : β → Sto → Prop} : Wp (bnd m k) Q ↔ Wp m fun a s => Wp (k a s) Q := by
  constructor
  · rintro ⟨b, t, e, q⟩
    cases m with
    | none => cases e
    | some p =>
      obtain ⟨r, s⟩ := p
      cases r with
      | error x => cases e
      | ok a => exact ⟨a, s, rfl, b, t, e, q⟩
  · rintro ⟨a, s, rfl, b, t, e, q⟩
    exact ⟨b, t, e, q⟩
theorem wp_pur {α : Type} {o : Option α} {s : Sto} {Q : α → Sto → Prop} : Wp (pur s o) Q ↔ ∃ a, o = some a ∧ Q a s := by
  constructor
  · rintro ⟨b, t, e, q⟩
    cases o with
    | none => cases e
    | some a =>
      cases e
      exact ⟨_, rfl, q⟩
  · rintro ⟨a, rfl, q⟩
    exact ⟨a, s, rfl, q⟩
theorem wp_lift {α : Type} {o : Option (α × Sto)} {Q : α → Sto → Prop} : Wp (lift o) Q ↔ ∃ a s, o = some (a, s) ∧ Q a s := by
  constructor
  · rintro ⟨b, t, e, q⟩
    cases o with
    | none => cases e
    | some p =>
      cases e
      exact ⟨_, _, rfl, q⟩
  · rintro ⟨a, s, rfl, q⟩
    exact ⟨a, s, rfl, q⟩
theorem Wp.imp {α : Type} {m : R α} {Q Q' : α → Sto → Prop} (h : Wp m Q) (k : ∀ a s, Q a s → Q' a s) : Wp m Q' := by
  obtain ⟨a, s, e, q⟩ := h
  exact ⟨a, s, e, k a s q⟩
theorem Wp.bnd' {α β : Type} {m : R α} {k : α → Sto → R β} {Q : α → Sto → Prop} {Q' : β → Sto → Prop} (h : Wp m Q) (g : ∀ a s, Q a s → Wp (k a s) Q') : Wp (bnd m k) Q' := wp_bnd.mpr (h.imp g)
theorem lim_le {n : Nat} (h : n ≤ 100000) : (n ≤ LIM) = True := eq_true h
theorem lim_lt {n : Nat} (h : n < 100000) : (n < LIM) = True := eq_true h
/-- statements: how they end -/
def WpS (m : S) (Q : SR → Env → Sto → Prop) : Prop := ∃ r en s, m = some (r, en, s) ∧ Q r en s
theorem WpS.imp {m : S} {Q Q' : SR → Env → Sto → Prop} (h : WpS m Q) (k : ∀ r en s, Q r en s → Q' r en s) : WpS m Q' := by
  obtain ⟨r, en, s, e, q⟩ := h
  exact ⟨r, en, s, e, k r en s q⟩
theorem ws_now {r : SR} {en : Env} {s : Sto} {Q : SR → Env → Sto → Prop} : WpS (some (r, en, s)) Q ↔ Q r en s := by
  constructor
  · rintro ⟨r', en', s', e, q⟩
    cases e
    exact q
  · exact fun q => ⟨r, en, s, rfl, q⟩
theorem ws_sb {α : Type} {m : R α} {en : Env} {k : α → Sto → S} {Q : SR → Env → Sto → Prop} (h : Wp m fun a s => WpS (k a s) Q) : WpS (sb m en k) Q := by
  obtain ⟨a, s, rfl, q⟩ := h
  exact q
theorem ws_sq {m : S} {k : Env → Sto → S} {Q : SR → Env → Sto → Prop} (h : WpS m fun r en s => match r with
    | .next => WpS (k en s) Q
    | r => Q r en s) : WpS (sq m k) Q := by
  obtain ⟨r, en, s, rfl, q⟩ := h
  cases r with
  | next => exact q
  | _ => exact ⟨_, _, _, rfl, q⟩
variable {C : Ctx} {r : List Stm} {en : Env} {s : Sto} {Q : SR → Env → Sto → Prop}
theorem w_nil (h : Q .next en s) : WpS (execs C [] en s) Q := ⟨_, _, _, rfl, h⟩
theorem w_asg {i : Nat} {e : Ex} (h : Wp (ev C e en s) fun v s => WpS (execs C r (en.set i (some v)) s) Q) : WpS (execs C (.asg (.name i) e :: r) en s) Q := by
  obtain ⟨v, s1, e1, q⟩ := h
  simp only [execs, exec, e1, sb, bindT, Option.map_some, sq]
  exact q
theorem w_asgT {is : List Nat} {e : Ex} (h : Wp (ev C e en s) fun v s => ∃ en1, bindT (.names is) v en = some en1 ∧ WpS (execs C r en1 s) Q) : WpS (execs C (.asg (.names is) e :: r) en s) Q := by
  obtain ⟨v, s1, e1, en1, e2, q⟩ := h
  simp only [execs, exec, e1, sb, e2, Option.map_some, sq]
  exact q
theorem w_expr {e : Ex} (h : Wp (ev C e en s) fun v s => WpS (execs C r en s) Q) : WpS (execs C (.expr e :: r) en s) Q := by
  obtain ⟨v, s1, e1, q⟩ := h
  simp only [execs, exec, e1, sb, sq]
  exact q
theorem w_ret {e : Ex} (h : Wp (ev C e en s) fun v s => Q (.ret v) en s) : WpS (execs C (.ret e :: r) en s) Q := by
  obtain ⟨v, s1, e1, q⟩ := h
  simp only [execs, exec, e1, sb, sq]
  exact ⟨_, _, _, rfl, q⟩
theorem w_asgI {o i e : Ex} (h : Wp (ev C e en s) fun v s => Wp (ev C o en s) fun x s => Wp (ev C i en s) fun y s => ∃ s1, setV x y v s = some s1 ∧ WpS (execs C r en s1) Q) : WpS (execs C (.asgI o i e :: r) en s) Q := by
  obtain ⟨v, s1, e1, x, s2, e2, y, s3, e3, s4, e4, q⟩ := h
  simp only [execs, exec, e1, e2, e3, e4, sb, Option.map_some, sq]
  exact q
theorem w_asgF {o e : Ex} {f : Nat} (h : Wp (ev C e en s) fun v s => Wp (ev C o en s) fun x s => ∃ l c fs, x = .loc l ∧ s[l]? = some (.inst c fs) ∧ fs.length < 900 ∧ WpS (execs C r en (s.set l (.inst c (putF f v fs)))) Q) : WpS (execs C (.asgF o f e :: r) en s) Q := by
  obtain ⟨v, s1, e1, x, s2, e2, l, c, fs, rfl, e3, e4, q⟩ := h
  simp only [execs, exec, e1, e2, e3, e4, sb, if_true, sq]
  exact q
theorem execs_app {a b : List Stm} : ∀ {en : Env} {s : Sto}, execs C (a ++ b) en s = sq (execs C a en s) fun en s => execs C b en s := by
  induction a with
  | nil => intro en s; rfl
  | cons st a ih =>
    intro en s
    show sq (exec C st en s) (fun en s => execs C (a ++ b) en s) = sq (sq (exec C st en s) fun en s => execs C a en s) _
    cases exec C st en s with
    | none => rfl
    | some q =>
      obtain ⟨r, en1, s1⟩ := q
      cases r <;> first | rfl | exact ih
theorem w_if {c : Ex} {a b : List Stm} (h : Wp (ev C c en s) fun v s => ∃ k, v = .bl k ∧ (k = true → WpS (execs C (a ++ r) en s) Q) ∧ (k = false → WpS (execs C (b ++ r) en s) Q)) : WpS (execs C (.ifS c a b :: r) en s) Q := by
  obtain ⟨v, s1, e1, k, rfl, h1, h2⟩ := h
  cases k with
  | true =>
    have := h1 rfl
    rw [execs_app] at this
    simp only [execs, exec, e1, sb]
    exact this
  | false =>
    have := h2 rfl
    rw [execs_app] at this
    simp only [execs, exec, e1, sb]
    exact this
/-- a walk's turns, by an invariant -/
theorem forL_inv {c : Option (Nat × List Val)} {f : Val → Env → Sto → S} (I : Nat → Env → Sto → Prop) (R' : Val → Env → Sto → Prop) {vs : List Val} : ∀ (k : Nat) {en : Env} {s : Sto}, I k en s → k ≤ vs.length → (∀ i en s, I i en s → still c s = true) →
    (∀ i v en s, vs[i]? = some v → I i en s → WpS (f v en s) fun r en s => match r with
      | .next => I (i + 1) en s
      | .cont => I (i + 1) en s
      | .ret x => R' x en s
      | _ => False) → WpS (forL c f (vs.drop k) en s) fun r en s => match r with
      | .next => I vs.length en s
      | .ret x => R' x en s
      | _ => False := by
  intro k
  generalize hn : vs.length - k = n
  induction n generalizing k with
  | zero =>
    intro en s h hk hs hf
    have : k = vs.length := by omega
    subst this
    rw [List.drop_length]
    simp only [forL, hs _ _ _ h, if_true]
    exact ⟨_, _, _, rfl, h⟩
  | succ n ih =>
    intro en s h hk hs hf
    have hl : k < vs.length := by omega
    rw [List.drop_eq_getElem_cons hl]
    simp only [forL, hs _ _ _ h, if_true]
    obtain ⟨r, en1, s1, e1, q⟩ := hf k _ en s (List.getElem?_eq_getElem hl) h
    rw [e1]
    cases r with
    | next => exact ih (k + 1) (by omega) q (by omega) hs hf
    | cont => exact ih (k + 1) (by omega) q (by omega) hs hf
    | ret x => exact ⟨_, _, _, rfl, q⟩
    | brk => exact q.elim
    | err x => exact q.elim
/-- a loop: its walk, an invariant by turns -/
theorem w_for {t : Tg} {it : It} {b : List Stm} (I : Nat → Env → Sto → Prop) (h : Wp (evi C it en s) fun w s => I 0 en s ∧ (∀ i en s, I i en s → still w.2 s = true) ∧
    (∀ i v en s, w.1[i]? = some v → I i en s → ∃ en1, bindT t v en = some en1 ∧ WpS (execs C b en1 s) fun r en s => match r with
      | .next => I (i + 1) en s
      | .cont => I (i + 1) en s
      | .ret x => Q (.ret x) en s
      | _ => False) ∧ ∀ en s, I w.1.length en s → WpS (execs C r en s) Q) : WpS (execs C (.forS t it b :: r) en s) Q := by
  obtain ⟨w, s1, e1, h0, hs, hb, hr⟩ := h
  simp only [execs, exec, e1, sb]
  have := forL_inv (c := w.2) (f := fun v en s => match bindT t v en with
    | some en1 => execs C b en1 s
    | none => none) I (fun x en s => Q (.ret x) en s) (vs := w.1) 0 h0 (Nat.zero_le _) hs fun i v en s hv hi => by
      obtain ⟨en1, e2, q⟩ := hb i v en s hv hi
      simp only [e2]
      exact q
  rw [List.drop_zero] at this
  refine ws_sq (this.imp fun o en s q => ?_)
  cases o with
  | next => exact hr en s q
  | ret x => exact q
  | _ => exact q.elim
theorem w_forE {t : Tg} {it : It} {b : List Stm} {w : Walk} {s1 : Sto} (I : Nat → Env → Sto → Prop) (e1 : evi C it en s = some (.ok w, s1)) (h0 : I 0 en s1) (hs : ∀ i en s, I i en s → still w.2 s = true)
    (hb : ∀ i v en s, w.1[i]? = some v → I i en s → ∃ en1, bindT t v en = some en1 ∧ WpS (execs C b en1 s) fun r en s => match r with
      | .next => I (i + 1) en s
      | .cont => I (i + 1) en s
      | .ret x => Q (.ret x) en s
      | _ => False) (hr : ∀ en s, I w.1.length en s → WpS (execs C r en s) Q) : WpS (execs C (.forS t it b :: r) en s) Q :=
  w_for I ⟨w, s1, e1, h0, hs, hb, hr⟩
/-- a comprehension's turns -/
theorem compL_inv {c : Option (Nat × List Val)} {f : Val → Sto → R (Option Val)} (I : Nat → List Val → Sto → Prop) {vs : List Val} : ∀ (k : Nat) {s : Sto} {acc : List Val}, I k acc s → k ≤ vs.length → (∀ i acc s, I i acc s → still c s = true) →
    (∀ i v acc s, vs[i]? = some v → I i acc s → Wp (f v s) fun o s => I (i + 1) (acc ++ o.toList) s) → Wp (compL c f (vs.drop k) s) fun us s => I vs.length (acc ++ us) s := by
  intro k
  generalize hn : vs.length - k = n
  induction n generalizing k with
  | zero =>
    intro s acc h hk hs hf
    have : k = vs.length := by omega
    subst this
    rw [List.drop_length]
    simp only [compL, hs _ _ _ h, if_true]
    exact wp_ok.mpr (by rw [List.append_nil]; exact h)
  | succ n ih =>
    intro s acc h hk hs hf
    have hl : k < vs.length := by omega
    rw [List.drop_eq_getElem_cons hl]
    simp only [compL, hs _ _ _ h, if_true]
    obtain ⟨o, s1, e1, q⟩ := hf k _ acc s (List.getElem?_eq_getElem hl) h
    rw [e1]
    obtain ⟨us, s2, e2, q2⟩ := ih (k + 1) (by omega) q (by omega) hs hf
    simp only [e2]
    refine ⟨_, _, rfl, ?_⟩
    rw [List.append_assoc] at q2
    exact q2
theorem wp_comp {m : Bool} {elt : Ex} {t : Tg} {it : It} {cond : Option Ex} {own : List Nat} {Q : Val → Sto → Prop} (I : Nat → List Val → Sto → Prop) (h : Wp (evi C it en s) fun w s => w.1.length ≤ LIM ∧ I 0 [] s ∧ (∀ i acc s, I i acc s → still w.2 s = true) ∧
    (∀ i v acc s, w.1[i]? = some v → I i acc s → ∃ en1, bindT t v (wipe en own) = some en1 ∧ Wp (evc C cond en1 s) fun c s => (c = true → Wp (ev C elt en1 s) fun x s => I (i + 1) (acc ++ [x]) s) ∧ (c = false → I (i + 1) acc s)) ∧
    ∀ us s, I w.1.length us s → Q (alloc m us s).1 (alloc m us s).2) : Wp (ev C (.comp m elt t it cond own) en s) Q := by
  obtain ⟨w, s1, e1, hl, h0, hs, hb, hq⟩ := h
  have := compL_inv (c := w.2) (f := fun v s => match bindT t v (wipe en own) with
    | none => none
    | some en1 => bnd (evc C cond en1 s) fun c s => if c = true then bnd (ev C elt en1 s) fun x s => ok (some x) s else ok none s) I (vs := w.1) 0 h0 (Nat.zero_le _) hs fun i v acc s hv hi => by
      obtain ⟨en1, e2, c, s2, e3, q1, q2⟩ := hb i v acc s hv hi
      simp only [e2, e3, bnd]
      cases c with
      | true =>
        obtain ⟨x, s3, e4, q⟩ := q1 rfl
        simp only [if_true, e4]
        exact wp_ok.mpr q
      | false =>
        simp only [Bool.false_eq_true, if_false]
        exact wp_ok.mpr (by rw [show (none : Option Val).toList = [] from rfl, List.append_nil]; exact q2 rfl)
  rw [List.drop_zero] at this
  rw [ev, e1]
  show Wp (if w.1.length ≤ LIM then bnd _ _ else none) Q
  rw [if_pos hl]
  exact this.bnd' fun us s2 q => ⟨_, _, rfl, hq us s2 q⟩
theorem wp_compE {m : Bool} {elt : Ex} {t : Tg} {it : It} {cond : Option Ex} {own : List Nat} {Q : Val → Sto → Prop} {w : Walk} {s1 : Sto} (I : Nat → List Val → Sto → Prop) (e1 : evi C it en s = some (.ok w, s1)) (hl : w.1.length ≤ LIM) (h0 : I 0 [] s1) (hs : ∀ i acc s, I i acc s → still w.2 s = true)
    (hb : ∀ i v acc s, w.1[i]? = some v → I i acc s → ∃ en1, bindT t v (wipe en own) = some en1 ∧ Wp (evc C cond en1 s) fun c s => (c = true → Wp (ev C elt en1 s) fun x s => I (i + 1) (acc ++ [x]) s) ∧ (c = false → I (i + 1) acc s))
    (hq : ∀ us s, I w.1.length us s → Q (alloc m us s).1 (alloc m us s).2) : Wp (ev C (.comp m elt t it cond own) en s) Q :=
  wp_comp I ⟨w, s1, e1, hl, h0, hs, hb, hq⟩
/-- the keys of a dict -/
theorem forKeys_is {c : Sto → R Val} {f : Val → Env → Sto → S} {l : Nat} {kvs : List (AKey × Val)} {en2 : Env} {s1 s2 : Sto} (e0 : c s = some (.ok (.loc l), s1)) (hl : s[l]? = some (.dT kvs)) (e1 : c (s.set l (.dTf kvs)) = some (.ok (.loc l), s.set l (.dTf kvs))) (e2 : forL none f (kvs.map fun p => keyV p.1) en (s.set l (.dTf kvs)) = some (.next, en2, s2)) (h1 : s2[l]? = some (.dTf kvs)) :
    forKeys c f en s = some (.next, en2, s2.set l (.dT kvs)) := by
  simp only [forKeys, e0, hl, e1, if_true, e2, unlock, h1, Option.map_some]
theorem w_forK {t : Tg} {e : Ex} {b : List Stm} {l : Nat} {kvs : List (AKey × Val)} (I : Nat → Env → Sto → Prop) (e0 : ev C e en s = some (.ok (.loc l), s)) (hl : s[l]? = some (.dT kvs)) (e1 : ev C e en (s.set l (.dTf kvs)) = some (.ok (.loc l), s.set l (.dTf kvs))) (h0 : I 0 en (s.set l (.dTf kvs)))
    (hb : ∀ (i : Nat) p en s', kvs[i]? = some p → I i en s' → ∃ en1, bindT t (keyV p.1) en = some en1 ∧ WpS (execs C b en1 s') fun r en s => match r with
      | .next => I (i + 1) en s
      | _ => False) (hr : ∀ en s', I kvs.length en s' → s'[l]? = some (.dTf kvs) ∧ WpS (execs C r en (s'.set l (.dT kvs))) Q) : WpS (execs C (.forK t e b :: r) en s) Q := by
  have key := forL_inv (c := none) (f := fun v en s => match bindT t v en with
    | some en1 => execs C b en1 s
    | none => none) I (fun _ _ _ => False) (vs := kvs.map fun p => keyV p.1) 0 h0 (Nat.zero_le _) (fun _ _ _ _ => rfl) fun i v en s hv hi => by
      rw [List.getElem?_map, Option.map_eq_some_iff] at hv
      obtain ⟨p, hp, rfl⟩ := hv
      obtain ⟨en1, e2, q⟩ := hb i p en s hp hi
      simp only [e2]
      refine q.imp fun o en s z => ?_
      cases o <;> first | exact z | exact z.elim
  rw [List.drop_zero, List.length_map] at key
  obtain ⟨o, en2, s2, e2, q⟩ := key
  cases o with
  | next =>
    obtain ⟨h1, h2⟩ := hr en2 s2 q
    have := forKeys_is e0 hl e1 e2 h1
    simp only [execs, exec]
    exact ws_sq ⟨_, _, _, this, h2⟩
  | _ => exact q.elim
/-- while, by a measure -/
theorem w_whl {c : Ex} {b : List Stm} (I : Nat → Env → Sto → Prop) {m : Nat} (h0 : I m en s) (hm : m < WF) (hb : ∀ m en s, I m en s → Wp (ev C c en s) fun v s1 => (v = .bl false ∧ WpS (execs C r en s1) Q) ∨ (v = .bl true ∧ ∃ m', m = m' + 1 ∧ WpS (execs C b en s1) fun o en s => match o with
      | .next => I m' en s
      | .cont => I m' en s
      | .ret x => Q (.ret x) en s
      | _ => False)) : WpS (execs C (.whl c b :: r) en s) Q := by
  have key : ∀ (n m : Nat) (en : Env) (s : Sto), m < n → I m en s → WpS (whlL (ev C c) (execs C b) n en s) fun o en s => match o with
      | .next => WpS (execs C r en s) Q
      | .ret x => Q (.ret x) en s
      | _ => False := by
    intro n
    induction n with
    | zero => intro m en s h; omega
    | succ n ih =>
      intro m en s h hi
      obtain ⟨v, s1, e1, q⟩ := hb m en s hi
      simp only [whlL, e1, sb]
      rcases q with ⟨rfl, q⟩ | ⟨rfl, m', rfl, o, en2, s2, e2, q⟩
      · exact ⟨_, _, _, rfl, q⟩
      · simp only [e2]
        cases o with
        | next => exact ih m' en2 s2 (by omega) q
        | cont => exact ih m' en2 s2 (by omega) q
        | ret x => exact ⟨_, _, _, rfl, q⟩
        | brk => exact q.elim
        | err x => exact q.elim
  simp only [execs, exec]
  refine ws_sq ((key WF m en s hm h0).imp fun o en s q => ?_)
  cases o with
  | next => exact q
  | ret x => exact q
  | _ => exact q.elim
/-- a def's run -/
theorem wp_run {T : Tab} {k f : Nat} {vs : List Val} {c : Fn} {Q : Val → Sto → Prop} (hc : T.code f = some c) (hl : vs.length = c.np) (h : WpS (execs { T := T, call := callN T k, init := callN T (k - 1) } c.body (vs.map some ++ List.replicate (c.ns - c.np) none) s) fun r _ s => match r with
    | .next => Q .non s
    | .ret v => Q v s
    | _ => False) : Wp (callN T (k + 1) f vs s) Q := by
  have e : callN T (k + 1) = runF T (callN T k) (callN T (k - 1)) := by cases k <;> rfl
  rw [e]
  simp only [runF, hc, if_pos hl]
  obtain ⟨r, en1, s1, e1, q⟩ := h
  rw [e1]
  cases r with
  | next => exact ⟨_, _, rfl, q⟩
  | ret v => exact ⟨_, _, rfl, q⟩
  | brk => exact q.elim
  | cont => exact q.elim
  | err x => exact q.elim
/-! ### what stands -/
/-- all but L stands -/
def Frm (L : List Nat) (s s' : Sto) : Prop := s.length ≤ s'.length ∧ ∀ (i : Nat) o, s[i]? = some o → i ∉ L → s'[i]? = some o
theorem Frm.refl (L : List Nat) (s : Sto) : Frm L s s := ⟨Nat.le_refl _, fun _ _ h _ => h⟩
theorem Frm.trans {L : List Nat} {s s' s'' : Sto} (a : Frm L s s') (b : Frm L s' s'') : Frm L s s'' := ⟨Nat.le_trans a.1 b.1, fun i o h hn => b.2 i o (a.2 i o h hn) hn⟩
theorem Frm.mono {L L' : List Nat} {s s' : Sto} (a : Frm L s s') (h : ∀ i ∈ L, i ∈ L') : Frm L' s s' := ⟨a.1, fun i o e hn => a.2 i o e fun z => hn (h i z)⟩
theorem Frm.set {s : Sto} {l : Nat} {o : SO} : Frm [l] s (s.set l o) := ⟨by simp, fun i o h hn => by rw [List.getElem?_set_ne fun z => hn (by simp [z])]; exact h⟩
theorem Frm.push {s : Sto} {o : SO} : Frm [] s (s ++ [o]) := ⟨by simp, fun i o h _ => by rw [List.getElem?_append_left (List.getElem?_eq_some_iff.mp h).1]; exact h⟩
theorem at_set {s : Sto} {l : Nat} {o o' : SO} (h : s[l]? = some o') : (s.set l o)[l]? = some o := List.getElem?_set_self (List.getElem?_eq_some_iff.mp h).1
theorem at_push {s : Sto} {o : SO} : (s ++ [o])[s.length]? = some o := by simp
end Lw
end
section
set_option Elab.async false
set_option linter.all false
set_option autoImplicit false
set_option maxRecDepth 100000
set_option maxHeartbeats 1000000
/-! The draws that the laws share. -/
namespace Lw
open Ab
/-- _law_take -/
def takeC : List Stm := [(.ifS (.cmp .eq (.item (.var 0) (.cst (.int 0))) (.lst false [])) [(.asgI (.var 0) (.cst (.int 1)) (.bin .mod false (.bin .mul false (.item (.var 0) (.cst (.int 1))) (.cst (.int 48271))) (.cst (.int 2147483647)))), (.ret (.bin .mod false (.bin .fdiv false (.item (.var 0) (.cst (.int 1))) (.cst (.int 7))) (.var 1)))] []), (.asg (.name 2) (.item (.item (.var 0) (.cst (.int 0))) (.cst (.int 0)))), (.asgI (.item (.var 0) (.cst (.int 0))) (.cst (.int 0)) (.bin .fdiv false (.var 2) (.var 1))), (.ifS (.orE (.cmp .eq (.item (.item (.var 0) (.cst (.int 0))) (.cst (.int 0))) (.cst (.int 0))) (.cmp .eq (.item (.item (.var 0) (.cst (.int 0))) (.cst (.int 0))) (.cst (.int (-1))))) [(.expr (.bm .popAt (.item (.var 0) (.cst (.int 0))) [(.cst (.int 0))]))] []), (.ret (.bin .mod false (.var 2) (.var 1)))]
/-- the box of draws: a list of the numbers that are left, and the one that goes on behind them -/
def Box (s : Sto) (b j : Nat) : Prop := ∃ (xs : List Int) (st : Int), s[b]? = some (.list [.loc j, .int st]) ∧ s[j]? = some (.list (xs.map .int))
theorem Box.ne {s : Sto} {b j : Nat} (h : Box s b j) : b ≠ j := by
  obtain ⟨xs, st, h1, h2⟩ := h
  rintro rfl
  rw [h1] at h2
  cases xs with
  | nil => cases h2
  | cons x xs => simp at h2
theorem Box.frm {s s' : Sto} {b j : Nat} {L : List Nat} (h : Box s b j) (f : Frm L s s') (h1 : b ∉ L) (h2 : j ∉ L) : Box s' b j := by
  obtain ⟨xs, st, e1, e2⟩ := h
  exact ⟨xs, st, f.2 _ _ e1 h1, f.2 _ _ e2 h2⟩
/-- places -/
theorem ixN_of {n i : Nat} (h : i < n) : L2.ixN n (i : Nat) = some i := by
  unfold L2.ixN
  rw [if_pos (Int.natCast_nonneg i), if_pos (Int.ofNat_lt.mpr h), Int.toNat_natCast]
theorem atI_of {α : Type} {xs : List α} {i : Nat} {x : α} (h : xs[i]? = some x) : L2.atI xs (i : Nat) = some x := by
  unfold L2.atI
  rw [ixN_of (List.getElem?_eq_some_iff.mp h).1]
  exact h
theorem atI_zero {α : Type} {x : α} {xs : List α} : L2.atI (x :: xs) 0 = some x := atI_of (i := 0) rfl
theorem mulOk_r {i j : Int} (h : -(2 ^ 64) < j ∧ j < 2 ^ 64) : mulOk i j = true := decide_eq_true (.inr h)
theorem res_ints (s : Sto) (n : Nat) : ∀ xs : List Int, (xs.map Val.int).mapM (res s (n + 1)) = some (xs.map Val.int)
  | [] => rfl
  | x :: xs => by
    rw [List.map_cons, List.mapM_cons, res_ints s n xs]
    rfl
theorem eq_empty {s : Sto} {j : Nat} {xs : List Int} (h : s[j]? = some (.list (xs.map .int))) : eqV s (.loc j) (.lst []) = some xs.isEmpty := by
  have e1 : res s DEEP (.loc j) = some (.lst (xs.map .int)) := by
    show (match s[j]? with | some (.list vs) => (vs.mapM (res s 11)).map Val.lst | _ => none) = _
    rw [h]
    show ((xs.map Val.int).mapM (res s 11)).map Val.lst = _
    rw [res_ints s 10]
    rfl
  have e2 : res s DEEP (.lst []) = some (.lst []) := rfl
  unfold eqV
  rw [e1, e2]
  cases xs <;> rfl
theorem eq_ints {s : Sto} {i j : Int} : eqV s (.int i) (.int j) = some (i == j) := rfl
section
variable {T : Tab} {k f : Nat} {s : Sto}
theorem take_ok {b j : Nat} {many : Int} (hc : T.code f = some ⟨2, 3, takeC⟩) (hb : Box s b j) (h0 : 0 < many) (h1 : many < 1073741824) :
    Wp (callN T (k + 1) f [.loc b, .int many] s) fun v s' => ∃ r : Int, v = .int r ∧ 0 ≤ r ∧ r < many ∧ Box s' b j ∧ Frm [b, j] s s' ∧ s'.length = s.length := by
  have hne := hb.ne
  obtain ⟨xs, st, e1, e2⟩ := hb
  refine wp_run hc rfl ?_
  have m0 : ∀ x : Int, 0 ≤ x % many ∧ x % many < many := fun x => ⟨Int.emod_nonneg _ (by omega), Int.emod_lt_of_pos _ h0⟩
  have i0 : L2.atI [Val.loc j, .int st] 0 = some (.loc j) := rfl
  have i1 : L2.atI [Val.loc j, .int st] 1 = some (.int st) := rfl
  refine w_if ?_
  simp only [ev, evs, evo, evc, evi, wp_bnd, wp_ok, wp_pur, wp_lift, List.map_cons, List.map_nil, List.cons_append, List.nil_append, List.getElem?_cons_zero, List.getElem?_cons_succ, List.set_cons_zero, List.set_cons_succ, List.replicate_succ, List.replicate_zero, Nat.reduceSub, itemV, seqOf, lstOf, Option.bind_some, Option.bind_none, cmpV, binV, biV, bmV, bmO, bmR, bmC, bmI, bmTy, alloc, Option.map_some, Option.map_none, Bool.false_eq_true, if_false, if_true, Option.some.injEq, Prod.mk.injEq, Val.bl.injEq, Val.int.injEq, Val.loc.injEq, Val.str.injEq, Val.lst.injEq, Val.tup.injEq, exists_eq_left', exists_eq_left, exists_and_left, exists_and_right, and_assoc, true_and, and_true, Option.isSome_some, id_eq, Bool.not_true, Bool.not_false, optI, List.length_cons, List.length_nil, lim_le, lim_lt, Nat.zero_add, Nat.reduceAdd, Nat.reduceLeDiff, Nat.zero_le, Nat.reduceLT, e1, i0, eq_empty e2]
  refine ⟨fun h => ?_, fun h => ?_⟩
  · -- behind the numbers
    refine w_asgI ?_
    have z0 : mulOk st 48271 = true := mulOk_r (by decide)
    have z1 : (0 : Int) < 2147483647 := by decide
    simp only [ev, evs, evo, evc, evi, wp_bnd, wp_ok, wp_pur, wp_lift, List.map_cons, List.map_nil, List.cons_append, List.nil_append, List.getElem?_cons_zero, List.getElem?_cons_succ, List.set_cons_zero, List.set_cons_succ, List.replicate_succ, List.replicate_zero, Nat.reduceSub, itemV, seqOf, lstOf, Option.bind_some, Option.bind_none, cmpV, binV, biV, bmV, bmO, bmR, bmC, bmI, bmTy, alloc, Option.map_some, Option.map_none, Bool.false_eq_true, if_false, if_true, Option.some.injEq, Prod.mk.injEq, Val.bl.injEq, Val.int.injEq, Val.loc.injEq, Val.str.injEq, Val.lst.injEq, Val.tup.injEq, exists_eq_left', exists_eq_left, exists_and_left, exists_and_right, and_assoc, true_and, and_true, Option.isSome_some, id_eq, Bool.not_true, Bool.not_false, optI, List.length_cons, List.length_nil, lim_le, lim_lt, Nat.zero_add, Nat.reduceAdd, Nat.reduceLeDiff, Nat.zero_le, Nat.reduceLT, e1, i1, z0, z1]
    have z2 : L2.ixN 2 1 = some 1 := rfl
    refine ⟨s.set b (.list [.loc j, .int (st * 48271 % 2147483647)]), ?_, ?_⟩
    · simp only [setV, e1]
      rfl
    · have f1 := at_set (o := .list [.loc j, .int (st * 48271 % 2147483647)]) e1
      have f2 : (s.set b (.list [.loc j, .int (st * 48271 % 2147483647)]))[j]? = some (.list (xs.map .int)) := by rw [List.getElem?_set_ne hne]; exact e2
      refine w_ret ?_
      have z3 : L2.atI [Val.loc j, .int (st * 48271 % 2147483647)] 1 = some (.int (st * 48271 % 2147483647)) := rfl
      have z4 : (0 : Int) < 7 ∧ (7 : Int) < 1073741824 := by decide
      simp only [ev, evs, evo, evc, evi, wp_bnd, wp_ok, wp_pur, wp_lift, List.map_cons, List.map_nil, List.cons_append, List.nil_append, List.getElem?_cons_zero, List.getElem?_cons_succ, List.set_cons_zero, List.set_cons_succ, List.replicate_succ, List.replicate_zero, Nat.reduceSub, itemV, seqOf, lstOf, Option.bind_some, Option.bind_none, cmpV, binV, biV, bmV, bmO, bmR, bmC, bmI, bmTy, alloc, Option.map_some, Option.map_none, Bool.false_eq_true, if_false, if_true, Option.some.injEq, Prod.mk.injEq, Val.bl.injEq, Val.int.injEq, Val.loc.injEq, Val.str.injEq, Val.lst.injEq, Val.tup.injEq, exists_eq_left', exists_eq_left, exists_and_left, exists_and_right, and_assoc, true_and, and_true, Option.isSome_some, id_eq, Bool.not_true, Bool.not_false, optI, List.length_cons, List.length_nil, lim_le, lim_lt, Nat.zero_add, Nat.reduceAdd, Nat.reduceLeDiff, Nat.zero_le, Nat.reduceLT, f1, z3, if_pos z4, if_pos h0]
      exact ⟨(m0 _).1, (m0 _).2, ⟨xs, _, f1, f2⟩, Frm.set.mono (by simp), by simp⟩
  · cases xs with
    | nil => cases h
    | cons x xs =>
      have i2 : L2.atI (Val.int x :: xs.map Val.int) 0 = some (.int x) := atI_zero
      refine w_asg ?_
      simp only [ev, evs, evo, evc, evi, wp_bnd, wp_ok, wp_pur, wp_lift, List.map_cons, List.map_nil, List.cons_append, List.nil_append, List.getElem?_cons_zero, List.getElem?_cons_succ, List.set_cons_zero, List.set_cons_succ, List.replicate_succ, List.replicate_zero, Nat.reduceSub, itemV, seqOf, lstOf, Option.bind_some, Option.bind_none, cmpV, binV, biV, bmV, bmO, bmR, bmC, bmI, bmTy, alloc, Option.map_some, Option.map_none, Bool.false_eq_true, if_false, if_true, Option.some.injEq, Prod.mk.injEq, Val.bl.injEq, Val.int.injEq, Val.loc.injEq, Val.str.injEq, Val.lst.injEq, Val.tup.injEq, exists_eq_left', exists_eq_left, exists_and_left, exists_and_right, and_assoc, true_and, and_true, Option.isSome_some, id_eq, Bool.not_true, Bool.not_false, optI, List.length_cons, List.length_nil, lim_le, lim_lt, Nat.zero_add, Nat.reduceAdd, Nat.reduceLeDiff, Nat.zero_le, Nat.reduceLT, e1, i0, e2, i2]
      refine w_asgI ?_
      simp only [ev, evs, evo, evc, evi, wp_bnd, wp_ok, wp_pur, wp_lift, List.map_cons, List.map_nil, List.cons_append, List.nil_append, List.getElem?_cons_zero, List.getElem?_cons_succ, List.set_cons_zero, List.set_cons_succ, List.replicate_succ, List.replicate_zero, Nat.reduceSub, itemV, seqOf, lstOf, Option.bind_some, Option.bind_none, cmpV, binV, biV, bmV, bmO, bmR, bmC, bmI, bmTy, alloc, Option.map_some, Option.map_none, Bool.false_eq_true, if_false, if_true, Option.some.injEq, Prod.mk.injEq, Val.bl.injEq, Val.int.injEq, Val.loc.injEq, Val.str.injEq, Val.lst.injEq, Val.tup.injEq, exists_eq_left', exists_eq_left, exists_and_left, exists_and_right, and_assoc, true_and, and_true, Option.isSome_some, id_eq, Bool.not_true, Bool.not_false, optI, List.length_cons, List.length_nil, lim_le, lim_lt, Nat.zero_add, Nat.reduceAdd, Nat.reduceLeDiff, Nat.zero_le, Nat.reduceLT, e1, i0, if_pos (And.intro h0 h1)]
      refine ⟨s.set j (.list (Val.int (x / many) :: xs.map .int)), ?_, ?_⟩
      · simp only [setV, e2, List.map_cons]
        rw [show L2.ixN (Val.int x :: xs.map Val.int).length 0 = some 0 from ixN_of (i := 0) (by simp)]
        rfl
      · have f1 : (s.set j (.list (Val.int (x / many) :: xs.map .int)))[b]? = some (.list [.loc j, .int st]) := by rw [List.getElem?_set_ne hne.symm]; exact e1
        have f2 := at_set (o := .list (Val.int (x / many) :: xs.map .int)) e2
        have i3 : L2.atI (Val.int (x / many) :: xs.map Val.int) 0 = some (.int (x / many)) := atI_zero
        have fr : Frm [b, j] s (s.set j (.list (Val.int (x / many) :: xs.map .int))) := Frm.set.mono (by simp)
        refine w_if ?_
        have key : Wp (ev { T := T, call := callN T k, init := callN T (k - 1) } (.orE (.cmp .eq (.item (.item (.var 0) (.cst (.int 0))) (.cst (.int 0))) (.cst (.int 0))) (.cmp .eq (.item (.item (.var 0) (.cst (.int 0))) (.cst (.int 0))) (.cst (.int (-1)))))
            [some (.loc b), some (.int many), some (.int x)] (s.set j (.list (Val.int (x / many) :: xs.map .int)))) fun v s1 => s1 = s.set j (.list (Val.int (x / many) :: xs.map .int)) ∧ ∃ q, v = .bl q := by
          simp only [ev, evs, evo, evc, evi, wp_bnd, wp_ok, wp_pur, wp_lift, List.map_cons, List.map_nil, List.cons_append, List.nil_append, List.getElem?_cons_zero, List.getElem?_cons_succ, List.set_cons_zero, List.set_cons_succ, List.replicate_succ, List.replicate_zero, Nat.reduceSub, itemV, seqOf, lstOf, Option.bind_some, Option.bind_none, cmpV, binV, biV, bmV, bmO, bmR, bmC, bmI, bmTy, alloc, Option.map_some, Option.map_none, Bool.false_eq_true, if_false, if_true, Option.some.injEq, Prod.mk.injEq, Val.bl.injEq, Val.int.injEq, Val.loc.injEq, Val.str.injEq, Val.lst.injEq, Val.tup.injEq, exists_eq_left', exists_eq_left, exists_and_left, exists_and_right, and_assoc, true_and, and_true, Option.isSome_some, id_eq, Bool.not_true, Bool.not_false, optI, List.length_cons, List.length_nil, lim_le, lim_lt, Nat.zero_add, Nat.reduceAdd, Nat.reduceLeDiff, Nat.zero_le, Nat.reduceLT, f1, i0, f2, i3, eq_ints]
          by_cases c : x / many = 0
          · rw [c]
            exact wp_ok.mpr ⟨rfl, _, rfl⟩
          · have c' : (x / many == 0) = false := by simpa using c
            simp only [c', ev, evs, evo, evc, evi, wp_bnd, wp_ok, wp_pur, wp_lift, List.map_cons, List.map_nil, List.cons_append, List.nil_append, List.getElem?_cons_zero, List.getElem?_cons_succ, List.set_cons_zero, List.set_cons_succ, List.replicate_succ, List.replicate_zero, Nat.reduceSub, itemV, seqOf, lstOf, Option.bind_some, Option.bind_none, cmpV, binV, biV, bmV, bmO, bmR, bmC, bmI, bmTy, alloc, Option.map_some, Option.map_none, Bool.false_eq_true, if_false, if_true, Option.some.injEq, Prod.mk.injEq, Val.bl.injEq, Val.int.injEq, Val.loc.injEq, Val.str.injEq, Val.lst.injEq, Val.tup.injEq, exists_eq_left', exists_eq_left, exists_and_left, exists_and_right, and_assoc, true_and, and_true, Option.isSome_some, id_eq, Bool.not_true, Bool.not_false, optI, List.length_cons, List.length_nil, lim_le, lim_lt, Nat.zero_add, Nat.reduceAdd, Nat.reduceLeDiff, Nat.zero_le, Nat.reduceLT, f1, i0, f2, i3, eq_ints]
            exact ⟨_, rfl⟩
        refine key.imp ?_
        rintro v s1 ⟨rfl, q, rfl⟩
        refine ⟨q, rfl, fun _ => ?_, fun _ => ?_⟩
        · refine w_expr ?_
          have z5 : (0 : Int) ≤ 0 ∧ (0 : Int) < 1000000000 := by decide
          simp only [ev, evs, evo, evc, evi, wp_bnd, wp_ok, wp_pur, wp_lift, List.map_cons, List.map_nil, List.cons_append, List.nil_append, List.getElem?_cons_zero, List.getElem?_cons_succ, List.set_cons_zero, List.set_cons_succ, List.replicate_succ, List.replicate_zero, Nat.reduceSub, itemV, seqOf, lstOf, Option.bind_some, Option.bind_none, cmpV, binV, biV, bmV, bmO, bmR, bmC, bmI, bmTy, alloc, Option.map_some, Option.map_none, Bool.false_eq_true, if_false, if_true, Option.some.injEq, Prod.mk.injEq, Val.bl.injEq, Val.int.injEq, Val.loc.injEq, Val.str.injEq, Val.lst.injEq, Val.tup.injEq, exists_eq_left', exists_eq_left, exists_and_left, exists_and_right, and_assoc, true_and, and_true, Option.isSome_some, id_eq, Bool.not_true, Bool.not_false, optI, List.length_cons, List.length_nil, lim_le, lim_lt, Nat.zero_add, Nat.reduceAdd, Nat.reduceLeDiff, Nat.zero_le, Nat.reduceLT, f1, i0, f2, if_pos z5, Int.toNat_zero, List.eraseIdx_cons_zero]
          refine w_ret ?_
          simp only [ev, evs, evo, evc, evi, wp_bnd, wp_ok, wp_pur, wp_lift, List.map_cons, List.map_nil, List.cons_append, List.nil_append, List.getElem?_cons_zero, List.getElem?_cons_succ, List.set_cons_zero, List.set_cons_succ, List.replicate_succ, List.replicate_zero, Nat.reduceSub, itemV, seqOf, lstOf, Option.bind_some, Option.bind_none, cmpV, binV, biV, bmV, bmO, bmR, bmC, bmI, bmTy, alloc, Option.map_some, Option.map_none, Bool.false_eq_true, if_false, if_true, Option.some.injEq, Prod.mk.injEq, Val.bl.injEq, Val.int.injEq, Val.loc.injEq, Val.str.injEq, Val.lst.injEq, Val.tup.injEq, exists_eq_left', exists_eq_left, exists_and_left, exists_and_right, and_assoc, true_and, and_true, Option.isSome_some, id_eq, Bool.not_true, Bool.not_false, optI, List.length_cons, List.length_nil, lim_le, lim_lt, Nat.zero_add, Nat.reduceAdd, Nat.reduceLeDiff, Nat.zero_le, Nat.reduceLT, if_pos h0]
          refine ⟨(m0 _).1, (m0 _).2, ⟨xs, st, ?_, at_set f2⟩, fr.trans (Frm.set.mono (by simp)), by simp⟩
          rw [List.getElem?_set_ne hne.symm]
          exact f1
        · refine w_ret ?_
          simp only [ev, evs, evo, evc, evi, wp_bnd, wp_ok, wp_pur, wp_lift, List.map_cons, List.map_nil, List.cons_append, List.nil_append, List.getElem?_cons_zero, List.getElem?_cons_succ, List.set_cons_zero, List.set_cons_succ, List.replicate_succ, List.replicate_zero, Nat.reduceSub, itemV, seqOf, lstOf, Option.bind_some, Option.bind_none, cmpV, binV, biV, bmV, bmO, bmR, bmC, bmI, bmTy, alloc, Option.map_some, Option.map_none, Bool.false_eq_true, if_false, if_true, Option.some.injEq, Prod.mk.injEq, Val.bl.injEq, Val.int.injEq, Val.loc.injEq, Val.str.injEq, Val.lst.injEq, Val.tup.injEq, exists_eq_left', exists_eq_left, exists_and_left, exists_and_right, and_assoc, true_and, and_true, Option.isSome_some, id_eq, Bool.not_true, Bool.not_false, optI, List.length_cons, List.length_nil, lim_le, lim_lt, Nat.zero_add, Nat.reduceAdd, Nat.reduceLeDiff, Nat.zero_le, Nat.reduceLT, if_pos h0]
          exact ⟨(m0 _).1, (m0 _).2, ⟨x / many :: xs, st, f1, f2⟩, fr, by simp⟩
end
end Lw
end
section
set_option Elab.async false
set_option linter.all false
set_option autoImplicit false
set_option maxRecDepth 100000
set_option maxHeartbeats 1000000
/-! The draws that the laws share: the box at its beginning, the words. -/
namespace Lw
open Ab
/-- _law_begun -/
def begunC : List Stm := [(.asg (.name 1) (.cst (.int 0))), (.forS (.name 2) (.val (.var 0)) [(.asg (.name 1) (.bin .mod false (.bin .add false (.bin .add false (.bin .mul false (.var 1) (.cst (.int 48271))) (.bin .mul false (.var 2) (.cst (.int 69621)))) (.cst (.int 11))) (.cst (.int 2147483647))))]), (.ret (.lst true [(.bi .list true [(.var 0)]), (.bin .mul false (.var 1) (.bi .int false [(.cmp .gt (.bi .len false [(.var 0)]) (.cst (.int 2)))]))]))]
section
variable {T : Tab} {k f : Nat} {s : Sto}
theorem begun_ok {ns : List Int} (hc : T.code f = some ⟨1, 3, begunC⟩) : Wp (callN T (k + 1) f [.scr ns] s) fun v s' => ∃ b j, v = .loc b ∧ Box s' b j ∧ Frm [] s s' ∧ s.length ≤ b ∧ s.length ≤ j := by
  refine wp_run hc rfl ?_
  refine w_asg ?_
  simp only [ev, evs, evo, evc, evi, wp_bnd, wp_ok, wp_pur, wp_lift, List.map_cons, List.map_nil, List.cons_append, List.nil_append, List.getElem?_cons_zero, List.getElem?_cons_succ, List.set_cons_zero, List.set_cons_succ, List.replicate_succ, List.replicate_zero, Nat.reduceSub, itemV, seqOf, lstOf, Option.bind_some, Option.bind_none, cmpV, binV, biV, bmV, bmO, bmR, bmC, bmI, bmTy, alloc, Option.map_some, Option.map_none, Bool.false_eq_true, if_false, if_true, Option.some.injEq, Prod.mk.injEq, Val.bl.injEq, Val.int.injEq, Val.loc.injEq, Val.str.injEq, Val.lst.injEq, Val.tup.injEq, exists_eq_left', exists_eq_left, exists_and_left, exists_and_right, and_assoc, true_and, and_true, Option.isSome_some, id_eq, Bool.not_true, Bool.not_false, optI, List.length_cons, List.length_nil, lim_le, lim_lt, Nat.zero_add, Nat.reduceAdd, Nat.reduceLeDiff, Nat.zero_le, Nat.reduceLT]
  refine w_forE (fun _ en s' => s' = s ∧ ∃ (x : Int) (o : Option Val), en = [some (.scr ns), some (.int x), o]) (w := (ns.map .int, none)) (s1 := s) ?_ ⟨rfl, 0, none, rfl⟩ (fun _ _ _ _ => rfl) ?_ ?_
  · simp only [ev, evs, evo, evc, evi, bnd, ok, pur, lift, List.map_cons, List.map_nil, List.cons_append, List.nil_append, List.getElem?_cons_zero, List.getElem?_cons_succ, List.set_cons_zero, List.set_cons_succ, List.replicate_succ, List.replicate_zero, Nat.reduceSub, itemV, seqOf, lstOf, Option.bind_some, Option.bind_none, cmpV, binV, biV, bmV, bmO, bmR, bmC, bmI, bmTy, alloc, Option.map_some, Option.map_none, Bool.false_eq_true, if_false, if_true, optI, walkV, List.length_cons, List.length_nil, lim_le, lim_lt, Nat.zero_add, Nat.reduceAdd, Nat.reduceLeDiff, Nat.zero_le, Nat.reduceLT, Option.isSome_some]
  · rintro i v en s' hv ⟨rfl, x, o, rfl⟩
    rw [List.getElem?_map] at hv
    cases e : ns[i]? with
    | none => rw [e] at hv; cases hv
    | some n =>
      rw [e] at hv
      cases hv
      refine ⟨_, rfl, ?_⟩
      refine w_asg ?_
      have z0 : mulOk x 48271 = true := mulOk_r (by decide)
      have z1 : mulOk n 69621 = true := mulOk_r (by decide)
      have z2 : (0 : Int) < 2147483647 := by decide
      simp only [ev, evs, evo, evc, evi, wp_bnd, wp_ok, wp_pur, wp_lift, List.map_cons, List.map_nil, List.cons_append, List.nil_append, List.getElem?_cons_zero, List.getElem?_cons_succ, List.set_cons_zero, List.set_cons_succ, List.replicate_succ, List.replicate_zero, Nat.reduceSub, itemV, seqOf, lstOf, Option.bind_some, Option.bind_none, cmpV, binV, biV, bmV, bmO, bmR, bmC, bmI, bmTy, alloc, Option.map_some, Option.map_none, Bool.false_eq_true, if_false, if_true, Option.some.injEq, Prod.mk.injEq, Val.bl.injEq, Val.int.injEq, Val.loc.injEq, Val.str.injEq, Val.lst.injEq, Val.tup.injEq, exists_eq_left', exists_eq_left, exists_and_left, exists_and_right, and_assoc, true_and, and_true, Option.isSome_some, id_eq, Bool.not_true, Bool.not_false, optI, List.length_cons, List.length_nil, lim_le, lim_lt, Nat.zero_add, Nat.reduceAdd, Nat.reduceLeDiff, Nat.zero_le, Nat.reduceLT, z0, z1, if_pos z2]
      exact w_nil ⟨rfl, _, _, rfl⟩
  · rintro en s' ⟨rfl, x, o, rfl⟩
    refine w_ret ?_
    have z : ∀ q : Bool, mulOk x (if q = true then 1 else 0) = true := fun q => mulOk_r (by cases q <;> decide)
    simp only [ev, evs, evo, evc, evi, wp_bnd, wp_ok, wp_pur, wp_lift, List.map_cons, List.map_nil, List.cons_append, List.nil_append, List.getElem?_cons_zero, List.getElem?_cons_succ, List.set_cons_zero, List.set_cons_succ, List.replicate_succ, List.replicate_zero, Nat.reduceSub, itemV, seqOf, lstOf, Option.bind_some, Option.bind_none, cmpV, binV, biV, bmV, bmO, bmR, bmC, bmI, bmTy, alloc, Option.map_some, Option.map_none, Bool.false_eq_true, if_false, if_true, Option.some.injEq, Prod.mk.injEq, Val.bl.injEq, Val.int.injEq, Val.loc.injEq, Val.str.injEq, Val.lst.injEq, Val.tup.injEq, exists_eq_left', exists_eq_left, exists_and_left, exists_and_right, and_assoc, true_and, and_true, Option.isSome_some, id_eq, Bool.not_true, Bool.not_false, optI, List.length_cons, List.length_nil, lim_le, lim_lt, Nat.zero_add, Nat.reduceAdd, Nat.reduceLeDiff, Nat.zero_le, Nat.reduceLT, z]
    refine ⟨s'.length, ⟨ns, _, at_push, by rw [List.getElem?_append_left (by simp)]; exact at_push⟩, ⟨by simp, fun i o h _ => ?_⟩, by simp, Nat.le_refl _⟩
    have := (List.getElem?_eq_some_iff.mp h).1
    rw [List.getElem?_append_left (by simp; omega), List.getElem?_append_left this]
    exact h
/-- _law_words, n the number of _law_take -/
def wordsC (n : Nat) : List Stm := [(.asg (.name 1) (.cst (.str [97, 98, 99, 100, 101, 102, 103, 104, 105, 106, 107, 108, 109, 110, 111, 112, 113, 114, 115, 116, 117, 118, 119, 120, 121, 122]))), (.asg (.name 2) (.comp false (.item (.var 1) (.call n [(.var 0), (.cst (.int 26))])) (.name 7) (.rng1 (.cst (.int 6))) none [7])), (.asg (.name 3) (.call n [(.var 0), (.cst (.int 26))])), (.asg (.name 4) (.call n [(.var 0), (.cst (.int 3))])), (.ifS (.cmp .eq (.var 4) (.cst (.int 0))) [(.asg (.name 7) (.call n [(.var 0), (.cst (.int 6))])), (.asg (.name 8) (.bin .add false (.bin .add false (.var 7) (.cst (.int 1))) (.call n [(.var 0), (.bin .sub false (.cst (.int 6)) (.var 7))]))), (.asg (.name 9) (.item (.lst false [(.cst (.int 1)), (.cst (.int 3)), (.cst (.int 5)), (.cst (.int 7))]) (.call n [(.var 0), (.cst (.int 4))]))), (.asg (.name 10) (.comp false (.item (.var 1) (.bin .mod false (.bin .add false (.var 3) (.bin .mul false (.var 9) (.var 6))) (.cst (.int 26)))) (.name 6) (.rng1 (.cst (.int 14))) none [6])), (.ret (.comp false (.bm .join (.cst (.str [])) [(.bin .add false (.bin .add false (.slice false (.var 2) none (some (.var 7))) (.lst false [(.var 13)])) (.slice false (.var 2) (some (.bin .add false (.var 7) (.cst (.int 1)))) (some (.var 8))))]) (.name 13) (.val (.var 10)) none [13]))] []), (.ifS (.cmp .eq (.var 4) (.cst (.int 1))) [(.ret (.comp false (.bin .add false (.item (.var 1) (.bin .mod false (.bin .add false (.var 3) (.bin .fdiv false (.var 6) (.cst (.int 6)))) (.cst (.int 26)))) (.bm .join (.cst (.str [])) [(.slice false (.var 2) (some (.cst (.int 1))) (some (.bin .add false (.cst (.int 1)) (.bin .mod false (.var 6) (.cst (.int 6))))))])) (.name 6) (.rng1 (.cst (.int 14))) none [6]))] []), (.asg (.name 5) (.lst true [])), (.forS (.name 6) (.rng1 (.cst (.int 14))) [(.asg (.name 11) (.cst (.str []))), (.asg (.name 12) (.bin .add false (.var 6) (.cst (.int 2)))), (.whl (.cmp .gt (.var 12) (.cst (.int 1))) [(.asg (.name 11) (.bin .add false (.item (.var 1) (.bin .mod false (.bin .add false (.var 3) (.bin .mod false (.var 12) (.cst (.int 2)))) (.cst (.int 26)))) (.var 11))), (.asg (.name 12) (.bin .fdiv false (.var 12) (.cst (.int 2))))]), (.expr (.bm .append (.var 5) [(.var 11)]))]), (.ret (.var 5))]
/-- the letters -/
def letters : Txt := [97, 98, 99, 100, 101, 102, 103, 104, 105, 106, 107, 108, 109, 110, 111, 112, 113, 114, 115, 116, 117, 118, 119, 120, 121, 122]
/-- a letter by its number -/
def lt (r : Int) : Nat := letters[r.toNat]?.getD 97
theorem letter {r : Int} (h0 : 0 ≤ r) (h1 : r < 26) : L2.atI letters r = some (lt r) := by
  obtain ⟨i, rfl⟩ : ∃ i : Nat, r = (i : Nat) := ⟨r.toNat, by omega⟩
  have hi : i < letters.length := by show i < 26; omega
  refine atI_of ?_
  unfold lt
  rw [Int.toNat_natCast, List.getElem?_eq_getElem hi]
  rfl
theorem let_len : letters.length ≤ 100000 := by decide
/-- a list of texts -/
def strV (cs : List Nat) : List Val := cs.map fun c => .str [c]
theorem rng_at {n i : Nat} {v : Val} (h : (rngV 0 n)[i]? = some v) : v = .int (i : Nat) ∧ i < n := by
  unfold rngV at h
  rw [List.getElem?_map] at h
  cases e : (List.range n)[i]? with
  | none => rw [e] at h; cases h
  | some k =>
    rw [e] at h
    cases h
    have := List.getElem?_eq_some_iff.mp e
    obtain ⟨h1, h2⟩ := this
    rw [List.getElem_range] at h2
    subst h2
    exact ⟨by simp, by simpa using h1⟩
theorem join_flat : ∀ xs : List Txt, joinT [] xs = xs.flatten
  | [] => rfl
  | [x] => by simp [joinT, TL.joinL]
  | x :: y :: r => by
    have := join_flat (y :: r)
    simp only [joinT, TL.joinL, List.nil_append, List.flatten_cons] at this ⊢
    rw [this]
theorem strs_of : ∀ xs : List Txt, strsOf (xs.map .str) = some xs
  | [] => rfl
  | x :: xs => by simp [strsOf, strs_of xs]
theorem strs_strV (cs : List Nat) : strsOf (strV cs) = some (cs.map fun c => [c]) := by
  have : strV cs = (cs.map fun c => [c]).map .str := by simp [strV]
  rw [this, strs_of]
theorem flat_one (cs : List Nat) : (cs.map fun c => [c]).flatten = cs := by
  induction cs with
  | nil => rfl
  | cons c cs ih => rw [List.map_cons, List.flatten_cons, ih]; rfl
theorem cut_nat {α : Type} {xs : List α} {a b : Nat} (hb : b ≤ xs.length) (ha : a ≤ xs.length) : cut xs (some (a : Nat)) (some (b : Nat)) = (xs.take b).drop a := by
  unfold cut
  rw [HT.sIx_nat, HT.sIx_nat, Nat.min_eq_left hb, Nat.min_eq_left ha]
theorem cut_to {α : Type} {xs : List α} {b : Nat} (hb : b ≤ xs.length) : cut xs none (some (b : Nat)) = xs.take b := by
  unfold cut
  rw [HT.sIx_nat, Nat.min_eq_left hb]
  rfl
theorem cut_from {α : Type} {xs : List α} {a : Nat} (ha : a ≤ xs.length) : cut xs (some (a : Nat)) none = xs.drop a := by
  unfold cut
  rw [HT.sIx_nat, Nat.min_eq_left ha]
  show (xs.take xs.length).drop a = _
  rw [List.take_length]
/-- words as the laws draw them -/
structure WordsAt (ws : List Txt) : Prop where
  len : ws.length = 14
  nd : ws.Nodup
  ok : ∀ w ∈ ws, 1 ≤ w.length ∧ w.length ≤ 6 ∧ ∀ c ∈ w, c ∈ letters
def Words (s : Sto) (b j : Nat) (v : Val) (s' : Sto) : Prop := ∃ ws : List Txt, lstOf s' v = some (ws.map .str) ∧ WordsAt ws ∧ Box s' b j ∧ Frm [b, j] s s' ∧ ∀ l, v = .loc l → s.length ≤ l
theorem lt_in (r : Int) : lt r ∈ letters := by
  unfold lt
  cases e : letters[r.toNat]? with
  | none => show 97 ∈ letters; decide
  | some c => exact List.mem_of_getElem? e
/-- the first sort of words -/
def w0 (base : List Nat) (place size : Nat) (c : Nat) : Txt := base.take place ++ [c] ++ (base.take size).drop (place + 1)
def oth (first step : Int) : List Nat := (List.range 14).map fun k => lt ((first + step * (k : Nat)) % 26)
theorem oth_nd {first step : Int} (h0 : 0 ≤ first) (h1 : first < 26) (hs : step = 1 ∨ step = 3 ∨ step = 5 ∨ step = 7) : (oth first step).Nodup := by
  obtain ⟨i, rfl⟩ : ∃ i : Nat, first = (i : Nat) := ⟨first.toNat, by omega⟩
  have hi : i < 26 := by omega
  have all : ∀ i, i < 26 → (oth (i : Nat) 1).Nodup ∧ (oth (i : Nat) 3).Nodup ∧ (oth (i : Nat) 5).Nodup ∧ (oth (i : Nat) 7).Nodup := by decide +kernel
  obtain ⟨a, b, c, d⟩ := all i hi
  rcases hs with rfl | rfl | rfl | rfl <;> assumption
theorem nodup_map {α β : Type} {g : α → β} (hg : ∀ x y, g x = g y → x = y) : ∀ {l : List α}, l.Nodup → (l.map g).Nodup
  | [], _ => List.nodup_nil
  | x :: l, h => by
    obtain ⟨h1, h2⟩ := List.nodup_cons.mp h
    rw [List.map_cons, List.nodup_cons]
    refine ⟨fun hm => ?_, nodup_map hg h2⟩
    obtain ⟨y, hy, e⟩ := List.mem_map.mp hm
    exact h1 (hg _ _ e ▸ hy)
theorem words0 {base : List Nat} {place size : Nat} {first step : Int} (hl : base.length = 6) (hb : ∀ c ∈ base, c ∈ letters) (hp : place < size) (hz : size ≤ 6) (h0 : 0 ≤ first) (h1 : first < 26) (hs : step = 1 ∨ step = 3 ∨ step = 5 ∨ step = 7) : WordsAt ((oth first step).map (w0 base place size)) := by
  refine ⟨by simp [oth], nodup_map (fun x y e => ?_) (oth_nd h0 h1 hs), fun w hw => ?_⟩
  · simp only [w0, List.append_assoc, List.append_cancel_left_eq] at e
    exact (List.cons.inj e).1
  · obtain ⟨c, hc, rfl⟩ := List.mem_map.mp hw
    obtain ⟨k, _, rfl⟩ := List.mem_map.mp hc
    refine ⟨by simp [w0]; omega, by simp [w0]; omega, fun c hc => ?_⟩
    simp only [w0, List.mem_append, List.mem_singleton] at hc
    rcases hc with (hc | rfl) | hc
    · exact hb c (List.mem_of_mem_take hc)
    · exact lt_in _
    · exact hb c (List.mem_of_mem_take (List.mem_of_mem_drop hc))
/-- the second -/
def w1 (base : List Nat) (first : Int) (k : Nat) : Txt := lt ((first + ((k / 6 : Nat) : Int)) % 26) :: (base.take (1 + k % 6)).drop 1
theorem lt_three {first : Int} (h0 : 0 ≤ first) (h1 : first < 26) : ∀ a b : Nat, a < 3 → b < 3 → lt ((first + (a : Nat)) % 26) = lt ((first + (b : Nat)) % 26) → a = b := by
  obtain ⟨i, rfl⟩ : ∃ i : Nat, first = (i : Nat) := ⟨first.toNat, by omega⟩
  have hi : i < 26 := by omega
  have all : ∀ i, i < 26 → ∀ a, a < 3 → ∀ b, b < 3 → lt (((i : Nat) + (a : Nat) : Int) % 26) = lt (((i : Nat) + (b : Nat) : Int) % 26) → a = b := by decide +kernel
  exact fun a b ha hb => all i hi a ha b hb
theorem nodup_range {β : Type} {n : Nat} {g : Nat → β} (hg : ∀ x y, x < n → y < n → g x = g y → x = y) : ((List.range n).map g).Nodup := by
  rw [List.nodup_iff_pairwise_ne, List.pairwise_map]
  refine List.Pairwise.imp_of_mem ?_ (List.nodup_iff_pairwise_ne.mp List.nodup_range)
  intro a b ha hb hne e
  exact hne (hg a b (List.mem_range.mp ha) (List.mem_range.mp hb) e)
theorem words1 {base : List Nat} {first : Int} (hl : base.length = 6) (hb : ∀ c ∈ base, c ∈ letters) (h0 : 0 ≤ first) (h1 : first < 26) : WordsAt ((List.range 14).map (w1 base first)) := by
  refine ⟨by simp, nodup_range fun x y hx hy e => ?_, fun w hw => ?_⟩
  · obtain ⟨e1, e2⟩ := List.cons.inj e
    have a := lt_three h0 h1 (x / 6) (y / 6) (by omega) (by omega) e1
    have c := congrArg List.length e2
    simp only [List.length_drop, List.length_take, hl] at c
    omega
  · obtain ⟨k, _, rfl⟩ := List.mem_map.mp hw
    refine ⟨by simp [w1], by simp [w1]; omega, fun c hc => ?_⟩
    rcases List.mem_cons.mp hc with rfl | hc
    · exact lt_in _
    · exact hb c (List.mem_of_mem_take (List.mem_of_mem_drop hc))
/-- the third: the bits of a number behind its first one -/
def bits (first : Int) : Nat → Nat → Txt → Txt
  | 0, _, w => w
  | n + 1, k, w => if 1 < k then bits first n (k / 2) (lt ((first + ((k % 2 : Nat) : Int)) % 26) :: w) else w
def w2 (first : Int) (k : Nat) : Txt := bits first 20 (k + 2) []
theorem words2 {first : Int} (h0 : 0 ≤ first) (h1 : first < 26) : WordsAt ((List.range 14).map (w2 first)) := by
  obtain ⟨i, rfl⟩ : ∃ i : Nat, first = (i : Nat) := ⟨first.toNat, by omega⟩
  have hi : i < 26 := by omega
  have all : ∀ i, i < 26 → ((List.range 14).map (w2 (i : Nat))).Nodup ∧ ∀ w ∈ (List.range 14).map (w2 (i : Nat)), 1 ≤ w.length ∧ w.length ≤ 6 ∧ ∀ c ∈ w, c ∈ letters := by decide +kernel
  exact ⟨by simp, (all i hi).1, (all i hi).2⟩
theorem words_ok {b j n : Nat} (hc : T.code f = some ⟨1, 14, wordsC n⟩) (ht : T.code n = some ⟨2, 3, takeC⟩) (hb : Box s b j) :
    Wp (callN T (k + 2) f [.loc b] s) (Words s b j) := by
  refine wp_run hc rfl ?_
  generalize hC : ({ T := T, call := callN T (k + 1), init := callN T (k + 1 - 1) } : Ctx) = C
  have take : ∀ {s : Sto} {many : Int}, Box s b j → 0 < many → many < 1073741824 → Wp (C.call n [.loc b, .int many] s) fun v s' => ∃ r : Int, v = .int r ∧ 0 ≤ r ∧ r < many ∧ Box s' b j ∧ Frm [b, j] s s' ∧ s'.length = s.length := by
    intro s many h1 h2 h3
    rw [← hC]
    exact take_ok ht h1 h2 h3
  have item : ∀ {r : Int} {s : Sto}, 0 ≤ r → r < 26 → itemV (.str letters) (.int r) s = some (.str [lt r]) := by
    intro r s h0 h1
    show (if letters.length ≤ 100000 then (L2.atI letters r).map _ else none) = _
    rw [if_pos let_len, letter h0 h1]
    rfl
  have m26 : ∀ x : Int, 0 ≤ x % 26 ∧ x % 26 < 26 := fun x => ⟨Int.emod_nonneg _ (by decide), Int.emod_lt_of_pos _ (by decide)⟩
  have p26 : (0 : Int) < 26 := by decide
  refine w_asg ?_
  simp only [ev, evs, evo, evc, evi, wp_bnd, wp_ok, wp_pur, wp_lift, List.map_cons, List.map_nil, List.cons_append, List.nil_append, List.getElem?_cons_zero, List.getElem?_cons_succ, List.set_cons_zero, List.set_cons_succ, List.replicate_succ, List.replicate_zero, Nat.reduceSub, itemV, seqOf, lstOf, Option.bind_some, Option.bind_none, cmpV, binV, biV, bmV, bmO, bmR, bmC, bmI, bmTy, alloc, Option.map_some, Option.map_none, Bool.false_eq_true, if_false, if_true, Option.some.injEq, Prod.mk.injEq, Val.bl.injEq, Val.int.injEq, Val.loc.injEq, Val.str.injEq, Val.lst.injEq, Val.tup.injEq, exists_eq_left', exists_eq_left, exists_and_left, exists_and_right, and_assoc, true_and, and_true, Option.isSome_some, id_eq, Bool.not_true, Bool.not_false, optI, List.length_cons, List.length_nil, lim_le, lim_lt, Nat.zero_add, Nat.reduceAdd, Nat.reduceLeDiff, Nat.zero_le, Nat.reduceLT]
  refine w_asg ?_
  refine wp_compE (fun i acc s' => ∃ cs : List Nat, acc = strV cs ∧ cs.length = i ∧ (∀ c ∈ cs, c ∈ letters) ∧ Box s' b j ∧ Frm [b, j] s s') (w := (rngV 0 6, none)) (s1 := s) (by simp only [ev, evs, evo, evc, evi, bnd, ok, pur, lift, List.map_cons, List.map_nil, List.cons_append, List.nil_append, List.getElem?_cons_zero, List.getElem?_cons_succ, List.set_cons_zero, List.set_cons_succ, List.replicate_succ, List.replicate_zero, Nat.reduceSub, itemV, seqOf, lstOf, Option.bind_some, Option.bind_none, cmpV, binV, biV, bmV, bmO, bmR, bmC, bmI, bmTy, alloc, Option.map_some, Option.map_none, Bool.false_eq_true, if_false, if_true, optI, walkV, List.length_cons, List.length_nil, lim_le, lim_lt, Nat.zero_add, Nat.reduceAdd, Nat.reduceLeDiff, Nat.zero_le, Nat.reduceLT, Option.isSome_some]; rfl) (by decide) ⟨[], rfl, rfl, (fun c h => by cases h), hb, Frm.refl _ _⟩ (fun _ _ _ _ => rfl) ?_ ?_
  · rintro i v acc s1 hv ⟨cs, rfl, rfl, hcs, b1, f1⟩
    refine ⟨_, rfl, wp_ok.mpr ⟨fun _ => ?_, fun h => by cases h⟩⟩
    simp only [ev, evs, wp_bnd, wp_ok, wp_pur, List.getElem?_cons_zero, List.getElem?_cons_succ, wipe, List.replicate_succ, List.replicate_zero, Nat.reduceSub, List.map_cons, List.map_nil, List.cons_append, List.nil_append, List.set_cons_zero, List.set_cons_succ]
    refine (take (many := 26) b1 (by decide) (by decide)).imp ?_
    rintro v s2 ⟨r, rfl, h0, h1, b2, f2, _⟩
    refine ⟨_, item h0 h1, cs ++ [lt r], by simp [strV], by simp, fun c hc => ?_, b2, f1.trans f2⟩
    rcases List.mem_append.mp hc with h | h
    · exact hcs c h
    · rw [List.mem_singleton.mp h]
      exact lt_in r
  rintro us s1 ⟨base, rfl, hbl, hbs, b1, f1⟩
  have hbl : base.length = 6 := hbl
  show WpS (execs C _ [some (.loc b), some (.str letters), some (.lst (strV base)), none, none, none, none, none, none, none, none, none, none, none] s1) _
  refine w_asg ?_
  simp only [ev, evs, evo, evc, evi, wp_bnd, wp_ok, wp_pur, wp_lift, List.map_cons, List.map_nil, List.cons_append, List.nil_append, List.getElem?_cons_zero, List.getElem?_cons_succ, List.set_cons_zero, List.set_cons_succ, List.replicate_succ, List.replicate_zero, Nat.reduceSub, itemV, seqOf, lstOf, Option.bind_some, Option.bind_none, cmpV, binV, biV, bmV, bmO, bmR, bmC, bmI, bmTy, alloc, Option.map_some, Option.map_none, Bool.false_eq_true, if_false, if_true, Option.some.injEq, Prod.mk.injEq, Val.bl.injEq, Val.int.injEq, Val.loc.injEq, Val.str.injEq, Val.lst.injEq, Val.tup.injEq, exists_eq_left', exists_eq_left, exists_and_left, exists_and_right, and_assoc, true_and, and_true, Option.isSome_some, id_eq, Bool.not_true, Bool.not_false, optI, List.length_cons, List.length_nil, lim_le, lim_lt, Nat.zero_add, Nat.reduceAdd, Nat.reduceLeDiff, Nat.zero_le, Nat.reduceLT]
  refine (take (many := 26) b1 (by decide) (by decide)).imp ?_
  rintro v s2 ⟨first, rfl, hf0, hf1, b2, f2, _⟩
  refine w_asg ?_
  simp only [ev, evs, evo, evc, evi, wp_bnd, wp_ok, wp_pur, wp_lift, List.map_cons, List.map_nil, List.cons_append, List.nil_append, List.getElem?_cons_zero, List.getElem?_cons_succ, List.set_cons_zero, List.set_cons_succ, List.replicate_succ, List.replicate_zero, Nat.reduceSub, itemV, seqOf, lstOf, Option.bind_some, Option.bind_none, cmpV, binV, biV, bmV, bmO, bmR, bmC, bmI, bmTy, alloc, Option.map_some, Option.map_none, Bool.false_eq_true, if_false, if_true, Option.some.injEq, Prod.mk.injEq, Val.bl.injEq, Val.int.injEq, Val.loc.injEq, Val.str.injEq, Val.lst.injEq, Val.tup.injEq, exists_eq_left', exists_eq_left, exists_and_left, exists_and_right, and_assoc, true_and, and_true, Option.isSome_some, id_eq, Bool.not_true, Bool.not_false, optI, List.length_cons, List.length_nil, lim_le, lim_lt, Nat.zero_add, Nat.reduceAdd, Nat.reduceLeDiff, Nat.zero_le, Nat.reduceLT]
  refine (take (many := 3) b2 (by decide) (by decide)).imp ?_
  rintro v s3 ⟨sort, rfl, hs0, hs1, b3, f3, _⟩
  have f03 := (f1.trans f2).trans f3
  refine w_if ?_
  simp only [ev, evs, evo, evc, evi, wp_bnd, wp_ok, wp_pur, wp_lift, List.map_cons, List.map_nil, List.cons_append, List.nil_append, List.getElem?_cons_zero, List.getElem?_cons_succ, List.set_cons_zero, List.set_cons_succ, List.replicate_succ, List.replicate_zero, Nat.reduceSub, itemV, seqOf, lstOf, Option.bind_some, Option.bind_none, cmpV, binV, biV, bmV, bmO, bmR, bmC, bmI, bmTy, alloc, Option.map_some, Option.map_none, Bool.false_eq_true, if_false, if_true, Option.some.injEq, Prod.mk.injEq, Val.bl.injEq, Val.int.injEq, Val.loc.injEq, Val.str.injEq, Val.lst.injEq, Val.tup.injEq, exists_eq_left', exists_eq_left, exists_and_left, exists_and_right, and_assoc, true_and, and_true, Option.isSome_some, id_eq, Bool.not_true, Bool.not_false, optI, List.length_cons, List.length_nil, lim_le, lim_lt, Nat.zero_add, Nat.reduceAdd, Nat.reduceLeDiff, Nat.zero_le, Nat.reduceLT, eq_ints]
  refine ⟨fun c => ?_, fun c => ?_⟩
  · -- unlike at one place
    refine w_asg ?_
    simp only [ev, evs, evo, evc, evi, wp_bnd, wp_ok, wp_pur, wp_lift, List.map_cons, List.map_nil, List.cons_append, List.nil_append, List.getElem?_cons_zero, List.getElem?_cons_succ, List.set_cons_zero, List.set_cons_succ, List.replicate_succ, List.replicate_zero, Nat.reduceSub, itemV, seqOf, lstOf, Option.bind_some, Option.bind_none, cmpV, binV, biV, bmV, bmO, bmR, bmC, bmI, bmTy, alloc, Option.map_some, Option.map_none, Bool.false_eq_true, if_false, if_true, Option.some.injEq, Prod.mk.injEq, Val.bl.injEq, Val.int.injEq, Val.loc.injEq, Val.str.injEq, Val.lst.injEq, Val.tup.injEq, exists_eq_left', exists_eq_left, exists_and_left, exists_and_right, and_assoc, true_and, and_true, Option.isSome_some, id_eq, Bool.not_true, Bool.not_false, optI, List.length_cons, List.length_nil, lim_le, lim_lt, Nat.zero_add, Nat.reduceAdd, Nat.reduceLeDiff, Nat.zero_le, Nat.reduceLT]
    refine (take (many := 6) b3 (by decide) (by decide)).imp ?_
    rintro v s4 ⟨place, rfl, hp0, hp1, b4, f4, _⟩
    refine w_asg ?_
    simp only [ev, evs, evo, evc, evi, wp_bnd, wp_ok, wp_pur, wp_lift, List.map_cons, List.map_nil, List.cons_append, List.nil_append, List.getElem?_cons_zero, List.getElem?_cons_succ, List.set_cons_zero, List.set_cons_succ, List.replicate_succ, List.replicate_zero, Nat.reduceSub, itemV, seqOf, lstOf, Option.bind_some, Option.bind_none, cmpV, binV, biV, bmV, bmO, bmR, bmC, bmI, bmTy, alloc, Option.map_some, Option.map_none, Bool.false_eq_true, if_false, if_true, Option.some.injEq, Prod.mk.injEq, Val.bl.injEq, Val.int.injEq, Val.loc.injEq, Val.str.injEq, Val.lst.injEq, Val.tup.injEq, exists_eq_left', exists_eq_left, exists_and_left, exists_and_right, and_assoc, true_and, and_true, Option.isSome_some, id_eq, Bool.not_true, Bool.not_false, optI, List.length_cons, List.length_nil, lim_le, lim_lt, Nat.zero_add, Nat.reduceAdd, Nat.reduceLeDiff, Nat.zero_le, Nat.reduceLT]
    refine (take (many := 6 - place) b4 (by omega) (by omega)).imp ?_
    rintro v s5 ⟨q, rfl, hq0, hq1, b5, f5, _⟩
    simp only [ev, evs, evo, evc, evi, wp_bnd, wp_ok, wp_pur, wp_lift, List.map_cons, List.map_nil, List.cons_append, List.nil_append, List.getElem?_cons_zero, List.getElem?_cons_succ, List.set_cons_zero, List.set_cons_succ, List.replicate_succ, List.replicate_zero, Nat.reduceSub, itemV, seqOf, lstOf, Option.bind_some, Option.bind_none, cmpV, binV, biV, bmV, bmO, bmR, bmC, bmI, bmTy, alloc, Option.map_some, Option.map_none, Bool.false_eq_true, if_false, if_true, Option.some.injEq, Prod.mk.injEq, Val.bl.injEq, Val.int.injEq, Val.loc.injEq, Val.str.injEq, Val.lst.injEq, Val.tup.injEq, exists_eq_left', exists_eq_left, exists_and_left, exists_and_right, and_assoc, true_and, and_true, Option.isSome_some, id_eq, Bool.not_true, Bool.not_false, optI, List.length_cons, List.length_nil, lim_le, lim_lt, Nat.zero_add, Nat.reduceAdd, Nat.reduceLeDiff, Nat.zero_le, Nat.reduceLT]
    refine w_asg ?_
    simp only [ev, evs, evo, evc, evi, wp_bnd, wp_ok, wp_pur, wp_lift, List.map_cons, List.map_nil, List.cons_append, List.nil_append, List.getElem?_cons_zero, List.getElem?_cons_succ, List.set_cons_zero, List.set_cons_succ, List.replicate_succ, List.replicate_zero, Nat.reduceSub, itemV, seqOf, lstOf, Option.bind_some, Option.bind_none, cmpV, binV, biV, bmV, bmO, bmR, bmC, bmI, bmTy, alloc, Option.map_some, Option.map_none, Bool.false_eq_true, if_false, if_true, Option.some.injEq, Prod.mk.injEq, Val.bl.injEq, Val.int.injEq, Val.loc.injEq, Val.str.injEq, Val.lst.injEq, Val.tup.injEq, exists_eq_left', exists_eq_left, exists_and_left, exists_and_right, and_assoc, true_and, and_true, Option.isSome_some, id_eq, Bool.not_true, Bool.not_false, optI, List.length_cons, List.length_nil, lim_le, lim_lt, Nat.zero_add, Nat.reduceAdd, Nat.reduceLeDiff, Nat.zero_le, Nat.reduceLT]
    refine (take (many := 4) b5 (by decide) (by decide)).imp ?_
    rintro v s6 ⟨st, rfl, ht0, ht1, b6, f6, _⟩
    have hst : ∃ step : Int, L2.atI [Val.int 1, .int 3, .int 5, .int 7] st = some (.int step) ∧ (step = 1 ∨ step = 3 ∨ step = 5 ∨ step = 7) := by
      have : st = 0 ∨ st = 1 ∨ st = 2 ∨ st = 3 := by omega
      rcases this with rfl | rfl | rfl | rfl
      · exact ⟨1, rfl, .inl rfl⟩
      · exact ⟨3, rfl, .inr (.inl rfl)⟩
      · exact ⟨5, rfl, .inr (.inr (.inl rfl))⟩
      · exact ⟨7, rfl, .inr (.inr (.inr rfl))⟩
    obtain ⟨step, hst, hstep⟩ := hst
    simp only [ev, evs, evo, evc, evi, wp_bnd, wp_ok, wp_pur, wp_lift, List.map_cons, List.map_nil, List.cons_append, List.nil_append, List.getElem?_cons_zero, List.getElem?_cons_succ, List.set_cons_zero, List.set_cons_succ, List.replicate_succ, List.replicate_zero, Nat.reduceSub, itemV, seqOf, lstOf, Option.bind_some, Option.bind_none, cmpV, binV, biV, bmV, bmO, bmR, bmC, bmI, bmTy, alloc, Option.map_some, Option.map_none, Bool.false_eq_true, if_false, if_true, Option.some.injEq, Prod.mk.injEq, Val.bl.injEq, Val.int.injEq, Val.loc.injEq, Val.str.injEq, Val.lst.injEq, Val.tup.injEq, exists_eq_left', exists_eq_left, exists_and_left, exists_and_right, and_assoc, true_and, and_true, Option.isSome_some, id_eq, Bool.not_true, Bool.not_false, optI, List.length_cons, List.length_nil, lim_le, lim_lt, Nat.zero_add, Nat.reduceAdd, Nat.reduceLeDiff, Nat.zero_le, Nat.reduceLT, hst]
    obtain ⟨p, rfl⟩ : ∃ p : Nat, place = (p : Nat) := ⟨place.toNat, by omega⟩
    obtain ⟨z, hz⟩ : ∃ z : Nat, ((p : Nat) : Int) + 1 + q = (z : Nat) := ⟨((p : Int) + 1 + q).toNat, by omega⟩
    rw [hz]
    have fr6 := ((f03.trans f4).trans f5).trans f6
    refine w_asg ?_
    refine wp_compE (fun i acc s' => s' = s6 ∧ acc = strV ((List.range i).map fun k => lt ((first + step * (k : Nat)) % 26))) (w := (rngV 0 14, none)) (s1 := s6) (by simp only [ev, evs, evo, evc, evi, bnd, ok, pur, lift, List.map_cons, List.map_nil, List.cons_append, List.nil_append, List.getElem?_cons_zero, List.getElem?_cons_succ, List.set_cons_zero, List.set_cons_succ, List.replicate_succ, List.replicate_zero, Nat.reduceSub, itemV, seqOf, lstOf, Option.bind_some, Option.bind_none, cmpV, binV, biV, bmV, bmO, bmR, bmC, bmI, bmTy, alloc, Option.map_some, Option.map_none, Bool.false_eq_true, if_false, if_true, optI, walkV, List.length_cons, List.length_nil, lim_le, lim_lt, Nat.zero_add, Nat.reduceAdd, Nat.reduceLeDiff, Nat.zero_le, Nat.reduceLT, Option.isSome_some]; rfl) (by decide) ⟨rfl, rfl⟩ (fun _ _ _ _ => rfl) ?_ ?_
    · rintro i v acc s' hv ⟨rfl, rfl⟩
      obtain ⟨rfl, hi⟩ := rng_at hv
      refine ⟨_, rfl, wp_ok.mpr ⟨fun _ => ?_, fun h => by cases h⟩⟩
      have z0 : mulOk step (i : Nat) = true := mulOk_r (by omega)
      simp only [ev, evs, evo, evc, evi, wp_bnd, wp_ok, wp_pur, wp_lift, List.map_cons, List.map_nil, List.cons_append, List.nil_append, List.getElem?_cons_zero, List.getElem?_cons_succ, List.set_cons_zero, List.set_cons_succ, List.replicate_succ, List.replicate_zero, Nat.reduceSub, itemV, seqOf, lstOf, Option.bind_some, Option.bind_none, cmpV, binV, biV, bmV, bmO, bmR, bmC, bmI, bmTy, alloc, Option.map_some, Option.map_none, Bool.false_eq_true, if_false, if_true, Option.some.injEq, Prod.mk.injEq, Val.bl.injEq, Val.int.injEq, Val.loc.injEq, Val.str.injEq, Val.lst.injEq, Val.tup.injEq, exists_eq_left', exists_eq_left, exists_and_left, exists_and_right, and_assoc, true_and, and_true, Option.isSome_some, id_eq, Bool.not_true, Bool.not_false, optI, List.length_cons, List.length_nil, lim_le, lim_lt, Nat.zero_add, Nat.reduceAdd, Nat.reduceLeDiff, Nat.zero_le, Nat.reduceLT, wipe, z0, if_pos p26, let_len, letter (m26 (first + step * (i : Nat))).1 (m26 _).2]
      rw [List.range_succ]
      simp [strV]
    rintro us s7 ⟨rfl, rfl⟩
    show WpS (execs C _ [some (.loc b), some (.str letters), some (.lst (strV base)), some (.int first), some (.int sort), none, none, some (.int (p : Nat)), some (.int (z : Nat)), some (.int step), some (.lst (strV (oth first step))), none, none, none] s7) _
    refine w_ret ?_
    have lo : (oth first step).length = 14 := by simp [oth]
    refine wp_compE (fun i acc s' => s' = s7 ∧ acc = ((oth first step).take i).map fun c => .str (w0 base p z c)) (w := (strV (oth first step), none)) (s1 := s7) (by simp only [ev, evs, evo, evc, evi, bnd, ok, pur, lift, List.map_cons, List.map_nil, List.cons_append, List.nil_append, List.getElem?_cons_zero, List.getElem?_cons_succ, List.set_cons_zero, List.set_cons_succ, List.replicate_succ, List.replicate_zero, Nat.reduceSub, itemV, seqOf, lstOf, Option.bind_some, Option.bind_none, cmpV, binV, biV, bmV, bmO, bmR, bmC, bmI, bmTy, alloc, Option.map_some, Option.map_none, Bool.false_eq_true, if_false, if_true, optI, walkV, List.length_cons, List.length_nil, lim_le, lim_lt, Nat.zero_add, Nat.reduceAdd, Nat.reduceLeDiff, Nat.zero_le, Nat.reduceLT, Option.isSome_some]) (by show (strV (oth first step)).length ≤ LIM; simp [strV, lo, LIM]) ⟨rfl, rfl⟩ (fun _ _ _ _ => rfl) ?_ ?_
    · rintro i v acc s' hv ⟨rfl, rfl⟩
      have hv : (strV (oth first step))[i]? = some v := hv
      unfold strV at hv
      rw [List.getElem?_map] at hv
      cases e : (oth first step)[i]? with
      | none => rw [e] at hv; cases hv
      | some c =>
        rw [e] at hv
        cases hv
        refine ⟨_, rfl, wp_ok.mpr ⟨fun _ => ?_, fun h => by cases h⟩⟩
        have hlen : (strV base).length = 6 := by simp [strV, hbl]
        have c1 : cut (strV base) none (some ((p : Nat) : Int)) = strV (base.take p) := by rw [cut_to (by omega)]; simp [strV]
        have c2 : cut (strV base) (some ((p : Nat) + 1 : Int)) (some ((z : Nat) : Int)) = strV ((base.take z).drop (p + 1)) := by
          rw [show ((p : Nat) + 1 : Int) = ((p + 1 : Nat) : Int) by simp, cut_nat (by omega) (by omega)]
          simp [strV]
        have l1 : (strV (base.take p)).length ≤ 6 := by simp [strV]; omega
        have l2 : (strV ((base.take z).drop (p + 1))).length ≤ 6 := by simp [strV]; omega
        have s1 : strsOf (strV (base.take p) ++ [Val.str [c]] ++ strV ((base.take z).drop (p + 1))) = some ((w0 base p z c).map fun c => [c]) := by
          rw [← strs_strV]
          simp [strV, w0]
        have l3 : ((w0 base p z c).map fun c => [c]).flatten = w0 base p z c := flat_one _
        have l4 : (((w0 base p z c).map fun c => [c]).map List.length).sum + ((w0 base p z c).map fun c => [c]).length * 0 ≤ 100000 := by
          have : (w0 base p z c).length ≤ 20 := by simp [w0]; omega
          have e : (((w0 base p z c).map fun c => [c]).map List.length).sum = (w0 base p z c).length := by
            generalize w0 base p z c = w
            induction w with
            | nil => rfl
            | cons x w ih => simp at ih ⊢; omega
          rw [e]
          omega
        have d1 : (strV (base.take p)).length + 1 ≤ 100000 := by omega
        have d2 : (strV (base.take p) ++ [Val.str [c]]).length + (strV ((base.take z).drop (p + 1))).length ≤ 100000 := by simp; omega
        simp only [ev, evs, evo, evc, evi, wp_bnd, wp_ok, wp_pur, wp_lift, List.map_cons, List.map_nil, List.cons_append, List.nil_append, List.getElem?_cons_zero, List.getElem?_cons_succ, List.set_cons_zero, List.set_cons_succ, List.replicate_succ, List.replicate_zero, Nat.reduceSub, itemV, seqOf, lstOf, Option.bind_some, Option.bind_none, cmpV, binV, biV, bmV, bmO, bmR, bmC, bmI, bmTy, alloc, Option.map_some, Option.map_none, Bool.false_eq_true, if_false, if_true, Option.some.injEq, Prod.mk.injEq, Val.bl.injEq, Val.int.injEq, Val.loc.injEq, Val.str.injEq, Val.lst.injEq, Val.tup.injEq, exists_eq_left', exists_eq_left, exists_and_left, exists_and_right, and_assoc, true_and, and_true, Option.isSome_some, id_eq, Bool.not_true, Bool.not_false, optI, List.length_cons, List.length_nil, lim_le, lim_lt, Nat.zero_add, Nat.reduceAdd, Nat.reduceLeDiff, Nat.zero_le, Nat.reduceLT, wipe, sliceV, c1, c2, d1, d2, s1, l4]
        rw [join_flat, l3, List.take_add_one, e]
        simp
    rintro us s8 ⟨rfl, rfl⟩
    have hlen : (oth first step).take (strV (oth first step)).length = oth first step := by simp [strV]
    refine ⟨(oth first step).map (w0 base p z), ?_, words0 hbl hbs (by omega) (by omega) hf0 hf1 hstep, b6, fr6, fun l h => by cases h⟩
    show some _ = some _
    rw [show (strV (oth first step), (none : Option (Nat × List Val))).1 = strV (oth first step) from rfl, hlen]
    simp
  refine w_if ?_
  simp only [ev, evs, evo, evc, evi, wp_bnd, wp_ok, wp_pur, wp_lift, List.map_cons, List.map_nil, List.cons_append, List.nil_append, List.getElem?_cons_zero, List.getElem?_cons_succ, List.set_cons_zero, List.set_cons_succ, List.replicate_succ, List.replicate_zero, Nat.reduceSub, itemV, seqOf, lstOf, Option.bind_some, Option.bind_none, cmpV, binV, biV, bmV, bmO, bmR, bmC, bmI, bmTy, alloc, Option.map_some, Option.map_none, Bool.false_eq_true, if_false, if_true, Option.some.injEq, Prod.mk.injEq, Val.bl.injEq, Val.int.injEq, Val.loc.injEq, Val.str.injEq, Val.lst.injEq, Val.tup.injEq, exists_eq_left', exists_eq_left, exists_and_left, exists_and_right, and_assoc, true_and, and_true, Option.isSome_some, id_eq, Bool.not_true, Bool.not_false, optI, List.length_cons, List.length_nil, lim_le, lim_lt, Nat.zero_add, Nat.reduceAdd, Nat.reduceLeDiff, Nat.zero_le, Nat.reduceLT, eq_ints]
  refine ⟨fun c2 => ?_, fun c2 => ?_⟩
  · -- beginnings of one another
    refine w_ret ?_
    refine wp_compE (fun i acc s' => s' = s3 ∧ acc = ((List.range i).map (w1 base first)).map .str) (w := (rngV 0 14, none)) (s1 := s3) (by simp only [ev, evs, evo, evc, evi, bnd, ok, pur, lift, List.map_cons, List.map_nil, List.cons_append, List.nil_append, List.getElem?_cons_zero, List.getElem?_cons_succ, List.set_cons_zero, List.set_cons_succ, List.replicate_succ, List.replicate_zero, Nat.reduceSub, itemV, seqOf, lstOf, Option.bind_some, Option.bind_none, cmpV, binV, biV, bmV, bmO, bmR, bmC, bmI, bmTy, alloc, Option.map_some, Option.map_none, Bool.false_eq_true, if_false, if_true, optI, walkV, List.length_cons, List.length_nil, lim_le, lim_lt, Nat.zero_add, Nat.reduceAdd, Nat.reduceLeDiff, Nat.zero_le, Nat.reduceLT, Option.isSome_some]; rfl) (by decide) ⟨rfl, rfl⟩ (fun _ _ _ _ => rfl) ?_ ?_
    · rintro i v acc s' hv ⟨rfl, rfl⟩
      obtain ⟨rfl, hi⟩ := rng_at hv
      refine ⟨_, rfl, wp_ok.mpr ⟨fun _ => ?_, fun h => by cases h⟩⟩
      have p6 : (0 : Int) < 6 ∧ (6 : Int) < 1073741824 := by decide
      have p6' : (0 : Int) < 6 := by decide
      have hlen : (strV base).length = 6 := by simp [strV, hbl]
      have e6 : ((i : Nat) : Int) / 6 = ((i / 6 : Nat) : Int) := by omega
      have e7 : 1 + ((i : Nat) : Int) % 6 = ((1 + i % 6 : Nat) : Int) := by omega
      have c1 : cut (strV base) (some 1) (some (((1 + i % 6 : Nat)) : Int)) = strV ((base.take (1 + i % 6)).drop 1) := by
        rw [show (1 : Int) = ((1 : Nat) : Int) from rfl, cut_nat (by omega) (by omega)]
        simp [strV]
      have hj : (((base.take (1 + i % 6)).drop 1).map fun c => [c]).flatten = (base.take (1 + i % 6)).drop 1 := flat_one _
      have hsm : ((((base.take (1 + i % 6)).drop 1).map fun c => [c]).map List.length).sum + (((base.take (1 + i % 6)).drop 1).map fun c => [c]).length * 0 ≤ 100000 := by
        have : ((base.take (1 + i % 6)).drop 1).length ≤ 6 := by simp; omega
        have e : ∀ w : List Nat, ((w.map fun c => [c]).map List.length).sum = w.length := fun w => by
          induction w with
          | nil => rfl
          | cons x w ih => simp at ih ⊢; omega
        rw [e]
        omega
      have d1 : ((base.take (1 + i % 6)).drop 1).length ≤ 99999 := by simp; omega
      have d2 : 1 + ((base.take (1 + i % 6)).drop 1).length ≤ 100000 := by omega
      simp only [ev, evs, evo, evc, evi, wp_bnd, wp_ok, wp_pur, wp_lift, List.map_cons, List.map_nil, List.cons_append, List.nil_append, List.getElem?_cons_zero, List.getElem?_cons_succ, List.set_cons_zero, List.set_cons_succ, List.replicate_succ, List.replicate_zero, Nat.reduceSub, itemV, seqOf, lstOf, Option.bind_some, Option.bind_none, cmpV, binV, biV, bmV, bmO, bmR, bmC, bmI, bmTy, alloc, Option.map_some, Option.map_none, Bool.false_eq_true, if_false, if_true, Option.some.injEq, Prod.mk.injEq, Val.bl.injEq, Val.int.injEq, Val.loc.injEq, Val.str.injEq, Val.lst.injEq, Val.tup.injEq, exists_eq_left', exists_eq_left, exists_and_left, exists_and_right, and_assoc, true_and, and_true, Option.isSome_some, id_eq, Bool.not_true, Bool.not_false, optI, List.length_cons, List.length_nil, lim_le, lim_lt, Nat.zero_add, Nat.reduceAdd, Nat.reduceLeDiff, Nat.zero_le, Nat.reduceLT, wipe, if_pos p6, if_pos p26, if_pos p6', e6, e7, let_len, letter (m26 (first + ((i / 6 : Nat) : Int))).1 (m26 _).2, sliceV, c1, strs_strV, hsm, join_flat, hj, d2]
      rw [List.range_succ]
      simp [w1]
    rintro us s8 ⟨rfl, rfl⟩
    exact ⟨(List.range 14).map (w1 base first), rfl, words1 hbl hbs hf0 hf1, b3, f03, fun l h => by cases h⟩
  -- of two letters
  refine w_asg ?_
  simp only [ev, evs, evo, evc, evi, wp_bnd, wp_ok, wp_pur, wp_lift, List.map_cons, List.map_nil, List.cons_append, List.nil_append, List.getElem?_cons_zero, List.getElem?_cons_succ, List.set_cons_zero, List.set_cons_succ, List.replicate_succ, List.replicate_zero, Nat.reduceSub, itemV, seqOf, lstOf, Option.bind_some, Option.bind_none, cmpV, binV, biV, bmV, bmO, bmR, bmC, bmI, bmTy, alloc, Option.map_some, Option.map_none, Bool.false_eq_true, if_false, if_true, Option.some.injEq, Prod.mk.injEq, Val.bl.injEq, Val.int.injEq, Val.loc.injEq, Val.str.injEq, Val.lst.injEq, Val.tup.injEq, exists_eq_left', exists_eq_left, exists_and_left, exists_and_right, and_assoc, true_and, and_true, Option.isSome_some, id_eq, Bool.not_true, Bool.not_false, optI, List.length_cons, List.length_nil, lim_le, lim_lt, Nat.zero_add, Nat.reduceAdd, Nat.reduceLeDiff, Nat.zero_le, Nat.reduceLT]
  show WpS (execs C _ [some (.loc b), some (.str letters), some (.lst (strV base)), some (.int first), some (.int sort), some (.loc s3.length), none, none, none, none, none, none, none, none] (s3 ++ [.list []])) _
  refine w_forE (fun i en s' => ∃ o6 o11 o12 : Option Val, en = [some (.loc b), some (.str letters), some (.lst (strV base)), some (.int first), some (.int sort), some (.loc s3.length), o6, none, none, none, none, o11, o12, none] ∧ s' = s3 ++ [.list (((List.range i).map (w2 first)).map .str)])
    (w := (rngV 0 14, none)) (s1 := s3 ++ [.list []]) (by simp only [ev, evs, evo, evc, evi, bnd, ok, pur, lift, List.map_cons, List.map_nil, List.cons_append, List.nil_append, List.getElem?_cons_zero, List.getElem?_cons_succ, List.set_cons_zero, List.set_cons_succ, List.replicate_succ, List.replicate_zero, Nat.reduceSub, itemV, seqOf, lstOf, Option.bind_some, Option.bind_none, cmpV, binV, biV, bmV, bmO, bmR, bmC, bmI, bmTy, alloc, Option.map_some, Option.map_none, Bool.false_eq_true, if_false, if_true, optI, walkV, List.length_cons, List.length_nil, lim_le, lim_lt, Nat.zero_add, Nat.reduceAdd, Nat.reduceLeDiff, Nat.zero_le, Nat.reduceLT, Option.isSome_some]; rfl) ⟨none, none, none, rfl, rfl⟩ (fun _ _ _ _ => rfl) ?_ ?_
  · rintro i v en s' hv ⟨o6, o11, o12, rfl, rfl⟩
    obtain ⟨rfl, hi⟩ := rng_at hv
    have hi : i < 14 := hi
    refine ⟨_, rfl, ?_⟩
    refine w_asg ?_
    simp only [ev, evs, evo, evc, evi, wp_bnd, wp_ok, wp_pur, wp_lift, List.map_cons, List.map_nil, List.cons_append, List.nil_append, List.getElem?_cons_zero, List.getElem?_cons_succ, List.set_cons_zero, List.set_cons_succ, List.replicate_succ, List.replicate_zero, Nat.reduceSub, itemV, seqOf, lstOf, Option.bind_some, Option.bind_none, cmpV, binV, biV, bmV, bmO, bmR, bmC, bmI, bmTy, alloc, Option.map_some, Option.map_none, Bool.false_eq_true, if_false, if_true, Option.some.injEq, Prod.mk.injEq, Val.bl.injEq, Val.int.injEq, Val.loc.injEq, Val.str.injEq, Val.lst.injEq, Val.tup.injEq, exists_eq_left', exists_eq_left, exists_and_left, exists_and_right, and_assoc, true_and, and_true, Option.isSome_some, id_eq, Bool.not_true, Bool.not_false, optI, List.length_cons, List.length_nil, lim_le, lim_lt, Nat.zero_add, Nat.reduceAdd, Nat.reduceLeDiff, Nat.zero_le, Nat.reduceLT]
    refine w_asg ?_
    simp only [ev, evs, evo, evc, evi, wp_bnd, wp_ok, wp_pur, wp_lift, List.map_cons, List.map_nil, List.cons_append, List.nil_append, List.getElem?_cons_zero, List.getElem?_cons_succ, List.set_cons_zero, List.set_cons_succ, List.replicate_succ, List.replicate_zero, Nat.reduceSub, itemV, seqOf, lstOf, Option.bind_some, Option.bind_none, cmpV, binV, biV, bmV, bmO, bmR, bmC, bmI, bmTy, alloc, Option.map_some, Option.map_none, Bool.false_eq_true, if_false, if_true, Option.some.injEq, Prod.mk.injEq, Val.bl.injEq, Val.int.injEq, Val.loc.injEq, Val.str.injEq, Val.lst.injEq, Val.tup.injEq, exists_eq_left', exists_eq_left, exists_and_left, exists_and_right, and_assoc, true_and, and_true, Option.isSome_some, id_eq, Bool.not_true, Bool.not_false, optI, List.length_cons, List.length_nil, lim_le, lim_lt, Nat.zero_add, Nat.reduceAdd, Nat.reduceLeDiff, Nat.zero_le, Nat.reduceLT]
    show WpS (execs C _ [some (.loc b), some (.str letters), some (.lst (strV base)), some (.int first), some (.int sort), some (.loc s3.length), some (.int (i : Nat)), none, none, none, none, some (.str []), some (.int (((i + 2 : Nat)) : Int)), none] _) _
    refine w_whl (m := 20) (fun m en s' => ∃ (w : Txt) (q : Nat), en = [some (.loc b), some (.str letters), some (.lst (strV base)), some (.int first), some (.int sort), some (.loc s3.length), some (.int (i : Nat)), none, none, none, none, some (.str w), some (.int (q : Nat)), none] ∧ s' = s3 ++ [.list (((List.range i).map (w2 first)).map .str)] ∧
      bits first m q w = w2 first i ∧ w.length + m = 20 ∧ (m = 0 → q ≤ 1) ∧ q < 2 ^ m + 1) ⟨[], i + 2, rfl, rfl, rfl, rfl, by omega, by omega⟩ (by decide) ?_
    rintro m en s' ⟨w, q, rfl, rfl, hw, hwl, hm0, hq⟩
    simp only [ev, evs, evo, evc, evi, wp_bnd, wp_ok, wp_pur, wp_lift, List.map_cons, List.map_nil, List.cons_append, List.nil_append, List.getElem?_cons_zero, List.getElem?_cons_succ, List.set_cons_zero, List.set_cons_succ, List.replicate_succ, List.replicate_zero, Nat.reduceSub, itemV, seqOf, lstOf, Option.bind_some, Option.bind_none, cmpV, binV, biV, bmV, bmO, bmR, bmC, bmI, bmTy, alloc, Option.map_some, Option.map_none, Bool.false_eq_true, if_false, if_true, Option.some.injEq, Prod.mk.injEq, Val.bl.injEq, Val.int.injEq, Val.loc.injEq, Val.str.injEq, Val.lst.injEq, Val.tup.injEq, exists_eq_left', exists_eq_left, exists_and_left, exists_and_right, and_assoc, true_and, and_true, Option.isSome_some, id_eq, Bool.not_true, Bool.not_false, optI, List.length_cons, List.length_nil, lim_le, lim_lt, Nat.zero_add, Nat.reduceAdd, Nat.reduceLeDiff, Nat.zero_le, Nat.reduceLT]
    by_cases c3 : 1 < q
    · have c3' : decide ((1 : Int) < (q : Nat)) = true := decide_eq_true (by omega)
      refine .inr ⟨by rw [c3'], m - 1, ?_, ?_⟩
      · have : m ≠ 0 := fun z => by have := hm0 z; omega
        omega
      obtain ⟨m, rfl⟩ : ∃ m', m = m' + 1 := ⟨m - 1, by have : m ≠ 0 := fun z => (by have := hm0 z; omega); omega⟩
      refine w_asg ?_
      have p2 : (0 : Int) < 2 ∧ (2 : Int) < 1073741824 := by decide
      have p2' : (0 : Int) < 2 := by decide
      have e6 : ((q : Nat) : Int) % 2 = ((q % 2 : Nat) : Int) := by omega
      have e7 : ((q : Nat) : Int) / 2 = ((q / 2 : Nat) : Int) := by omega
      have d1 : 1 + w.length ≤ 100000 := by omega
      simp only [ev, evs, evo, evc, evi, wp_bnd, wp_ok, wp_pur, wp_lift, List.map_cons, List.map_nil, List.cons_append, List.nil_append, List.getElem?_cons_zero, List.getElem?_cons_succ, List.set_cons_zero, List.set_cons_succ, List.replicate_succ, List.replicate_zero, Nat.reduceSub, itemV, seqOf, lstOf, Option.bind_some, Option.bind_none, cmpV, binV, biV, bmV, bmO, bmR, bmC, bmI, bmTy, alloc, Option.map_some, Option.map_none, Bool.false_eq_true, if_false, if_true, Option.some.injEq, Prod.mk.injEq, Val.bl.injEq, Val.int.injEq, Val.loc.injEq, Val.str.injEq, Val.lst.injEq, Val.tup.injEq, exists_eq_left', exists_eq_left, exists_and_left, exists_and_right, and_assoc, true_and, and_true, Option.isSome_some, id_eq, Bool.not_true, Bool.not_false, optI, List.length_cons, List.length_nil, lim_le, lim_lt, Nat.zero_add, Nat.reduceAdd, Nat.reduceLeDiff, Nat.zero_le, Nat.reduceLT, if_pos p26, if_pos p2', e6, let_len, letter (m26 (first + ((q % 2 : Nat) : Int))).1 (m26 _).2, d1]
      refine w_asg ?_
      simp only [ev, evs, evo, evc, evi, wp_bnd, wp_ok, wp_pur, wp_lift, List.map_cons, List.map_nil, List.cons_append, List.nil_append, List.getElem?_cons_zero, List.getElem?_cons_succ, List.set_cons_zero, List.set_cons_succ, List.replicate_succ, List.replicate_zero, Nat.reduceSub, itemV, seqOf, lstOf, Option.bind_some, Option.bind_none, cmpV, binV, biV, bmV, bmO, bmR, bmC, bmI, bmTy, alloc, Option.map_some, Option.map_none, Bool.false_eq_true, if_false, if_true, Option.some.injEq, Prod.mk.injEq, Val.bl.injEq, Val.int.injEq, Val.loc.injEq, Val.str.injEq, Val.lst.injEq, Val.tup.injEq, exists_eq_left', exists_eq_left, exists_and_left, exists_and_right, and_assoc, true_and, and_true, Option.isSome_some, id_eq, Bool.not_true, Bool.not_false, optI, List.length_cons, List.length_nil, lim_le, lim_lt, Nat.zero_add, Nat.reduceAdd, Nat.reduceLeDiff, Nat.zero_le, Nat.reduceLT, if_pos p2, e7]
      refine w_nil ⟨_, _, rfl, rfl, ?_, by simp; omega, fun z => ?_, ?_⟩
      · rw [← hw]
        show _ = if 1 < q then _ else _
        rw [if_pos c3]
        rfl
      · subst z
        simp at hq
        omega
      · have : 2 ^ (m + 1) = 2 ^ m * 2 := Nat.pow_succ ..
        simp
        omega
    · have c3' : decide ((1 : Int) < (q : Nat)) = false := decide_eq_false (by omega)
      refine .inl ⟨by rw [c3'], ?_⟩
      have hw' : w = w2 first i := by
        rw [← hw]
        cases m with
        | zero => rfl
        | succ m =>
          show w = if 1 < q then _ else _
          rw [if_neg c3]
      refine w_expr ?_
      have e0 : (s3 ++ [SO.list (((List.range i).map (w2 first)).map .str)])[s3.length]? = some (.list (((List.range i).map (w2 first)).map .str)) := at_push
      have d1 : (((List.range i).map (w2 first)).map Val.str).length < 100000 := by simp; omega
      simp only [ev, evs, evo, evc, evi, wp_bnd, wp_ok, wp_pur, wp_lift, List.map_cons, List.map_nil, List.cons_append, List.nil_append, List.getElem?_cons_zero, List.getElem?_cons_succ, List.set_cons_zero, List.set_cons_succ, List.replicate_succ, List.replicate_zero, Nat.reduceSub, itemV, seqOf, lstOf, Option.bind_some, Option.bind_none, cmpV, binV, biV, bmV, bmO, bmR, bmC, bmI, bmTy, alloc, Option.map_some, Option.map_none, Bool.false_eq_true, if_false, if_true, Option.some.injEq, Prod.mk.injEq, Val.bl.injEq, Val.int.injEq, Val.loc.injEq, Val.str.injEq, Val.lst.injEq, Val.tup.injEq, exists_eq_left', exists_eq_left, exists_and_left, exists_and_right, and_assoc, true_and, and_true, Option.isSome_some, id_eq, Bool.not_true, Bool.not_false, optI, List.length_cons, List.length_nil, lim_le, lim_lt, Nat.zero_add, Nat.reduceAdd, Nat.reduceLeDiff, Nat.zero_le, Nat.reduceLT, e0, d1]
      refine w_nil ⟨⟨_, _, _, rfl⟩, ?_⟩
      rw [List.range_succ, hw']
      simp
  · rintro en s' ⟨o6, o11, o12, rfl, rfl⟩
    refine w_ret ?_
    simp only [ev, evs, evo, evc, evi, wp_bnd, wp_ok, wp_pur, wp_lift, List.map_cons, List.map_nil, List.cons_append, List.nil_append, List.getElem?_cons_zero, List.getElem?_cons_succ, List.set_cons_zero, List.set_cons_succ, List.replicate_succ, List.replicate_zero, Nat.reduceSub, itemV, seqOf, lstOf, Option.bind_some, Option.bind_none, cmpV, binV, biV, bmV, bmO, bmR, bmC, bmI, bmTy, alloc, Option.map_some, Option.map_none, Bool.false_eq_true, if_false, if_true, Option.some.injEq, Prod.mk.injEq, Val.bl.injEq, Val.int.injEq, Val.loc.injEq, Val.str.injEq, Val.lst.injEq, Val.tup.injEq, exists_eq_left', exists_eq_left, exists_and_left, exists_and_right, and_assoc, true_and, and_true, Option.isSome_some, id_eq, Bool.not_true, Bool.not_false, optI, List.length_cons, List.length_nil, lim_le, lim_lt, Nat.zero_add, Nat.reduceAdd, Nat.reduceLeDiff, Nat.zero_le, Nat.reduceLT]
    refine ⟨(List.range 14).map (w2 first), by show lstOf _ (.loc s3.length) = _; simp [lstOf]; rfl, words2 hf0 hf1, b3.frm Frm.push (by simp) (by simp), f03.trans (Frm.push.mono (by simp)), fun l h => ?_⟩
    cases h
    exact f03.1
end
end Lw
end
section
set_option Elab.async false
set_option linter.all false
set_option autoImplicit false
set_option maxRecDepth 100000
set_option maxHeartbeats 1000000
/-! What is alike. -/
namespace Lw
open Ab
/-- _law_alike, n its own number -/
def alikeC (n : Nat) : List Stm := [(.ifS (.isN false (.var 1)) [(.ret (.isN false (.var 0)))] []), (.ifS (.bi .isB false [(.var 1)]) [(.ret (.andE (.bi .isB false [(.var 0)]) (.cmp .eq (.var 0) (.var 1))))] []), (.ifS (.bi .isI false [(.var 1)]) [(.ret (.andE (.bi .isI false [(.var 0)]) (.andE (.notE (.bi .isB false [(.var 0)])) (.cmp .eq (.var 0) (.var 1)))))] []), (.ifS (.bi .isS false [(.var 1)]) [(.ret (.andE (.bi .isS false [(.var 0)]) (.cmp .eq (.var 0) (.var 1))))] []), (.ifS (.orE (.cmp .ne (.bi .isT false [(.var 1)]) (.bi .isT false [(.var 0)])) (.cmp .ne (.bi .isL false [(.var 1)]) (.bi .isL false [(.var 0)]))) [(.ret (.cst (.bl false)))] []), (.ifS (.cmp .ne (.bi .len false [(.var 0)]) (.bi .len false [(.var 1)])) [(.ret (.cst (.bl false)))] []), (.forS (.name 2) (.rng1 (.bi .len false [(.var 1)])) [(.ifS (.notE (.call n [(.item (.var 0) (.var 2)), (.item (.var 1) (.var 2))])) [(.ret (.cst (.bl false)))] [])]), (.ret (.cst (.bl true)))]
/-- lists of a size that is walked here -/
def smallV : Nat → Val → Bool
  | 0, _ => false
  | n + 1, .tup ds => decide (ds.length ≤ 1000000) && ds.all (smallV n)
  | n + 1, .lst ds => decide (ds.length ≤ 1000000) && ds.all (smallV n)
  | _ + 1, _ => true
theorem mapM_at {s : Sto} {n : Nat} : ∀ {xs ds : List Val} {i : Nat} {x : Val}, xs.mapM (res s n) = some ds → xs[i]? = some x → ∃ d, ds[i]? = some d ∧ res s n x = some d
  | [], _, i, x, h, e => by simp at e
  | y :: ys, ds, i, x, h, e => by
    rw [List.mapM_cons] at h
    cases e1 : res s n y with
    | none => rw [e1] at h; cases h
    | some d =>
      cases e2 : ys.mapM (res s n) with
      | none => rw [e1, e2] at h; cases h
      | some r =>
        rw [e1, e2] at h
        cases h
        cases i with
        | zero =>
          simp at e
          subst e
          exact ⟨d, rfl, e1⟩
        | succ i =>
          obtain ⟨d', h1, h2⟩ := mapM_at e2 (by simpa using e)
          exact ⟨d', by simpa using h1, h2⟩
theorem mapM_len {s : Sto} {n : Nat} : ∀ {xs ds : List Val}, xs.mapM (res s n) = some ds → xs.length = ds.length
  | [], ds, h => by cases h; rfl
  | y :: ys, ds, h => by
    rw [List.mapM_cons] at h
    cases e1 : res s n y with
    | none => rw [e1] at h; cases h
    | some d =>
      cases e2 : ys.mapM (res s n) with
      | none => rw [e1, e2] at h; cases h
      | some r =>
        rw [e1, e2] at h
        cases h
        simp [mapM_len e2]
/-- what a value that resolves to a tuple, to a list, is -/
theorem res_tup {s : Sto} {n : Nat} {x : Val} {ds : List Val} (h : res s (n + 1) x = some (.tup ds)) : ∃ xs, x = .tup xs ∧ xs.mapM (res s n) = some ds := by
  cases x with
  | tup xs =>
    simp only [res, Option.map_eq_some_iff] at h
    obtain ⟨a, e, q⟩ := h
    cases q
    exact ⟨xs, rfl, e⟩
  | lst xs =>
    simp only [res, Option.map_eq_some_iff] at h
    obtain ⟨a, e, q⟩ := h
    cases q
  | loc l =>
    simp only [res] at h
    split at h
    · simp only [Option.map_eq_some_iff] at h
      obtain ⟨a, e, q⟩ := h
      cases q
    · cases h
  | _ => simp [res] at h
theorem res_lst {s : Sto} {n : Nat} {x : Val} {ds : List Val} (h : res s (n + 1) x = some (.lst ds)) : ∃ xs, lstOf s x = some xs ∧ xs.mapM (res s n) = some ds ∧ (x = .lst xs ∨ ∃ l, x = .loc l ∧ s[l]? = some (.list xs)) := by
  cases x with
  | tup xs =>
    simp only [res, Option.map_eq_some_iff] at h
    obtain ⟨a, e, q⟩ := h
    cases q
  | lst xs =>
    simp only [res, Option.map_eq_some_iff] at h
    obtain ⟨a, e, q⟩ := h
    cases q
    exact ⟨xs, rfl, e, .inl rfl⟩
  | loc l =>
    simp only [res] at h
    split at h
    · rename_i vs e0
      simp only [Option.map_eq_some_iff] at h
      obtain ⟨a, e, q⟩ := h
      cases q
      exact ⟨vs, by simp [lstOf, e0], e, .inr ⟨l, rfl, e0⟩⟩
    · cases h
  | _ => simp [res] at h
theorem res_flat {s : Sto} {n : Nat} {x d : Val} (h : res s (n + 1) x = some d) (hf : flat d = true) : x = d := by
  cases x with
  | tup xs =>
    simp only [res, Option.map_eq_some_iff] at h
    obtain ⟨a, e, q⟩ := h
    subst q
    cases hf
  | lst xs =>
    simp only [res, Option.map_eq_some_iff] at h
    obtain ⟨a, e, q⟩ := h
    subst q
    cases hf
  | loc l =>
    simp only [res] at h
    split at h
    · simp only [Option.map_eq_some_iff] at h
      obtain ⟨a, e, q⟩ := h
      subst q
      cases hf
    · cases h
  | scr _ => simp [res] at h
  | exc _ _ => simp [res] at h
  | _ => simpa [res] using h
section
variable {T : Tab} {f : Nat} {s : Sto}
theorem alike_ok (hc : T.code f = some ⟨2, 3, alikeC f⟩) : ∀ (n k : Nat) {x y d : Val}, res s n x = some d → res s n y = some d → smallV n d = true → Wp (callN T (k + n) f [x, y] s) fun v s' => v = .bl true ∧ s' = s
  | 0, k, x, y, d, h, _, _ => by cases h
  | n + 1, k, x, y, d, hx, hy, hs => by
    show Wp (callN T ((k + n) + 1) f [x, y] s) _
    refine wp_run hc rfl ?_
    have eqi : ∀ i : Int, eqV s (.int i) (.int i) = some true := fun i => by simp [eqV, res, DEEP, pyEq, numOf]
    have eqb : ∀ i : Bool, eqV s (.bl i) (.bl i) = some true := fun i => by simp [eqV, res, DEEP, pyEq, numOf]
    have eqs : ∀ i : Txt, eqV s (.str i) (.str i) = some true := fun i => by simp [eqV, res, DEEP, pyEq]
    have eqb2 : ∀ i j : Bool, eqV s (.bl i) (.bl j) = some (i == j) := fun i j => by cases i <;> cases j <;> rfl
    have ih := alike_ok hc n
    by_cases hf : flat d = true
    · have e1 := res_flat hx hf
      have e2 := res_flat hy hf
      subst e1
      subst e2
      cases y with
      | non =>
        refine w_if ?_
        simp only [ev, evs, evo, evc, evi, wp_bnd, wp_ok, wp_pur, wp_lift, List.map_cons, List.map_nil, List.cons_append, List.nil_append, List.getElem?_cons_zero, List.getElem?_cons_succ, List.set_cons_zero, List.set_cons_succ, List.replicate_succ, List.replicate_zero, Nat.reduceSub, itemV, seqOf, lstOf, Option.bind_some, Option.bind_none, cmpV, binV, biV, bmV, bmO, bmR, bmC, bmI, bmTy, alloc, Option.map_some, Option.map_none, Bool.false_eq_true, if_false, if_true, Option.some.injEq, Prod.mk.injEq, Val.bl.injEq, Val.int.injEq, Val.loc.injEq, Val.str.injEq, Val.lst.injEq, Val.tup.injEq, exists_eq_left', exists_eq_left, exists_and_left, exists_and_right, and_assoc, true_and, and_true, Option.isSome_some, id_eq, Bool.not_true, Bool.not_false, optI, List.length_cons, List.length_nil, lim_le, lim_lt, Nat.zero_add, Nat.reduceAdd, Nat.reduceLeDiff, Nat.zero_le, Nat.reduceLT]
        refine ⟨fun _ => w_ret ?_, (fun h => by cases h)⟩
        simp only [ev, evs, evo, evc, evi, wp_bnd, wp_ok, wp_pur, wp_lift, List.map_cons, List.map_nil, List.cons_append, List.nil_append, List.getElem?_cons_zero, List.getElem?_cons_succ, List.set_cons_zero, List.set_cons_succ, List.replicate_succ, List.replicate_zero, Nat.reduceSub, itemV, seqOf, lstOf, Option.bind_some, Option.bind_none, cmpV, binV, biV, bmV, bmO, bmR, bmC, bmI, bmTy, alloc, Option.map_some, Option.map_none, Bool.false_eq_true, if_false, if_true, Option.some.injEq, Prod.mk.injEq, Val.bl.injEq, Val.int.injEq, Val.loc.injEq, Val.str.injEq, Val.lst.injEq, Val.tup.injEq, exists_eq_left', exists_eq_left, exists_and_left, exists_and_right, and_assoc, true_and, and_true, Option.isSome_some, id_eq, Bool.not_true, Bool.not_false, optI, List.length_cons, List.length_nil, lim_le, lim_lt, Nat.zero_add, Nat.reduceAdd, Nat.reduceLeDiff, Nat.zero_le, Nat.reduceLT]
      | bl b =>
        refine w_if ?_
        simp only [ev, evs, evo, evc, evi, wp_bnd, wp_ok, wp_pur, wp_lift, List.map_cons, List.map_nil, List.cons_append, List.nil_append, List.getElem?_cons_zero, List.getElem?_cons_succ, List.set_cons_zero, List.set_cons_succ, List.replicate_succ, List.replicate_zero, Nat.reduceSub, itemV, seqOf, lstOf, Option.bind_some, Option.bind_none, cmpV, binV, biV, bmV, bmO, bmR, bmC, bmI, bmTy, alloc, Option.map_some, Option.map_none, Bool.false_eq_true, if_false, if_true, Option.some.injEq, Prod.mk.injEq, Val.bl.injEq, Val.int.injEq, Val.loc.injEq, Val.str.injEq, Val.lst.injEq, Val.tup.injEq, exists_eq_left', exists_eq_left, exists_and_left, exists_and_right, and_assoc, true_and, and_true, Option.isSome_some, id_eq, Bool.not_true, Bool.not_false, optI, List.length_cons, List.length_nil, lim_le, lim_lt, Nat.zero_add, Nat.reduceAdd, Nat.reduceLeDiff, Nat.zero_le, Nat.reduceLT]
        refine ⟨(fun h => by cases h), fun _ => w_if ?_⟩
        simp only [ev, evs, evo, evc, evi, wp_bnd, wp_ok, wp_pur, wp_lift, List.map_cons, List.map_nil, List.cons_append, List.nil_append, List.getElem?_cons_zero, List.getElem?_cons_succ, List.set_cons_zero, List.set_cons_succ, List.replicate_succ, List.replicate_zero, Nat.reduceSub, itemV, seqOf, lstOf, Option.bind_some, Option.bind_none, cmpV, binV, biV, bmV, bmO, bmR, bmC, bmI, bmTy, alloc, Option.map_some, Option.map_none, Bool.false_eq_true, if_false, if_true, Option.some.injEq, Prod.mk.injEq, Val.bl.injEq, Val.int.injEq, Val.loc.injEq, Val.str.injEq, Val.lst.injEq, Val.tup.injEq, exists_eq_left', exists_eq_left, exists_and_left, exists_and_right, and_assoc, true_and, and_true, Option.isSome_some, id_eq, Bool.not_true, Bool.not_false, optI, List.length_cons, List.length_nil, lim_le, lim_lt, Nat.zero_add, Nat.reduceAdd, Nat.reduceLeDiff, Nat.zero_le, Nat.reduceLT, isKind]
        refine ⟨fun _ => w_ret ?_, (fun h => by cases h)⟩
        simp only [ev, evs, evo, evc, evi, wp_bnd, wp_ok, wp_pur, wp_lift, List.map_cons, List.map_nil, List.cons_append, List.nil_append, List.getElem?_cons_zero, List.getElem?_cons_succ, List.set_cons_zero, List.set_cons_succ, List.replicate_succ, List.replicate_zero, Nat.reduceSub, itemV, seqOf, lstOf, Option.bind_some, Option.bind_none, cmpV, binV, biV, bmV, bmO, bmR, bmC, bmI, bmTy, alloc, Option.map_some, Option.map_none, Bool.false_eq_true, if_false, if_true, Option.some.injEq, Prod.mk.injEq, Val.bl.injEq, Val.int.injEq, Val.loc.injEq, Val.str.injEq, Val.lst.injEq, Val.tup.injEq, exists_eq_left', exists_eq_left, exists_and_left, exists_and_right, and_assoc, true_and, and_true, Option.isSome_some, id_eq, Bool.not_true, Bool.not_false, optI, List.length_cons, List.length_nil, lim_le, lim_lt, Nat.zero_add, Nat.reduceAdd, Nat.reduceLeDiff, Nat.zero_le, Nat.reduceLT, isKind, eqb]
      | int b =>
        refine w_if ?_
        simp only [ev, evs, evo, evc, evi, wp_bnd, wp_ok, wp_pur, wp_lift, List.map_cons, List.map_nil, List.cons_append, List.nil_append, List.getElem?_cons_zero, List.getElem?_cons_succ, List.set_cons_zero, List.set_cons_succ, List.replicate_succ, List.replicate_zero, Nat.reduceSub, itemV, seqOf, lstOf, Option.bind_some, Option.bind_none, cmpV, binV, biV, bmV, bmO, bmR, bmC, bmI, bmTy, alloc, Option.map_some, Option.map_none, Bool.false_eq_true, if_false, if_true, Option.some.injEq, Prod.mk.injEq, Val.bl.injEq, Val.int.injEq, Val.loc.injEq, Val.str.injEq, Val.lst.injEq, Val.tup.injEq, exists_eq_left', exists_eq_left, exists_and_left, exists_and_right, and_assoc, true_and, and_true, Option.isSome_some, id_eq, Bool.not_true, Bool.not_false, optI, List.length_cons, List.length_nil, lim_le, lim_lt, Nat.zero_add, Nat.reduceAdd, Nat.reduceLeDiff, Nat.zero_le, Nat.reduceLT]
        refine ⟨(fun h => by cases h), fun _ => w_if ?_⟩
        simp only [ev, evs, evo, evc, evi, wp_bnd, wp_ok, wp_pur, wp_lift, List.map_cons, List.map_nil, List.cons_append, List.nil_append, List.getElem?_cons_zero, List.getElem?_cons_succ, List.set_cons_zero, List.set_cons_succ, List.replicate_succ, List.replicate_zero, Nat.reduceSub, itemV, seqOf, lstOf, Option.bind_some, Option.bind_none, cmpV, binV, biV, bmV, bmO, bmR, bmC, bmI, bmTy, alloc, Option.map_some, Option.map_none, Bool.false_eq_true, if_false, if_true, Option.some.injEq, Prod.mk.injEq, Val.bl.injEq, Val.int.injEq, Val.loc.injEq, Val.str.injEq, Val.lst.injEq, Val.tup.injEq, exists_eq_left', exists_eq_left, exists_and_left, exists_and_right, and_assoc, true_and, and_true, Option.isSome_some, id_eq, Bool.not_true, Bool.not_false, optI, List.length_cons, List.length_nil, lim_le, lim_lt, Nat.zero_add, Nat.reduceAdd, Nat.reduceLeDiff, Nat.zero_le, Nat.reduceLT, isKind]
        refine ⟨(fun h => by cases h), fun _ => w_if ?_⟩
        simp only [ev, evs, evo, evc, evi, wp_bnd, wp_ok, wp_pur, wp_lift, List.map_cons, List.map_nil, List.cons_append, List.nil_append, List.getElem?_cons_zero, List.getElem?_cons_succ, List.set_cons_zero, List.set_cons_succ, List.replicate_succ, List.replicate_zero, Nat.reduceSub, itemV, seqOf, lstOf, Option.bind_some, Option.bind_none, cmpV, binV, biV, bmV, bmO, bmR, bmC, bmI, bmTy, alloc, Option.map_some, Option.map_none, Bool.false_eq_true, if_false, if_true, Option.some.injEq, Prod.mk.injEq, Val.bl.injEq, Val.int.injEq, Val.loc.injEq, Val.str.injEq, Val.lst.injEq, Val.tup.injEq, exists_eq_left', exists_eq_left, exists_and_left, exists_and_right, and_assoc, true_and, and_true, Option.isSome_some, id_eq, Bool.not_true, Bool.not_false, optI, List.length_cons, List.length_nil, lim_le, lim_lt, Nat.zero_add, Nat.reduceAdd, Nat.reduceLeDiff, Nat.zero_le, Nat.reduceLT, isKind]
        refine ⟨fun _ => w_ret ?_, (fun h => by cases h)⟩
        simp only [ev, evs, evo, evc, evi, wp_bnd, wp_ok, wp_pur, wp_lift, List.map_cons, List.map_nil, List.cons_append, List.nil_append, List.getElem?_cons_zero, List.getElem?_cons_succ, List.set_cons_zero, List.set_cons_succ, List.replicate_succ, List.replicate_zero, Nat.reduceSub, itemV, seqOf, lstOf, Option.bind_some, Option.bind_none, cmpV, binV, biV, bmV, bmO, bmR, bmC, bmI, bmTy, alloc, Option.map_some, Option.map_none, Bool.false_eq_true, if_false, if_true, Option.some.injEq, Prod.mk.injEq, Val.bl.injEq, Val.int.injEq, Val.loc.injEq, Val.str.injEq, Val.lst.injEq, Val.tup.injEq, exists_eq_left', exists_eq_left, exists_and_left, exists_and_right, and_assoc, true_and, and_true, Option.isSome_some, id_eq, Bool.not_true, Bool.not_false, optI, List.length_cons, List.length_nil, lim_le, lim_lt, Nat.zero_add, Nat.reduceAdd, Nat.reduceLeDiff, Nat.zero_le, Nat.reduceLT, isKind, eqi]
      | str b =>
        refine w_if ?_
        simp only [ev, evs, evo, evc, evi, wp_bnd, wp_ok, wp_pur, wp_lift, List.map_cons, List.map_nil, List.cons_append, List.nil_append, List.getElem?_cons_zero, List.getElem?_cons_succ, List.set_cons_zero, List.set_cons_succ, List.replicate_succ, List.replicate_zero, Nat.reduceSub, itemV, seqOf, lstOf, Option.bind_some, Option.bind_none, cmpV, binV, biV, bmV, bmO, bmR, bmC, bmI, bmTy, alloc, Option.map_some, Option.map_none, Bool.false_eq_true, if_false, if_true, Option.some.injEq, Prod.mk.injEq, Val.bl.injEq, Val.int.injEq, Val.loc.injEq, Val.str.injEq, Val.lst.injEq, Val.tup.injEq, exists_eq_left', exists_eq_left, exists_and_left, exists_and_right, and_assoc, true_and, and_true, Option.isSome_some, id_eq, Bool.not_true, Bool.not_false, optI, List.length_cons, List.length_nil, lim_le, lim_lt, Nat.zero_add, Nat.reduceAdd, Nat.reduceLeDiff, Nat.zero_le, Nat.reduceLT]
        refine ⟨(fun h => by cases h), fun _ => w_if ?_⟩
        simp only [ev, evs, evo, evc, evi, wp_bnd, wp_ok, wp_pur, wp_lift, List.map_cons, List.map_nil, List.cons_append, List.nil_append, List.getElem?_cons_zero, List.getElem?_cons_succ, List.set_cons_zero, List.set_cons_succ, List.replicate_succ, List.replicate_zero, Nat.reduceSub, itemV, seqOf, lstOf, Option.bind_some, Option.bind_none, cmpV, binV, biV, bmV, bmO, bmR, bmC, bmI, bmTy, alloc, Option.map_some, Option.map_none, Bool.false_eq_true, if_false, if_true, Option.some.injEq, Prod.mk.injEq, Val.bl.injEq, Val.int.injEq, Val.loc.injEq, Val.str.injEq, Val.lst.injEq, Val.tup.injEq, exists_eq_left', exists_eq_left, exists_and_left, exists_and_right, and_assoc, true_and, and_true, Option.isSome_some, id_eq, Bool.not_true, Bool.not_false, optI, List.length_cons, List.length_nil, lim_le, lim_lt, Nat.zero_add, Nat.reduceAdd, Nat.reduceLeDiff, Nat.zero_le, Nat.reduceLT, isKind]
        refine ⟨(fun h => by cases h), fun _ => w_if ?_⟩
        simp only [ev, evs, evo, evc, evi, wp_bnd, wp_ok, wp_pur, wp_lift, List.map_cons, List.map_nil, List.cons_append, List.nil_append, List.getElem?_cons_zero, List.getElem?_cons_succ, List.set_cons_zero, List.set_cons_succ, List.replicate_succ, List.replicate_zero, Nat.reduceSub, itemV, seqOf, lstOf, Option.bind_some, Option.bind_none, cmpV, binV, biV, bmV, bmO, bmR, bmC, bmI, bmTy, alloc, Option.map_some, Option.map_none, Bool.false_eq_true, if_false, if_true, Option.some.injEq, Prod.mk.injEq, Val.bl.injEq, Val.int.injEq, Val.loc.injEq, Val.str.injEq, Val.lst.injEq, Val.tup.injEq, exists_eq_left', exists_eq_left, exists_and_left, exists_and_right, and_assoc, true_and, and_true, Option.isSome_some, id_eq, Bool.not_true, Bool.not_false, optI, List.length_cons, List.length_nil, lim_le, lim_lt, Nat.zero_add, Nat.reduceAdd, Nat.reduceLeDiff, Nat.zero_le, Nat.reduceLT, isKind]
        refine ⟨(fun h => by cases h), fun _ => w_if ?_⟩
        simp only [ev, evs, evo, evc, evi, wp_bnd, wp_ok, wp_pur, wp_lift, List.map_cons, List.map_nil, List.cons_append, List.nil_append, List.getElem?_cons_zero, List.getElem?_cons_succ, List.set_cons_zero, List.set_cons_succ, List.replicate_succ, List.replicate_zero, Nat.reduceSub, itemV, seqOf, lstOf, Option.bind_some, Option.bind_none, cmpV, binV, biV, bmV, bmO, bmR, bmC, bmI, bmTy, alloc, Option.map_some, Option.map_none, Bool.false_eq_true, if_false, if_true, Option.some.injEq, Prod.mk.injEq, Val.bl.injEq, Val.int.injEq, Val.loc.injEq, Val.str.injEq, Val.lst.injEq, Val.tup.injEq, exists_eq_left', exists_eq_left, exists_and_left, exists_and_right, and_assoc, true_and, and_true, Option.isSome_some, id_eq, Bool.not_true, Bool.not_false, optI, List.length_cons, List.length_nil, lim_le, lim_lt, Nat.zero_add, Nat.reduceAdd, Nat.reduceLeDiff, Nat.zero_le, Nat.reduceLT, isKind]
        refine ⟨fun _ => w_ret ?_, (fun h => by cases h)⟩
        simp only [ev, evs, evo, evc, evi, wp_bnd, wp_ok, wp_pur, wp_lift, List.map_cons, List.map_nil, List.cons_append, List.nil_append, List.getElem?_cons_zero, List.getElem?_cons_succ, List.set_cons_zero, List.set_cons_succ, List.replicate_succ, List.replicate_zero, Nat.reduceSub, itemV, seqOf, lstOf, Option.bind_some, Option.bind_none, cmpV, binV, biV, bmV, bmO, bmR, bmC, bmI, bmTy, alloc, Option.map_some, Option.map_none, Bool.false_eq_true, if_false, if_true, Option.some.injEq, Prod.mk.injEq, Val.bl.injEq, Val.int.injEq, Val.loc.injEq, Val.str.injEq, Val.lst.injEq, Val.tup.injEq, exists_eq_left', exists_eq_left, exists_and_left, exists_and_right, and_assoc, true_and, and_true, Option.isSome_some, id_eq, Bool.not_true, Bool.not_false, optI, List.length_cons, List.length_nil, lim_le, lim_lt, Nat.zero_add, Nat.reduceAdd, Nat.reduceLeDiff, Nat.zero_le, Nat.reduceLT, isKind, eqs]
      | _ => cases hf
    · -- what has items
      have parts : ∃ xs ys ds, seqOf s x = some xs ∧ seqOf s y = some ys ∧ xs.mapM (res s n) = some ds ∧ ys.mapM (res s n) = some ds ∧ ds.length ≤ 1000000 ∧ (∀ d ∈ ds, smallV n d = true) ∧
          (∃ t : Bool, isKind .isT s x = some t ∧ isKind .isT s y = some t ∧ isKind .isL s x = some (!t) ∧ isKind .isL s y = some (!t)) ∧ isKind .isB s y = some false ∧ isKind .isI s y = some false ∧ isKind .isS s y = some false ∧ y ≠ .non ∧
          (∀ m, biV .len m [x] s = some (.int xs.length, s)) ∧ (∀ m, biV .len m [y] s = some (.int ys.length, s)) ∧ (∀ k, itemV x (.int k) s = L2.atI xs k) ∧ ∀ k, itemV y (.int k) s = L2.atI ys k := by
        cases d with
        | tup ds =>
          obtain ⟨xs, rfl, h1⟩ := res_tup hx
          obtain ⟨ys, rfl, h2⟩ := res_tup hy
          simp only [smallV, Bool.and_eq_true, decide_eq_true_eq, List.all_eq_true] at hs
          exact ⟨xs, ys, ds, rfl, rfl, h1, h2, hs.1, hs.2, ⟨true, rfl, rfl, rfl, rfl⟩, rfl, rfl, rfl, (fun z => by cases z), fun _ => rfl, fun _ => rfl, fun _ => rfl, fun _ => rfl⟩
        | lst ds =>
          obtain ⟨xs, h0, h1, hx⟩ := res_lst hx
          obtain ⟨ys, h0', h2, hy⟩ := res_lst hy
          simp only [smallV, Bool.and_eq_true, decide_eq_true_eq, List.all_eq_true] at hs
          have kk : ∀ {z : Val} {zs : List Val}, (z = .lst zs ∨ ∃ l, z = .loc l ∧ s[l]? = some (.list zs)) → seqOf s z = some zs ∧ isKind .isT s z = some false ∧ isKind .isL s z = some true ∧ isKind .isB s z = some false ∧ isKind .isI s z = some false ∧ isKind .isS s z = some false ∧ z ≠ .non ∧ (∀ m, biV .len m [z] s = some (.int zs.length, s)) ∧ ∀ k, itemV z (.int k) s = L2.atI zs k := by
            intro z zs hz
            rcases hz with rfl | ⟨l, rfl, e⟩
            · exact ⟨rfl, rfl, rfl, rfl, rfl, rfl, (fun z => by cases z), fun _ => rfl, fun _ => rfl⟩
            · exact ⟨by simp [seqOf, lstOf, e], by simp [isKind, e], by simp [isKind, e], by simp [isKind, e], by simp [isKind, e], by simp [isKind, e], (fun z => by cases z), fun _ => by simp [biV, e], fun _ => by simp [itemV, seqOf, lstOf, e]⟩
          obtain ⟨a1, a2, a3, a4, a5, a6, a7, a8, a9⟩ := kk hx
          obtain ⟨c1, c2, c3, c4, c5, c6, c7, c8, c9⟩ := kk hy
          exact ⟨xs, ys, ds, a1, c1, h1, h2, hs.1, hs.2, ⟨false, a2, c2, a3, c3⟩, c4, c5, c6, c7, a8, c8, a9, c9⟩
        | non => exact absurd rfl hf
        | bl _ => exact absurd rfl hf
        | int _ => exact absurd rfl hf
        | str _ => exact absurd rfl hf
        | loc _ => cases n <;> simp [smallV] at hs <;> (obtain hx := hx; cases x <;> simp [res] at hx <;> (try (split at hx <;> simp at hx)))
        | scr _ => cases x <;> simp [res] at hx <;> (try (split at hx <;> simp at hx))
        | exc _ _ => cases x <;> simp [res] at hx <;> (try (split at hx <;> simp at hx))
      obtain ⟨xs, ys, ds, p1, p2, p3, p4, p5, p6, ⟨t, q1, q2, q3, q4⟩, r1, r2, r3, r4, l1, l2, i1, i2⟩ := parts
      have hl1 := mapM_len p3
      have hl2 := mapM_len p4
      have isn : ∀ C : Ctx, ev C (.isN false (.var 1)) [some x, some y, none] s = some (.ok (.bl false), s) := fun C => by
        rw [ev]
        show bnd (ok y s) _ = _
        (cases y <;> first | rfl | exact absurd rfl r4)
      have kind : ∀ (C : Ctx) (b : BI) (m : Bool) (i : Nat) (z : Val) (q : Bool) (o : Option Val), ([some x, some y, o] : Env)[i]? = some (some z) → biV b m [z] s = some (.bl q, s) → ev C (.bi b m [.var i]) [some x, some y, o] s = some (.ok (.bl q), s) := fun C b m i z q o h1 h2 => by
        simp only [ev, evs, h1, ok, bnd, h2, lift]
      have lenE : ∀ (C : Ctx) (i : Nat) (z : Val) (q : Int) (o : Option Val), ([some x, some y, o] : Env)[i]? = some (some z) → biV .len false [z] s = some (.int q, s) → ev C (.bi .len false [.var i]) [some x, some y, o] s = some (.ok (.int q), s) := fun C i z q o h1 h2 => by
        simp only [ev, evs, h1, ok, bnd, h2, lift]
      refine w_if ⟨_, _, isn _, false, rfl, fun h => (by cases h), fun _ => ?_⟩
      refine w_if ⟨_, _, kind _ .isB false 1 y false none rfl (by simp only [biV, r1, Option.map_some]), false, rfl, fun h => (by cases h), fun _ => ?_⟩
      refine w_if ⟨_, _, kind _ .isI false 1 y false none rfl (by simp only [biV, r2, Option.map_some]), false, rfl, fun h => (by cases h), fun _ => ?_⟩
      refine w_if ⟨_, _, kind _ .isS false 1 y false none rfl (by simp only [biV, r3, Option.map_some]), false, rfl, fun h => (by cases h), fun _ => ?_⟩
      have k1 := fun C => kind C .isT false 1 y t none rfl (by simp only [biV, q2, Option.map_some])
      have k2 := fun C => kind C .isT false 0 x t none rfl (by simp only [biV, q1, Option.map_some])
      have k3 := fun C => kind C .isL false 1 y (!t) none rfl (by simp only [biV, q4, Option.map_some])
      have k4 := fun C => kind C .isL false 0 x (!t) none rfl (by simp only [biV, q3, Option.map_some])
      refine w_if ⟨.bl false, s, ?_, false, rfl, fun h => (by cases h), fun _ => ?_⟩
      · simp only [List.nil_append, List.map_cons, List.map_nil, List.cons_append, List.replicate_succ, List.replicate_zero, Nat.reduceSub]
        rw [ev, ev, k1]
        simp only [bnd, k2, pur, cmpV, eqb2, Option.map_some, beq_self_eq_true, Bool.not_true, ok]
        rw [ev, k3]
        simp only [bnd, k4, pur, cmpV, eqb2, Option.map_some, beq_self_eq_true, Bool.not_true, ok]
      have n1 := fun C => lenE C 0 x xs.length none rfl (l1 false)
      have n2 := fun C => lenE C 1 y ys.length none rfl (l2 false)
      refine w_if ⟨.bl false, s, ?_, false, rfl, fun h => (by cases h), fun _ => ?_⟩
      · simp only [List.nil_append, List.map_cons, List.map_nil, List.cons_append, List.replicate_succ, List.replicate_zero, Nat.reduceSub]
        rw [ev, n1]
        simp only [bnd, n2, pur, cmpV, hl1, hl2, eqi, Option.map_some, Bool.not_true, ok]
      refine w_forE (fun i en s' => s' = s ∧ ∃ o : Option Val, en = [some x, some y, o]) (w := (rngV 0 ys.length, none)) (s1 := s) ?_ ⟨rfl, none, rfl⟩ (fun _ _ _ _ => rfl) ?_ ?_
      · simp only [List.nil_append, List.map_cons, List.map_nil, List.cons_append, List.replicate_succ, List.replicate_zero, Nat.reduceSub]
        rw [evi, n2]
        have : rngOk 0 ys.length = true := decide_eq_true (by omega)
        simp only [bnd, this, if_true, ok, Int.toNat_natCast]
      · rintro i v en s' hv ⟨rfl, o, rfl⟩
        obtain ⟨rfl, hi⟩ := rng_at hv
        refine ⟨[some x, some y, some (.int (i : Nat))], rfl, ?_⟩
        obtain ⟨xi, ex⟩ : ∃ xi, xs[i]? = some xi := ⟨_, List.getElem?_eq_getElem (by omega)⟩
        obtain ⟨yi, ey⟩ : ∃ yi, ys[i]? = some yi := ⟨_, List.getElem?_eq_getElem hi⟩
        obtain ⟨d1, g1, g2⟩ := mapM_at p3 ex
        obtain ⟨d2, g3, g4⟩ := mapM_at p4 ey
        rw [g1] at g3
        cases g3
        have sm := p6 d1 (List.mem_of_getElem? g1)
        obtain ⟨v, s1, e1, rfl, rfl⟩ := ih k g2 g4 sm
        refine w_if ⟨.bl false, s1, ?_, false, rfl, fun h => (by cases h), fun _ => w_nil ⟨rfl, _, rfl⟩⟩
        simp only [ev, evs, List.getElem?_cons_zero, List.getElem?_cons_succ, ok, bnd, pur, i1, i2, atI_of ex, atI_of ey]
        simp only [e1, Bool.not_true]
      · rintro en s' ⟨rfl, o, rfl⟩
        refine w_ret ?_
        simp only [ev, evs, evo, evc, evi, wp_bnd, wp_ok, wp_pur, wp_lift, List.map_cons, List.map_nil, List.cons_append, List.nil_append, List.getElem?_cons_zero, List.getElem?_cons_succ, List.set_cons_zero, List.set_cons_succ, List.replicate_succ, List.replicate_zero, Nat.reduceSub, itemV, seqOf, lstOf, Option.bind_some, Option.bind_none, cmpV, binV, biV, bmV, bmO, bmR, bmC, bmI, bmTy, alloc, Option.map_some, Option.map_none, Bool.false_eq_true, if_false, if_true, Option.some.injEq, Prod.mk.injEq, Val.bl.injEq, Val.int.injEq, Val.loc.injEq, Val.str.injEq, Val.lst.injEq, Val.tup.injEq, exists_eq_left', exists_eq_left, exists_and_left, exists_and_right, and_assoc, true_and, and_true, Option.isSome_some, id_eq, Bool.not_true, Bool.not_false, optI, List.length_cons, List.length_nil, lim_le, lim_lt, Nat.zero_add, Nat.reduceAdd, Nat.reduceLeDiff, Nat.zero_le, Nat.reduceLT]
end
end Lw
end
section
set_option Elab.async false
set_option linter.all false
set_option autoImplicit false
set_option maxRecDepth 100000
set_option maxHeartbeats 1000000
/-! What owns what: assertions over parts of the store, side by side. -/
namespace Lw
open Ab
/-- an assertion, and the places it speaks of -/
structure Asn where
  P : Sto → List Nat → Prop
  loc : ∀ {s s' : Sto} {fp : List Nat}, P s fp → (∀ l ∈ fp, s'[l]? = s[l]?) → P s' fp
  dom : ∀ {s : Sto} {fp : List Nat}, P s fp → ∀ l ∈ fp, l < s.length
/-- all of them, one behind the other -/
def Own (s : Sto) : List Asn → List Nat → Prop
  | [], fp => fp = []
  | A :: L, fp => ∃ a b, fp = a ++ b ∧ A.P s a ∧ Own s L b
theorem Own.loc {s s' : Sto} : ∀ {L : List Asn} {fp : List Nat}, Own s L fp → (∀ l ∈ fp, s'[l]? = s[l]?) → Own s' L fp
  | [], _, h, _ => h
  | A :: L, fp, ⟨a, b, e, h1, h2⟩, k => ⟨a, b, e, A.loc h1 fun l hl => k l (by rw [e]; exact List.mem_append_left _ hl), h2.loc fun l hl => k l (by rw [e]; exact List.mem_append_right _ hl)⟩
theorem Own.dom {s : Sto} : ∀ {L : List Asn} {fp : List Nat}, Own s L fp → ∀ l ∈ fp, l < s.length
  | [], _, h, l, hl => by rw [show _ = [] from h] at hl; cases hl
  | A :: L, fp, ⟨a, b, e, h1, h2⟩, l, hl => by
    rw [e] at hl
    exact (List.mem_append.mp hl).elim (A.dom h1 l) (h2.dom l)
theorem Own.append {s : Sto} : ∀ {L M : List Asn} {a b : List Nat}, Own s L a → Own s M b → Own s (L ++ M) (a ++ b)
  | [], M, a, b, h, k => by rw [show a = [] from h]; exact k
  | A :: L, M, a, b, ⟨c, d, e, h1, h2⟩, k => ⟨c, d ++ b, by rw [e, List.append_assoc], h1, h2.append k⟩
theorem Own.split {s : Sto} : ∀ {L M : List Asn} {fp : List Nat}, Own s (L ++ M) fp → ∃ a b, fp = a ++ b ∧ Own s L a ∧ Own s M b
  | [], M, fp, h => ⟨[], fp, rfl, rfl, h⟩
  | A :: L, M, fp, ⟨c, d, e, h1, h2⟩ => by
    obtain ⟨a, b, e2, h3, h4⟩ := Own.split h2
    exact ⟨c ++ a, b, by rw [e, e2, List.append_assoc], ⟨c, a, rfl, h1, h3⟩, h4⟩
theorem Own.perm {s : Sto} {L M : List Asn} (p : L.Perm M) : ∀ {fp : List Nat}, Own s L fp → ∃ fq, fq.Perm fp ∧ Own s M fq := by
  induction p with
  | nil => exact fun h => ⟨_, .refl _, h⟩
  | cons A _ ih =>
    rintro fp ⟨a, b, rfl, h1, h2⟩
    obtain ⟨b', p, h3⟩ := ih h2
    exact ⟨a ++ b', p.append_left a, a, b', rfl, h1, h3⟩
  | swap A B L =>
    rintro fp ⟨a, _, rfl, h1, b, c, rfl, h2, h3⟩
    refine ⟨b ++ (a ++ c), ?_, b, a ++ c, rfl, h2, a, c, rfl, h1, h3⟩
    rw [← List.append_assoc, ← List.append_assoc]
    exact List.perm_append_comm.append_right c
  | trans _ _ ih1 ih2 =>
    intro fp h
    obtain ⟨f1, p1, h1⟩ := ih1 h
    obtain ⟨f2, p2, h2⟩ := ih2 h1
    exact ⟨f2, p2.trans p1, h2⟩
/-- all of them, apart -/
def Sep (s : Sto) (L : List Asn) : Prop := ∃ fp, Own s L fp ∧ fp.Nodup
theorem Sep.perm {s : Sto} {L M : List Asn} (h : Sep s L) (p : L.Perm M) : Sep s M := by
  obtain ⟨fp, o, nd⟩ := h
  obtain ⟨fq, q, o'⟩ := o.perm p
  exact ⟨fq, o', q.nodup_iff.mpr nd⟩
theorem Sep.nil {s : Sto} : Sep s [] := ⟨[], rfl, List.nodup_nil⟩
theorem Sep.tail {s : Sto} {A : Asn} {L : List Asn} (h : Sep s (A :: L)) : Sep s L := by
  obtain ⟨fp, ⟨a, b, rfl, _, o⟩, nd⟩ := h
  exact ⟨b, o, (List.nodup_append.mp nd).2.1⟩
theorem Sep.left {s : Sto} {L M : List Asn} (h : Sep s (L ++ M)) : Sep s L := by
  obtain ⟨fp, o, nd⟩ := h
  obtain ⟨a, b, rfl, o1, _⟩ := o.split
  exact ⟨a, o1, (List.nodup_append.mp nd).1⟩
theorem Sep.right {s : Sto} {L M : List Asn} (h : Sep s (L ++ M)) : Sep s M := by
  obtain ⟨fp, o, nd⟩ := h
  obtain ⟨a, b, rfl, _, o2⟩ := o.split
  exact ⟨b, o2, (List.nodup_append.mp nd).2.1⟩
theorem perm_at {α : Type} {L : List α} {n : Nat} {A : α} (h : L[n]? = some A) : L.Perm (A :: L.eraseIdx n) := by
  induction L generalizing n with
  | nil => simp at h
  | cons B L ih =>
    cases n with
    | zero =>
      simp at h
      subst h
      exact .refl _
    | succ n =>
      have := ih (n := n) (by simpa using h)
      exact (this.cons B).trans (.swap ..)
theorem perm_set {α : Type} {L : List α} {n : Nat} {A B : α} (h : L[n]? = some A) : (B :: L.eraseIdx n).Perm (L.set n B) := by
  have e : (L.set n B)[n]? = some B := List.getElem?_set_self (List.getElem?_eq_some_iff.mp h).1
  have := (perm_at e).symm
  have e2 : (L.set n B).eraseIdx n = L.eraseIdx n := by
    clear this e h
    induction L generalizing n with
    | nil => rfl
    | cons C L ih =>
      cases n with
      | zero => rfl
      | succ n => simp [ih]
  rw [e2] at this
  exact this
/-- one of them ahead -/
theorem Sep.one {s : Sto} {L : List Asn} {n : Nat} {A : Asn} (H : Sep s L) (h : L[n]? = some A) : ∃ F, Sep s (A :: F) ∧ ∀ {s' B}, Sep s' (B :: F) → Sep s' (L.set n B) :=
  ⟨L.eraseIdx n, H.perm (perm_at h), fun k => k.perm (perm_set h)⟩
/-- two of them ahead -/
theorem Sep.two {s : Sto} {L : List Asn} {n m : Nat} {A B : Asn} (H : Sep s L) (h : L[n]? = some A) (k : L[m]? = some B) (hn : n ≠ m) : ∃ F, Sep s (A :: B :: F) ∧ ∀ {s' A' B'}, Sep s' (A' :: B' :: F) → Sep s' ((L.set n A').set m B') := by
  have e : (L.set n A)[m]? = some B := by rw [List.getElem?_set_ne hn]; exact k
  have hl := (List.getElem?_eq_some_iff.mp h).1
  have e0 : L.set n A = L := by
    apply List.ext_getElem? 
    intro i
    by_cases c : n = i
    · subst c
      rw [List.getElem?_set_self hl, h]
    · rw [List.getElem?_set_ne c]
  -- B among the rest
  have pm : ∀ A' : Asn, ∃ j, (L.eraseIdx n)[j]? = some B ∧ ∀ B', (A' :: (L.eraseIdx n).set j B').Perm ((L.set n A').set m B') := by
    clear e e0 H
    induction L generalizing n m with
    | nil => simp at h
    | cons C L ih =>
      intro A'
      cases n with
      | zero =>
        cases m with
        | zero => exact absurd rfl hn
        | succ m => exact ⟨m, by simpa using k, fun B' => by simp⟩
      | succ n =>
        cases m with
        | zero =>
          refine ⟨0, by simpa using k, fun B' => ?_⟩
          have := perm_set (B := A') (L := L) (n := n) (by simpa using h)
          simp only [List.eraseIdx_cons_succ, List.set_cons_zero, List.set_cons_succ]
          exact (List.Perm.swap ..).trans (this.cons B')
        | succ m =>
          obtain ⟨j, h1, h2⟩ := ih (n := n) (m := m) (by simpa using h) (by simpa using k) (by omega) (by simpa using hl) A'
          refine ⟨j + 1, by simpa using h1, fun B' => ?_⟩
          simp only [List.eraseIdx_cons_succ, List.set_cons_succ]
          exact (List.Perm.swap ..).trans ((h2 B').cons C)
  obtain ⟨j, hj, _⟩ := pm A
  refine ⟨(L.eraseIdx n).eraseIdx j, H.perm ((perm_at h).trans ((perm_at hj).cons A)), fun {s' A' B'} q => ?_⟩
  obtain ⟨j', hj', p'⟩ := pm A'
  refine q.perm (((perm_set hj (B := B')).cons A').trans ?_)
  have q2 := p' B'
  -- any place of B serves: both are permutations of the same
  have : ((L.eraseIdx n).set j B').Perm ((L.eraseIdx n).set j' B') := by
    have a1 := (perm_set hj (B := B')).symm
    have a2 := perm_set hj' (B := B')
    have a3 : ((L.eraseIdx n).eraseIdx j).Perm ((L.eraseIdx n).eraseIdx j') := by
      have b1 := (perm_at hj).symm.trans (perm_at hj')
      exact (List.perm_cons B).mp b1
    exact a1.trans ((a3.cons B').trans a2)
  exact (this.cons A').trans q2
/-! ### the assertions -/
/-- one place -/
def cell (l : Nat) (o : SO) : Asn where
  P := fun s fp => fp = [l] ∧ s[l]? = some o
  loc := fun ⟨e, h⟩ k => ⟨e, by rw [k _ (by rw [e]; exact List.mem_cons_self)]; exact h⟩
  dom := fun ⟨e, h⟩ l' hl => by
    rw [e] at hl
    rw [List.mem_singleton.mp hl]
    exact (List.getElem?_eq_some_iff.mp h).1
/-- several -/
def star (L : List Asn) : Asn where
  P := fun s fp => Own s L fp
  loc := fun h k => h.loc k
  dom := fun h => h.dom
/-- some -/
def exA {α : Type} (A : α → Asn) : Asn where
  P := fun s fp => ∃ x, (A x).P s fp
  loc := fun ⟨x, h⟩ k => ⟨x, (A x).loc h k⟩
  dom := fun ⟨x, h⟩ => (A x).dom h
/-- a fact -/
def factA (p : Prop) (A : Asn) : Asn where
  P := fun s fp => p ∧ A.P s fp
  loc := fun ⟨x, h⟩ k => ⟨x, A.loc h k⟩
  dom := fun ⟨x, h⟩ => A.dom h
theorem Sep.star {s : Sto} {M L : List Asn} : Sep s (star M :: L) ↔ Sep s (M ++ L) := by
  constructor
  · rintro ⟨fp, ⟨a, b, rfl, h1, h2⟩, nd⟩
    exact ⟨a ++ b, h1.append h2, nd⟩
  · rintro ⟨fp, o, nd⟩
    obtain ⟨a, b, rfl, h1, h2⟩ := o.split
    exact ⟨a ++ b, ⟨a, b, rfl, h1, h2⟩, nd⟩
theorem Sep.ex {s : Sto} {α : Type} {A : α → Asn} {L : List Asn} : Sep s (exA A :: L) ↔ ∃ x, Sep s (A x :: L) := by
  constructor
  · rintro ⟨fp, ⟨a, b, e, ⟨x, h1⟩, h2⟩, nd⟩
    exact ⟨x, fp, ⟨a, b, e, h1, h2⟩, nd⟩
  · rintro ⟨x, fp, ⟨a, b, e, h1, h2⟩, nd⟩
    exact ⟨fp, ⟨a, b, e, ⟨x, h1⟩, h2⟩, nd⟩
theorem Sep.fact {s : Sto} {p : Prop} {A : Asn} {L : List Asn} : Sep s (factA p A :: L) ↔ p ∧ Sep s (A :: L) := by
  constructor
  · rintro ⟨fp, ⟨a, b, e, ⟨x, h1⟩, h2⟩, nd⟩
    exact ⟨x, fp, ⟨a, b, e, h1, h2⟩, nd⟩
  · rintro ⟨x, fp, ⟨a, b, e, h1, h2⟩, nd⟩
    exact ⟨fp, ⟨a, b, e, ⟨x, h1⟩, h2⟩, nd⟩
theorem Sep.get {s : Sto} {l : Nat} {o : SO} {L : List Asn} (H : Sep s (cell l o :: L)) : s[l]? = some o := by
  obtain ⟨fp, ⟨a, b, e, ⟨e1, h⟩, _⟩, _⟩ := H
  exact h
theorem Sep.at {s : Sto} {l n : Nat} {o : SO} {L : List Asn} (H : Sep s L) (h : L[n]? = some (cell l o)) : s[l]? = some o := (H.perm (perm_at h)).get
theorem Sep.set {s : Sto} {l : Nat} {o o' : SO} {L : List Asn} (H : Sep s (cell l o :: L)) : Sep (s.set l o') (cell l o' :: L) := by
  obtain ⟨fp, ⟨a, b, rfl, ⟨rfl, h⟩, h2⟩, nd⟩ := H
  refine ⟨[l] ++ b, ⟨[l], b, rfl, ⟨rfl, List.getElem?_set_self (List.getElem?_eq_some_iff.mp h).1⟩, h2.loc fun m hm => ?_⟩, nd⟩
  rw [List.getElem?_set_ne fun z => (List.nodup_append.mp nd).2.2 l (by simp) m hm z]
theorem Sep.put {s : Sto} {l n : Nat} {o o' : SO} {L : List Asn} (H : Sep s L) (h : L[n]? = some (cell l o)) : Sep (s.set l o') (L.set n (cell l o')) := by
  obtain ⟨F, H1, back⟩ := H.one h
  exact back H1.set
theorem Sep.push {s : Sto} {o : SO} {L : List Asn} (H : Sep s L) : Sep (s ++ [o]) (cell s.length o :: L) := by
  obtain ⟨fp, h, nd⟩ := H
  have d := h.dom
  refine ⟨[s.length] ++ fp, ⟨[s.length], fp, rfl, ⟨rfl, by simp⟩, h.loc fun l hl => ?_⟩, ?_⟩
  · rw [List.getElem?_append_left (d l hl)]
  · refine List.nodup_append.mpr ⟨by simp, nd, fun a ha b hb e => ?_⟩
    have := d b hb
    rw [List.mem_singleton.mp ha] at e
    omega
/-- a growing store -/
theorem Sep.more {s : Sto} {t : List SO} {L : List Asn} (H : Sep s L) : Sep (s ++ t) L := by
  obtain ⟨fp, h, nd⟩ := H
  exact ⟨fp, h.loc fun l hl => by rw [List.getElem?_append_left (h.dom l hl)], nd⟩
/-- unlike places -/
theorem Sep.ne {s : Sto} {l m : Nat} {o o' : SO} {L : List Asn} (H : Sep s (cell l o :: cell m o' :: L)) : l ≠ m := by
  obtain ⟨fp, ⟨a, b, rfl, ⟨rfl, _⟩, c, d, rfl, ⟨rfl, _⟩, _⟩, nd⟩ := H
  rintro rfl
  simp at nd
/-- from a frame told of places to one told of assertions -/
theorem Sep.frm {s s' : Sto} {A B : Asn} {L : List Asn} {fp : List Nat} (H : Sep s (A :: L)) (hA : ∀ a, A.P s a → a = fp) (f : Frm fp s s') (hB : B.P s' fp) : Sep s' (B :: L) := by
  obtain ⟨fq, ⟨a, b, rfl, h1, h2⟩, nd⟩ := H
  have := hA a h1
  subst this
  refine ⟨a ++ b, ⟨a, b, rfl, hB, h2.loc fun l hl => ?_⟩, nd⟩
  have hl2 := h2.dom l hl
  rw [List.getElem?_eq_getElem hl2]
  exact f.2 l _ (List.getElem?_eq_getElem hl2) fun z => (List.nodup_append.mp nd).2.2 l z l hl rfl
end Lw
end
section
set_option Elab.async false
set_option linter.all false
set_option autoImplicit false
set_option maxRecDepth 100000
set_option maxHeartbeats 1000000
/-! The parts of an errand as they go, as plain functions. -/
namespace Lw
open Ab
inductive Nw where
  | waits | asked | done | backing | gone | runs | leaves
  deriving DecidableEq
inductive Mk where
  | back | firm | sure
  deriving DecidableEq
inductive Kd where
  | row | side | els
  deriving DecidableEq
def Nw.txt : Nw → Txt
  | .waits => [119, 97, 105, 116, 115]
  | .asked => [97, 115, 107, 101, 100]
  | .done => [100, 111, 110, 101]
  | .backing => [98, 97, 99, 107, 105, 110, 103]
  | .gone => [103, 111, 110, 101]
  | .runs => [114, 117, 110, 115]
  | .leaves => [108, 101, 97, 118, 101, 115]
def Mk.txt : Mk → Txt
  | .back => [98, 97, 99, 107]
  | .firm => [102, 105, 114, 109]
  | .sure => [115, 117, 114, 101]
def Kd.txt : Kd → Txt
  | .row => [114, 111, 119]
  | .side => [115, 105, 100, 101]
  | .els => [101, 108, 115, 101]
/-- the class of a join -/
def Kd.cls : Kd → Nat
  | .row => 1
  | .side => 2
  | .els => 3
theorem Nw.inj {a b : Nw} : a.txt = b.txt ↔ a = b := by cases a <;> cases b <;> decide
theorem Mk.inj {a b : Mk} : a.txt = b.txt ↔ a = b := by cases a <;> cases b <;> decide
theorem Kd.inj {a b : Kd} : a.txt = b.txt ↔ a = b := by cases a <;> cases b <;> decide
/-- plans -/
inductive Pl where
  | step (mk : Mk) (name : Txt)
  | join (kd : Kd) (ps : List Pl)
/-- the parts of an errand, by their places -/
inductive PT where
  | step (l : Nat) (mk : Mk) (name : Txt) (now : Nw) (off : Bool)
  | join (l : Nat) (kd : Kd) (now : Nw) (at_ : Int) (ps : List PT)
def PT.l : PT → Nat
  | .step l _ _ _ _ => l
  | .join l _ _ _ _ => l
def PT.now : PT → Nw
  | .step _ _ _ n _ => n
  | .join _ _ n _ _ => n
/-! ### what the methods do -/
def beginF : Nat → PT → PT
  | _, .step l mk nm _ off => .step l mk nm .asked off
  | 0, t => t
  | n + 1, .join l .side _ i ps => .join l .side .runs i (ps.map (beginF n))
  | n + 1, .join l kd _ i ps => .join l kd .runs i (match ps with
    | [] => []
    | p :: r => beginF n p :: r)
/-- a step done, and called off -/
def leaveF (l : Nat) (mk : Mk) (nm : Txt) (off : Bool) : PT × List Txt := match mk with
  | .back => (.step l mk nm .backing off, [])
  | _ => (.step l mk nm .gone off, [nm])
/-- called off; S: what settling does to a part -/
def offF (S : PT → PT × List Txt) : PT → PT × List Txt
  | .step l mk nm now off => match now with
    | .waits => (.step l mk nm .gone true, [])
    | .done => leaveF l mk nm true
    | _ => (.step l mk nm now true, [])
  | .join l kd now i ps => match now with
    | .waits => (.join l kd .gone i ps, [])
    | .runs => S (.join l kd .leaves i ps)
    | .done => S (.join l kd .leaves i ps)
    | _ => (.join l kd now i ps, [])
/-- one part after the other -/
def eachF (f : PT → PT × List Txt) (ps : List PT) : List PT × List Txt := (ps.map fun p => (f p).1, (ps.map fun p => (f p).2).flatten)
/-- a row's parts go on: from place i -/
def rowOn (B : PT → PT) : Nat → Nat → List PT → Nat × List PT
  | 0, i, ps => (i, ps)
  | m + 1, i, ps => match ps[i]?, ps[i + 1]? with
    | some p, some q => if p.now = .done then rowOn B m (i + 1) (ps.set (i + 1) (B q)) else (i, ps)
    | _, _ => (i, ps)
def elsOn (B : PT → PT) : Nat → Nat → List PT → Nat × List PT
  | 0, i, ps => (i, ps)
  | m + 1, i, ps => match ps[i]?, ps[i + 1]? with
    | some p, some q => if p.now = .gone then elsOn B m (i + 1) (ps.set (i + 1) (B q)) else (i, ps)
    | _, _ => (i, ps)
def nowAt (ps : List PT) (i : Nat) : Nw := match ps[i]? with
  | some p => p.now
  | none => .waits
/-- how a join goes on: what it is then, its place, its parts -/
def goOn (B : PT → PT) (kd : Kd) (i : Nat) (ps : List PT) : Nw × Nat × List PT := match kd with
  | .row => let r := rowOn B ps.length i ps
    (if nowAt r.2 r.1 = .done then .done else if nowAt r.2 r.1 = .gone then .leaves else .runs, r.1, r.2)
  | .side => (if ps.all (fun p => decide (p.now = .done)) = true then .done else if ps.any (fun p => decide (p.now = .gone)) = true then .leaves else .runs, i, ps)
  | .els => let r := elsOn B ps.length i ps
    (if nowAt r.2 r.1 = .done then .done else if nowAt r.2 r.1 = .gone then .gone else .runs, r.1, r.2)
/-- a row goes back: j parts are left, from the last of these on -/
def rowBack (C : PT → PT × List Txt) : Nat → List PT → Nw × Int × List PT × List Txt
  | 0, ps => (.gone, -1, ps, [])
  | j + 1, ps => match ps[j]? with
    | some p => if (C p).1.now = .gone then let r := rowBack C j (ps.set j (C p).1)
        (r.1, r.2.1, r.2.2.1, (C p).2 ++ r.2.2.2)
      else (.leaves, (j : Nat), ps.set j (C p).1, (C p).2)
    | none => (.leaves, (j : Nat), ps, [])
def goBack (C : PT → PT × List Txt) (kd : Kd) (i : Nat) (ps : List PT) : Nw × Int × List PT × List Txt := match kd with
  | .row => rowBack C (i + 1) ps
  | .side => let r := eachF C ps
    (if r.1.all (fun p => decide (p.now = .gone)) = true then .gone else .leaves, (i : Nat), r.1, r.2)
  | .els => match ps[i]? with
    | some p => (if (C p).1.now = .gone then .gone else .leaves, (i : Nat), ps.set i (C p).1, (C p).2)
    | none => (.leaves, (i : Nat), ps, [])
/-- behind the parts' settling -/
def on1 (B : PT → PT) (kd : Kd) (now : Nw) (i : Int) (ps : List PT) : Nw × Int × List PT := if now = .runs then ((goOn B kd i.toNat ps).1, ((goOn B kd i.toNat ps).2.1 : Nat), (goOn B kd i.toNat ps).2.2) else (now, i, ps)
def back1 (C : PT → PT × List Txt) (kd : Kd) (now : Nw) (i : Int) (ps : List PT) : Nw × Int × List PT × List Txt := if now = .leaves then goBack C kd i.toNat ps else (now, i, ps, [])
def settleF : Nat → PT → PT × List Txt
  | _, .step l mk nm now off => (.step l mk nm now off, [])
  | 0, t => (t, [])
  | n + 1, .join l kd now i ps =>
    let a := eachF (settleF n) ps
    let b := on1 (beginF n) kd now i a.1
    let c := back1 (offF (settleF n)) kd b.1 b.2.1 b.2.2
    (.join l kd c.1 c.2.1 c.2.2.1, a.2 ++ c.2.2.2)
/-! ### what stands in the store -/
def stepV (r : Nat) (mk : Mk) (name : Txt) (now : Nw) (off : Bool) : List (Nat × Val) := [(3, .str mk.txt), (4, .str name), (5, .loc r), (6, .str now.txt), (7, .bl off)]
def joinV (now : Nw) (i : Int) (ls : List Nat) : List (Nat × Val) := [(8, .lst (ls.map .loc)), (6, .str now.txt), (9, .int i)]
def stepO (r : Nat) (mk : Mk) (name : Txt) (now : Nw) (off : Bool) : SO := .inst 0 (stepV r mk name now off)
def joinO (kd : Kd) (now : Nw) (i : Int) (ls : List Nat) : SO := .inst kd.cls (joinV now i ls)
section
variable {r : Nat} {mk : Mk} {name : Txt} {now : Nw} {off : Bool} {i : Int} {ls : List Nat}
theorem step3 : (stepV r mk name now off).lookup 3 = some (.str mk.txt) := rfl
theorem step4 : (stepV r mk name now off).lookup 4 = some (.str name) := rfl
theorem step5 : (stepV r mk name now off).lookup 5 = some (.loc r) := rfl
theorem step6 : (stepV r mk name now off).lookup 6 = some (.str now.txt) := rfl
theorem step7 : (stepV r mk name now off).lookup 7 = some (.bl off) := rfl
theorem stepL : (stepV r mk name now off).length = 5 := rfl
theorem join8 : (joinV now i ls).lookup 8 = some (.lst (ls.map .loc)) := rfl
theorem join6 : (joinV now i ls).lookup 6 = some (.str now.txt) := rfl
theorem join9 : (joinV now i ls).lookup 9 = some (.int i) := rfl
theorem joinL : (joinV now i ls).length = 3 := rfl
end
mutual
def tree (r : Nat) : PT → Asn
  | .step l mk nm now off => cell l (stepO r mk nm now off)
  | .join l kd now i ps => star (cell l (joinO kd now i (ps.map PT.l)) :: trees r ps)
def trees (r : Nat) : List PT → List Asn
  | [] => []
  | p :: ps => tree r p :: trees r ps
end
theorem trees_map (r : Nat) : ∀ ps : List PT, trees r ps = ps.map (tree r)
  | [] => by simp [trees]
  | p :: ps => by simp [trees, trees_map r ps]
theorem trees_at {r : Nat} {ps : List PT} {i : Nat} {p : PT} (h : ps[i]? = some p) : (trees r ps)[i]? = some (tree r p) := by rw [trees_map, List.getElem?_map, h]; rfl
theorem trees_set {r : Nat} {ps : List PT} {i : Nat} {p : PT} : (trees r ps).set i (tree r p) = trees r (ps.set i p) := by rw [trees_map, trees_map, List.map_set]
theorem trees_len {r : Nat} {ps : List PT} : (trees r ps).length = ps.length := by rw [trees_map, List.length_map]
/-- what a record holds: the kept ones, the rests, the steps by their names -/
structure Rc where
  r : Nat
  k : Nat
  q : Nat
  d : Nat
  kept : List Txt
  rests : List Txt
  by_ : List (Txt × Nat)
def Rc.lists (R : Rc) : List Asn := [cell R.r (.inst 4 [(0, .loc R.k), (1, .loc R.q), (2, .loc R.d)]), cell R.k (.list (R.kept.map .str)), cell R.q (.list (R.rests.map .str)), cell R.d (.dS (R.by_.map fun p => (p.1, .loc p.2)))]
def Rc.A (R : Rc) : Asn := star R.lists
def Rc.more (R : Rc) (ns : List Txt) : Rc := { R with rests := R.rests ++ ns }
theorem Rc.more_nil (R : Rc) : R.more [] = R := by simp [Rc.more]
theorem Rc.more_more (R : Rc) (a b : List Txt) : (R.more a).more b = R.more (a ++ b) := by simp [Rc.more]
/-! ### what a tree keeps: depth, places -/
mutual
/-- it waits, and all in it -/
def fresh : PT → Prop
  | .step _ _ _ now off => now = .waits ∧ off = false
  | .join _ _ now i ps => now = .waits ∧ i = 0 ∧ freshs ps
def freshs : List PT → Prop
  | [] => True
  | p :: ps => fresh p ∧ freshs ps
end
theorem freshs_iff : ∀ {ps : List PT}, freshs ps ↔ ∀ p ∈ ps, fresh p
  | [] => by simp [freshs]
  | p :: ps => by simp [freshs, freshs_iff (ps := ps)]
/-- what is not yet begun waits -/
abbrev after (kd : Kd) (now : Nw) (i : Int) (ps : List PT) : Prop := (now = .waits → i = 0 ∧ ∀ p ∈ ps, fresh p) ∧ (now = .runs → kd ≠ .side → ∀ (j : Nat) p, i < (j : Nat) → ps[j]? = some p → fresh p)
mutual
/-- of depth n at most; places in range -/
def okT : Nat → PT → Prop
  | n, .step _ _ _ _ _ => 1 ≤ n
  | n, .join _ kd now i ps => ∃ m, n = m + 1 ∧ (ps ≠ [] ∧ ps.length < 1000) ∧ ((now = .gone ∨ (0 ≤ i ∧ i < ps.length)) ∧ after kd now i ps) ∧ okTs m ps
def okTs : Nat → List PT → Prop
  | _, [] => True
  | n, p :: ps => okT n p ∧ okTs n ps
end
theorem okTs_iff {n : Nat} : ∀ {ps : List PT}, okTs n ps ↔ ∀ p ∈ ps, okT n p
  | [] => by simp [okTs]
  | p :: ps => by simp [okTs, okTs_iff (ps := ps)]
theorem okT_pos {n : Nat} {t : PT} (h : okT n t) : 1 ≤ n := by
  cases t with
  | step => simpa [okT] using h
  | join =>
    simp only [okT] at h
    obtain ⟨m, e, _⟩ := h
    omega
end Lw
end
section
set_option Elab.async false
set_option linter.all false
set_option autoImplicit false
set_option maxRecDepth 100000
set_option maxHeartbeats 1000000
/-! The methods of an errand's parts do what Nd says. -/
namespace Lw
open Ab
/-- the table holds the parts' classes -/
structure HasNd (T : Tab) : Prop where
  c93 : T.code 93 = some ⟨1, 1, Pg.c93⟩
  c94 : T.code 94 = some ⟨1, 1, Pg.c94⟩
  c95 : T.code 95 = some ⟨1, 1, Pg.c95⟩
  c96 : T.code 96 = some ⟨1, 1, Pg.c96⟩
  c97 : T.code 97 = some ⟨2, 2, Pg.c97⟩
  c98 : T.code 98 = some ⟨1, 1, Pg.c98⟩
  c100 : T.code 100 = some ⟨1, 3, Pg.c100⟩
  c101 : T.code 101 = some ⟨1, 1, Pg.c101⟩
  c102 : T.code 102 = some ⟨1, 1, Pg.c102⟩
  c103 : T.code 103 = some ⟨1, 2, Pg.c103⟩
  c106 : T.code 106 = some ⟨1, 1, Pg.c106⟩
  c107 : T.code 107 = some ⟨1, 1, Pg.c107⟩
  c108 : T.code 108 = some ⟨1, 2, Pg.c108⟩
  c109 : T.code 109 = some ⟨1, 2, Pg.c109⟩
  c110 : T.code 110 = some ⟨1, 2, Pg.c110⟩
  c111 : T.code 111 = some ⟨1, 1, Pg.c111⟩
  c112 : T.code 112 = some ⟨1, 1, Pg.c112⟩
  m00 : T.meth 0 0 = some 95
  m01 : T.meth 0 1 = some 96
  m02 : T.meth 0 2 = some 93
  m03 : T.meth 0 3 = some 98
  m06 : T.meth 0 6 = some 94
  m08 : T.meth 0 8 = some 97
  j1 : ∀ kd : Kd, T.meth kd.cls 1 = some 100
  j2 : ∀ kd : Kd, T.meth kd.cls 2 = some (match kd with | .side => 108 | _ => 101)
  j3 : ∀ kd : Kd, T.meth kd.cls 3 = some 103
  j4 : ∀ kd : Kd, T.meth kd.cls 4 = some (match kd with | .row => 106 | .side => 109 | .els => 111)
  j5 : ∀ kd : Kd, T.meth kd.cls 5 = some (match kd with | .row => 107 | .side => 110 | .els => 112)
  j6 : ∀ kd : Kd, T.meth kd.cls 6 = some 102
/-- a method of what stands at l -/
def mcall (T : Tab) (k m l : Nat) (vs : List Val) (s : Sto) : R Val := match s[l]? with
  | some (.inst c _) => match T.meth c m with
    | some f => callN T k f (.loc l :: vs) s
    | none => none
  | _ => none
theorem ev_meth {C : Ctx} {T : Tab} {k m l : Nat} {o : Ex} {en : Env} {s : Sto} (hT : C.T = T) (hc : C.call = callN T k) (ho : ev C o en s = some (.ok (.loc l), s)) : ev C (.meth m o []) en s = mcall T k m l [] s := by
  rw [ev, ho]
  simp only [bnd, mcall, hT]
  cases s[l]? with
  | none => rfl
  | some q =>
    cases q with
    | inst c fs =>
      dsimp only
      cases T.meth c m with
      | none => rfl
      | some f => simp only [evs, ok, hc]
    | _ => rfl
theorem mcall_of {T : Tab} {k m l c f : Nat} {fs : List (Nat × Val)} {vs : List Val} {s : Sto} (h : s[l]? = some (.inst c fs)) (hm : T.meth c m = some f) : mcall T k m l vs s = callN T k f (.loc l :: vs) s := by
  simp only [mcall, h, hm]
section
variable {s : Sto} {n : Nw}
theorem eq_nw (m : Nw) : eqV s (.str n.txt) (.str m.txt) = some (decide (n = m)) := by
  have : eqV s (.str n.txt) (.str m.txt) = some (n.txt == m.txt) := rfl
  rw [this]
  by_cases c : n = m
  · subst c; simp
  · have : n.txt ≠ m.txt := fun z => c (Nw.inj.mp z)
    simp [c, this]
theorem eq_waits : eqV s (.str n.txt) (.str [119, 97, 105, 116, 115]) = some (decide (n = .waits)) := eq_nw .waits
theorem eq_asked : eqV s (.str n.txt) (.str [97, 115, 107, 101, 100]) = some (decide (n = .asked)) := eq_nw .asked
theorem eq_done : eqV s (.str n.txt) (.str [100, 111, 110, 101]) = some (decide (n = .done)) := eq_nw .done
theorem eq_backing : eqV s (.str n.txt) (.str [98, 97, 99, 107, 105, 110, 103]) = some (decide (n = .backing)) := eq_nw .backing
theorem eq_gone : eqV s (.str n.txt) (.str [103, 111, 110, 101]) = some (decide (n = .gone)) := eq_nw .gone
theorem eq_runs : eqV s (.str n.txt) (.str [114, 117, 110, 115]) = some (decide (n = .runs)) := eq_nw .runs
theorem eq_leaves : eqV s (.str n.txt) (.str [108, 101, 97, 118, 101, 115]) = some (decide (n = .leaves)) := eq_nw .leaves
end
/-- what a part's cell tells -/
theorem now_at {s : Sto} {r : Nat} {p : PT} {F : List Asn} (H : Sep s (tree r p :: F)) : ∃ c fs, s[p.l]? = some (.inst c fs) ∧ fs.lookup 6 = some (.str p.now.txt) := by
  cases p with
  | step l mk nm now off =>
    simp only [tree] at H
    exact ⟨_, _, H.get, step6⟩
  | join l kd now i ps =>
    simp only [tree] at H
    exact ⟨_, _, (Sep.star.mp H).get, join6⟩
section
variable {T : Tab} {C : Ctx} {k : Nat}
/-- an attribute of a name -/
theorem ev_fld {i l c f : Nat} {fs : List (Nat × Val)} {v : Val} {en : Env} {s : Sto} (g : en[i]? = some (some (.loc l))) (h : s[l]? = some (.inst c fs)) (hf : fs.lookup f = some v) : ev C (.fld (.var i) f) en s = some (.ok v, s) := by
  simp only [ev, g, ok, bnd, h, hf, pur]
theorem ev_fld2 {e : Ex} {l c f : Nat} {fs : List (Nat × Val)} {v : Val} {en : Env} {s : Sto} (g : ev C e en s = some (.ok (.loc l), s)) (h : s[l]? = some (.inst c fs)) (hf : fs.lookup f = some v) : ev C (.fld e f) en s = some (.ok v, s) := by
  rw [ev, g]
  simp only [ok, bnd, h, hf, pur]
/-- an attribute is set -/
theorem w_put {i l c f : Nat} {fs : List (Nat × Val)} {v : Val} {e : Ex} {en : Env} {s : Sto} {r : List Stm} {Q : SR → Env → Sto → Prop} (g : en[i]? = some (some (.loc l))) (h : s[l]? = some (.inst c fs)) (he : ev C e en s = some (.ok v, s)) (hl : fs.length < 900)
    (q : WpS (execs C r en (s.set l (.inst c (putF f v fs)))) Q) : WpS (execs C (.asgF (.var i) f e :: r) en s) Q := by
  refine w_asgF ⟨v, s, he, .loc l, s, by simp only [ev, g, ok], l, c, fs, rfl, h, hl, q⟩
/-- a test of two values -/
theorem ev_eq {a : Ex} {x y : Val} {b : Bool} {en : Env} {s : Sto} (ha : ev C a en s = some (.ok x, s)) (h : eqV s x y = some b) : ev C (.cmp .eq a (.cst y)) en s = some (.ok (.bl b), s) := by
  rw [ev, ha]
  simp only [bnd, ev, ok, pur, cmpV, h, Option.map_some]
theorem w_ifE {c : Ex} {a b : List Stm} {r : List Stm} {en : Env} {s : Sto} {Q : SR → Env → Sto → Prop} {v : Bool} (h : ev C c en s = some (.ok (.bl v), s)) (h1 : v = true → WpS (execs C (a ++ r) en s) Q) (h2 : v = false → WpS (execs C (b ++ r) en s) Q) : WpS (execs C (.ifS c a b :: r) en s) Q :=
  w_if ⟨.bl v, s, h, v, rfl, h1, h2⟩
/-! ### arguments -/
theorem evs_one {e : Ex} {v : Val} {en : Env} {s s' : Sto} (h : ev C e en s = some (.ok v, s')) : evs C [e] en s = some (.ok [v], s') := by
  simp only [evs, h, bnd, ok]
theorem evs_two {e e2 : Ex} {v v2 : Val} {en : Env} {s s1 s2 : Sto} (h : ev C e en s = some (.ok v, s1)) (h2 : ev C e2 en s1 = some (.ok v2, s2)) : evs C [e, e2] en s = some (.ok [v, v2], s2) := by
  simp only [evs, h, h2, bnd, ok]
theorem ev_bm1 {b : BM} {o a : Ex} {x y v : Val} {en : Env} {s s1 s2 s' : Sto} (h1 : ev C o en s = some (.ok x, s1)) (ty : bmTy b x s1 = true) (h2 : ev C a en s1 = some (.ok y, s2)) (h4 : bmV b x [y] s2 = some (v, s')) : ev C (.bm b o [a]) en s = some (.ok v, s') := by
  simp only [ev, evs, h1, h2, bnd, ok, ty, if_true, h4, lift]
theorem ev_bi1 {b : BI} {m : Bool} {e : Ex} {v u : Val} {en : Env} {s s1 s' : Sto} (h : ev C e en s = some (.ok v, s1)) (hv : biV b m [v] s1 = some (u, s')) : ev C (.bi b m [e]) en s = some (.ok u, s') := by
  simp only [ev, evs, h, bnd, ok, hv, lift]
/-! ### one part after the other -/
theorem walk_parts {l i : Nat} {kd : Kd} {now : Nw} {at_ : Int} {ls : List Nat} {en : Env} {s : Sto} (g : en[i]? = some (some (.loc l))) (h : s[l]? = some (.inst kd.cls (joinV now at_ ls))) : evi C (.val (.fld (.var i) 8)) en s = some (.ok (ls.map .loc, none), s) := by
  rw [evi, ev_fld g h join8]
  simp only [bnd, pur, walkV, ok]
theorem set_parts {r : Nat} {X Y : Asn} {A B : List PT} {p q : PT} {F : List Asn} {Y' : Asn} : ((X :: Y :: (trees r (A ++ p :: B) ++ F)).set (A.length + 2) (tree r q)).set 1 Y' = X :: Y' :: (trees r (A ++ [q] ++ B) ++ F) := by
  simp only [List.set_cons_succ, List.set_cons_zero, trees_map, List.map_append, List.map_cons, List.map_nil, List.append_assoc, List.cons_append, List.nil_append, List.cons.injEq, true_and]
  rw [List.set_append_right _ _ (by simp)]
  simp
theorem at_parts {r : Nat} {X Y : Asn} {A B : List PT} {p : PT} {F : List Asn} : (X :: Y :: (trees r (A ++ p :: B) ++ F))[A.length + 2]? = some (tree r p) := by
  simp only [List.getElem?_cons_succ, trees_map, List.map_append, List.map_cons, List.append_assoc, List.cons_append]
  rw [List.getElem?_append_right (by simp)]
  simp
theorem each_ok {m l : Nat} {kd : Kd} {now : Nw} {at_ : Int} {ps : List PT} {ls : List Nat} {R : Rc} {F : List Asn} {f : PT → PT × List Txt} {s : Sto} {o : Option Val} {rest : List Stm} {Q : SR → Env → Sto → Prop} (b : Nat) (hT : C.T = T) (hc : C.call = callN T k) (hls : ls = ps.map PT.l) (hb : R.rests.length + (eachF f ps).2.length < b)
    (spec : ∀ p ∈ ps, ∀ {s : Sto} {R : Rc} {F : List Asn}, R.rests.length + (f p).2.length < b → Sep s (tree R.r p :: R.A :: F) → Wp (mcall T k m p.l [] s) fun v s' => v = .non ∧ Sep s' (tree R.r (f p).1 :: (R.more (f p).2).A :: F))
    (H : Sep s (cell l (joinO kd now at_ ls) :: R.A :: (trees R.r ps ++ F))) (q : ∀ s' o', Sep s' (cell l (joinO kd now at_ ls) :: (R.more (eachF f ps).2).A :: (trees R.r (eachF f ps).1 ++ F)) → WpS (execs C rest [some (.loc l), o'] s') Q) :
    WpS (execs C (.forS (.name 1) (.val (.fld (.var 0) 8)) [(.expr (.meth m (.var 1) []))] :: rest) [some (.loc l), o] s) Q := by
  have e : s[l]? = some (.inst kd.cls (joinV now at_ ls)) := H.get
  refine w_forE (fun i en s' => ∃ o', en = [some (.loc l), o'] ∧ Sep s' (cell l (joinO kd now at_ ls) :: (R.more (((ps.take i).map fun p => (f p).2).flatten)).A :: (trees R.r ((ps.take i).map (fun p => (f p).1) ++ ps.drop i) ++ F))) (walk_parts rfl e) ⟨o, rfl, ?_⟩ (fun _ _ _ _ => rfl) ?_ ?_
  · simpa [Rc.more_nil] using H
  · rintro i v en s1 hv ⟨o', rfl, H1⟩
    have hv : (ls.map Val.loc)[i]? = some v := hv
    rw [hls, List.map_map, List.getElem?_map, Option.map_eq_some_iff] at hv
    obtain ⟨p, hp, rfl⟩ := hv
    have hlt := (List.getElem?_eq_some_iff.mp hp).1
    have hd : ps.drop i = p :: ps.drop (i + 1) := by
      rw [List.drop_eq_getElem_cons hlt]
      congr 1
      exact (List.getElem?_eq_some_iff.mp hp).2
    rw [hd] at H1
    have hlen : ((ps.take i).map fun p => (f p).1).length = i := by simp; omega
    obtain ⟨F1, H2, back⟩ := H1.two (n := ((ps.take i).map fun p => (f p).1).length + 2) (m := 1) at_parts rfl (by omega)
    refine ⟨_, rfl, ?_⟩
    have hb2 : (R.more (((ps.take i).map fun p => (f p).2).flatten)).rests.length + (f p).2.length < b := by
      have e3 : (eachF f ps).2 = ((ps.take i).map fun p => (f p).2).flatten ++ ((f p).2 ++ ((ps.drop (i + 1)).map fun p => (f p).2).flatten) := by
        show (ps.map fun p => (f p).2).flatten = _
        rw [← List.flatten_cons, ← List.flatten_append]
        congr 1
        have : ps = ps.take i ++ p :: ps.drop (i + 1) := by rw [← hd, List.take_append_drop]
        conv => lhs; rw [this]
        simp
      rw [e3] at hb
      simp only [Rc.more, List.length_append] at hb ⊢
      omega
    obtain ⟨v, s2, e2, rfl, H3⟩ := spec p (List.mem_of_getElem? hp) (R := R.more (((ps.take i).map fun p => (f p).2).flatten)) hb2 H2
    have H4 := back H3
    have hr : ∀ ns, (R.more ns).r = R.r := fun _ => rfl
    rw [hr, set_parts] at H4
    refine w_expr ⟨.non, s2, ?_, w_nil ⟨_, rfl, ?_⟩⟩
    · rw [ev_meth hT hc (l := p.l)]
      · exact e2
      · simp only [ev, List.set_cons_succ, List.set_cons_zero, List.getElem?_cons_succ, List.getElem?_cons_zero, ok, Function.comp]
    · rw [List.take_add_one, hp]
      simp only [Option.toList_some, List.map_append, List.map_cons, List.map_nil, List.flatten_append, List.flatten_cons, List.flatten_nil, List.append_nil, Rc.more_more] at H4 ⊢
      exact H4
  · rintro en s1 ⟨o', rfl, H1⟩
    have hl : (ls.map Val.loc).length = ps.length := by simp [hls]
    refine q s1 o' ?_
    have e1 : ((ls.map Val.loc, none) : Walk).1.length = ps.length := hl
    rw [e1, List.take_length, List.drop_length, List.append_nil] at H1
    exact H1
theorem begin_l (n : Nat) (p : PT) : (beginF n p).l = p.l := by
  cases p with
  | step => cases n <;> rfl
  | join _ kd' => cases n with
    | zero => rfl
    | succ n => cases kd' <;> rfl
/-! ### begin -/
theorem begin_ok (N : HasNd T) : ∀ (n : Nat) {t : PT} {R : Rc} {s : Sto} {F : List Asn} {k : Nat}, okT n t → Sep s (tree R.r t :: R.A :: F) → Wp (mcall T (k + n) 2 t.l [] s) fun v s' => v = .non ∧ Sep s' (tree R.r (beginF n t) :: R.A :: F)
  | n, .step l mk nm now off, R, s, F, k, ht, H => by
    have hn := okT_pos ht
    obtain ⟨n, rfl⟩ : ∃ m, n = m + 1 := ⟨n - 1, by omega⟩
    simp only [tree] at H
    have e : s[l]? = some (.inst 0 (stepV R.r mk nm now off)) := H.get
    show Wp (mcall T (k + n + 1) 2 l [] s) _
    rw [mcall_of e N.m02]
    refine wp_run N.c93 rfl (w_put (v := .str Nw.asked.txt) rfl e (by simp only [ev, ok]; rfl) (by rw [stepL]; decide) (w_nil ⟨rfl, ?_⟩))
    simp only [beginF, tree]
    exact H.set
  | 0, .join l kd now i ps, R, s, F, k, ht, H => by
    have := okT_pos ht
    omega
  | n + 1, .join l kd now i ps, R, s, F, k, ht, H => by
    simp only [okT] at ht
    obtain ⟨m, hm, hne, hi, hps⟩ := ht
    obtain rfl : n = m := by omega
    simp only [tree] at H
    have H1 : Sep s (cell l (joinO kd now i (ps.map PT.l)) :: (trees R.r ps ++ (R.A :: F))) := Sep.star.mp H
    have e : s[l]? = some (.inst kd.cls (joinV now i (ps.map PT.l))) := H1.get
    show Wp (mcall T (k + n + 1) 2 l [] s) _
    have swap : ∀ {s' : Sto} {X : Asn} {L : List PT} {A : Asn}, Sep s' (X :: (trees R.r L ++ (A :: F))) → Sep s' (X :: A :: (trees R.r L ++ F)) := fun h => h.perm (List.Perm.cons _ List.perm_middle)
    have swap' : ∀ {s' : Sto} {X : Asn} {L : List PT} {A : Asn}, Sep s' (X :: A :: (trees R.r L ++ F)) → Sep s' (X :: (trees R.r L ++ (A :: F))) := fun h => h.perm (List.Perm.cons _ List.perm_middle.symm)
    have first : ∀ (hk : kd ≠ .side), Wp (callN T (k + n + 1) 101 [.loc l] s) fun v s' => v = .non ∧ Sep s' (tree R.r (beginF (n + 1) (.join l kd now i ps)) :: R.A :: F) := fun hk => by
      refine wp_run N.c101 rfl (w_put (v := .str Nw.runs.txt) rfl e (by simp only [ev, ok]; rfl) (by rw [joinL]; decide) ?_)
      have H2 : Sep (s.set l (joinO kd .runs i (ps.map PT.l))) (cell l (joinO kd .runs i (ps.map PT.l)) :: R.A :: (trees R.r ps ++ F)) := swap H1.set
      change WpS (execs _ _ _ (s.set l (joinO kd .runs i (ps.map PT.l)))) _
      generalize s.set l (joinO kd .runs i (ps.map PT.l)) = s1 at H2
      have e1 : s1[l]? = some (.inst kd.cls (joinV .runs i (ps.map PT.l))) := H2.get
      cases ps with
      | nil => exact absurd rfl hne.1
      | cons p ps =>
        obtain ⟨F1, H3, back⟩ := H2.two (n := 2) (m := 1) (A := tree R.r p) (B := R.A) rfl rfl (by decide)
        obtain ⟨v, s2, e2, rfl, H4⟩ := begin_ok N n (k := k) (okTs_iff.mp hps p List.mem_cons_self) H3
        have H5 := swap' (L := beginF n p :: ps) (show Sep s2 (cell l (joinO kd .runs i ((p :: ps).map PT.l)) :: R.A :: (trees R.r (beginF n p :: ps) ++ F)) from back H4)
        refine w_expr ⟨.non, s2, ?_, w_nil ⟨rfl, ?_⟩⟩
        · rw [ev_meth (T := T) (k := k + n) rfl rfl (l := p.l)]
          · exact e2
          · rw [ev, ev_fld (l := l) rfl e1 join8]
            simp only [bnd, ev, ok, itemV, seqOf, lstOf, Option.bind_some, List.map_cons, atI_zero, pur]
        · have eb : beginF (n + 1) (.join l kd now i (p :: ps)) = .join l kd .runs i (beginF n p :: ps) := by
            cases kd <;> first | rfl | exact absurd rfl hk
          have el := begin_l n p
          rw [eb]
          simp only [tree]
          refine Sep.star.mpr ?_
          simp only [List.map_cons, el] at H5 ⊢
          exact H5
    cases kd with
    | row => rw [mcall_of e (N.j2 .row)]; exact first (by decide)
    | els => rw [mcall_of e (N.j2 .els)]; exact first (by decide)
    | side =>
      rw [mcall_of e (N.j2 .side)]
      refine wp_run N.c108 rfl (w_put (v := .str Nw.runs.txt) rfl e (by simp only [ev, ok]; rfl) (by rw [joinL]; decide) ?_)
      have H2 : Sep (s.set l (joinO .side .runs i (ps.map PT.l))) (cell l (joinO .side .runs i (ps.map PT.l)) :: R.A :: (trees R.r ps ++ F)) := swap H1.set
      change WpS (execs _ _ _ (s.set l (joinO .side .runs i (ps.map PT.l)))) _
      generalize s.set l (joinO .side .runs i (ps.map PT.l)) = s1 at H2
      have hb0 : R.rests.length + (eachF (fun p => (beginF n p, ([] : List Txt))) ps).2.length < R.rests.length + 1 := by
        have e0 : (eachF (fun p => (beginF n p, ([] : List Txt))) ps).2 = [] := by simp [eachF]
        rw [e0]
        simp
      refine each_ok (T := T) (k := k + n) (f := fun p => (beginF n p, [])) (R.rests.length + 1) rfl rfl rfl hb0 (fun p hp => fun {s R F} _ h => (begin_ok N n (k := k) (okTs_iff.mp hps p hp) h).imp fun v s' q => by rw [Rc.more_nil]; exact q) H2 fun s' o' H3 => w_nil ⟨rfl, ?_⟩
      have eb : beginF (n + 1) (.join l .side now i ps) = .join l .side .runs i (ps.map (beginF n)) := rfl
      rw [eb]
      simp only [tree]
      refine Sep.star.mpr ?_
      have el : (ps.map (beginF n)).map PT.l = ps.map PT.l := by rw [List.map_map]; exact List.map_congr_left fun p _ => begin_l n p
      rw [el]
      have : (eachF (fun p => (beginF n p, ([] : List Txt))) ps).2 = [] := by simp [eachF]
      rw [this, Rc.more_nil] at H3
      exact swap' H3
end
end Lw
end
section
set_option Elab.async false
set_option linter.all false
set_option autoImplicit false
set_option maxRecDepth 100000
set_option maxHeartbeats 1000000
/-! What the parts keep as they go: places, depth. -/
namespace Lw
open Ab
theorem okT_join {n l : Nat} {kd : Kd} {now : Nw} {i : Int} {ps : List PT} : okT (n + 1) (.join l kd now i ps) ↔ (ps ≠ [] ∧ ps.length < 1000) ∧ ((now = .gone ∨ (0 ≤ i ∧ i < ps.length)) ∧ after kd now i ps) ∧ ∀ p ∈ ps, okT n p := by
  simp only [okT, okTs_iff]
  constructor
  · rintro ⟨m, hm, h1, h2, h3⟩
    obtain rfl : n = m := by omega
    exact ⟨h1, h2, h3⟩
  · rintro ⟨h1, h2, h3⟩
    exact ⟨n, rfl, h1, h2, h3⟩
theorem okT_zero {t : PT} (h : okT 0 t) : False := by
  have := okT_pos h
  omega
theorem fresh_join {l : Nat} {kd : Kd} {now : Nw} {i : Int} {ps : List PT} : fresh (.join l kd now i ps) ↔ now = .waits ∧ i = 0 ∧ ∀ p ∈ ps, fresh p := by simp only [fresh, freshs_iff]
theorem fresh_now {t : PT} (h : fresh t) : t.now = .waits := by
  cases t with
  | step => simp only [fresh] at h; exact h.1
  | join => simp only [fresh] at h; exact h.1
/-- a list's map that changes nothing -/
theorem map_same {α : Type} {f : α → α} {l : List α} (h : ∀ x ∈ l, f x = x) : l.map f = l := by
  induction l with
  | nil => rfl
  | cons x l ih => rw [List.map_cons, h x List.mem_cons_self, ih fun y hy => h y (List.mem_cons_of_mem _ hy)]
theorem fresh_settle : ∀ (n : Nat) {t : PT}, fresh t → settleF n t = (t, [])
  | n, .step l mk nm now off, h => by cases n <;> rfl
  | 0, .join l kd now i ps, h => rfl
  | n + 1, .join l kd now i ps, h => by
    obtain ⟨rfl, rfl, hp⟩ := fresh_join.mp h
    have e : eachF (settleF n) ps = (ps, []) := by
      unfold eachF
      rw [map_same fun p h1 => by rw [fresh_settle n (hp p h1)]]
      have : (ps.map fun p => (settleF n p).2).flatten = [] := by
        rw [List.flatten_eq_nil_iff]
        intro l hl
        obtain ⟨p, h1, rfl⟩ := List.mem_map.mp hl
        rw [fresh_settle n (hp p h1)]
      rw [this]
    simp only [settleF, e]
    rfl
theorem map_l {f : PT → PT} {ps : List PT} (h : ∀ p ∈ ps, (f p).l = p.l) : (ps.map f).map PT.l = ps.map PT.l := by
  rw [List.map_map]
  exact List.map_congr_left fun p h1 => h p h1
theorem set_l {i : Nat} {ps : List PT} {p q : PT} (e : ps[i]? = some p) (h : q.l = p.l) : (ps.set i q).map PT.l = ps.map PT.l := by
  rw [List.map_set, h]
  apply List.ext_getElem?
  intro j
  by_cases c : i = j
  · subst c
    have hi : i < (ps.map PT.l).length := by simpa using (List.getElem?_eq_some_iff.mp e).1
    rw [List.getElem?_set_self hi, List.getElem?_map, e]
    rfl
  · rw [List.getElem?_set_ne c]
theorem set_all {P : PT → Prop} {i : Nat} {ps : List PT} {q : PT} (h : ∀ p ∈ ps, P p) (hq : P q) : ∀ p ∈ ps.set i q, P p := fun p hp => by
  rcases List.mem_or_eq_of_mem_set hp with z | rfl
  · exact h p z
  · exact hq
/-- begun -/
theorem ok_begin : ∀ (n : Nat) {t : PT}, okT n t → fresh t → okT n (beginF n t) ∧ (beginF n t).l = t.l
  | 0, t, h, _ => (okT_zero h).elim
  | n + 1, .step l mk nm now off, h, _ => ⟨by simpa [okT, beginF] using h, rfl⟩
  | n + 1, .join l kd now i ps, h, hf => by
    obtain ⟨h1, ⟨h2, _⟩, h3⟩ := okT_join.mp h
    obtain ⟨rfl, rfl, hp⟩ := fresh_join.mp hf
    have hl : 0 < ps.length := List.length_pos_iff.mpr h1.1
    cases kd with
    | side =>
      refine ⟨okT_join.mpr ⟨by simpa using h1, ⟨.inr ⟨by omega, by simp; omega⟩, ⟨fun z => (by cases z), fun _ z => absurd rfl z⟩⟩, fun q hq => ?_⟩, rfl⟩
      obtain ⟨p, hp1, rfl⟩ := List.mem_map.mp hq
      exact (ok_begin n (h3 p hp1) (hp p hp1)).1
    | row =>
      cases ps with
      | nil => exact absurd rfl h1.1
      | cons p ps =>
        refine ⟨okT_join.mpr ⟨⟨by simp, by simpa using h1.2⟩, ⟨.inr ⟨by omega, by simp⟩, ⟨fun z => (by cases z), fun _ _ j q hj hq => ?_⟩⟩, fun q hq => ?_⟩, rfl⟩
        · cases j with
          | zero => omega
          | succ j => exact hp q (List.mem_cons_of_mem _ (List.mem_of_getElem? (by simpa using hq)))
        · rcases List.mem_cons.mp hq with rfl | z
          · exact (ok_begin n (h3 p List.mem_cons_self) (hp p List.mem_cons_self)).1
          · exact h3 q (List.mem_cons_of_mem _ z)
    | els =>
      cases ps with
      | nil => exact absurd rfl h1.1
      | cons p ps =>
        refine ⟨okT_join.mpr ⟨⟨by simp, by simpa using h1.2⟩, ⟨.inr ⟨by omega, by simp⟩, ⟨fun z => (by cases z), fun _ _ j q hj hq => ?_⟩⟩, fun q hq => ?_⟩, rfl⟩
        · cases j with
          | zero => omega
          | succ j => exact hp q (List.mem_cons_of_mem _ (List.mem_of_getElem? (by simpa using hq)))
        · rcases List.mem_cons.mp hq with rfl | z
          · exact (ok_begin n (h3 p List.mem_cons_self) (hp p List.mem_cons_self)).1
          · exact h3 q (List.mem_cons_of_mem _ z)
/-- S keeps what a join must keep -/
def Good (n : Nat) (S : PT → PT × List Txt) : Prop := ∀ t, okT n t → okT n (S t).1 ∧ (S t).1.l = t.l
theorem ok_off {n : Nat} {S : PT → PT × List Txt} (h : Good n S) : Good n (offF S) := by
  intro t ht
  cases t with
  | step l mk nm now off =>
    have h1 : 1 ≤ n := okT_pos ht
    cases now <;> first
      | (cases mk <;> exact ⟨by simpa [okT, offF, leaveF] using h1, rfl⟩)
      | exact ⟨by simpa [okT, offF] using h1, rfl⟩
  | join l kd now i ps =>
    obtain ⟨m, rfl⟩ : ∃ m, n = m + 1 := ⟨n - 1, by have := okT_pos ht; omega⟩
    obtain ⟨h1, ⟨h2, h4⟩, h3⟩ := okT_join.mp ht
    have lv : ∀ hn : now ≠ .gone, okT (m + 1) (.join l kd .leaves i ps) := fun hn => okT_join.mpr ⟨h1, ⟨.inr (h2.resolve_left hn), ⟨fun z => (by cases z), fun z => (by cases z)⟩⟩, h3⟩
    cases now with
    | waits => exact ⟨okT_join.mpr ⟨h1, ⟨.inl rfl, ⟨fun z => (by cases z), fun z => (by cases z)⟩⟩, h3⟩, rfl⟩
    | runs => exact h _ (lv (by decide))
    | done => exact h _ (lv (by decide))
    | _ => exact ⟨ht, rfl⟩
/-- the parts that follow place i wait -/
def Wt (i : Nat) (ps : List PT) : Prop := ∀ (j : Nat) p, i < j → ps[j]? = some p → fresh p
theorem on_keeps {n : Nat} {d : Nw} {step : Nat → Nat → List PT → Nat × List PT} (hs : ∀ m i ps, step (m + 1) i ps = match ps[i]?, ps[i + 1]? with
    | some p, some q => if p.now = d then step m (i + 1) (ps.set (i + 1) (beginF n q)) else (i, ps)
    | _, _ => (i, ps)) (h0 : ∀ i ps, step 0 i ps = (i, ps)) : ∀ (m i : Nat) (ps : List PT), i < ps.length → (∀ p ∈ ps, okT n p) → Wt i ps →
    (step m i ps).1 < (step m i ps).2.length ∧ (∀ p ∈ (step m i ps).2, okT n p) ∧ Wt (step m i ps).1 (step m i ps).2 ∧ (step m i ps).2.map PT.l = ps.map PT.l
  | 0, i, ps, hi, ho, hw => by rw [h0]; exact ⟨hi, ho, hw, rfl⟩
  | m + 1, i, ps, hi, ho, hw => by
    rw [hs]
    split
    · rename_i p q e1 e2
      split
      · have fq := hw (i + 1) q (by omega) e2
        have oq := ok_begin n (ho q (List.mem_of_getElem? e2)) fq
        have hl : (ps.set (i + 1) (beginF n q)).map PT.l = ps.map PT.l := set_l e2 oq.2
        obtain ⟨a1, a2, a3, a4⟩ := on_keeps hs h0 m (i + 1) (ps.set (i + 1) (beginF n q)) (by simp; exact (List.getElem?_eq_some_iff.mp e2).1) (set_all ho oq.1) (fun j p hj hp => by
          rw [List.getElem?_set_ne (by omega)] at hp
          exact hw j p (by omega) hp)
        exact ⟨a1, a2, a3, a4.trans hl⟩
      · exact ⟨hi, ho, hw, rfl⟩
    · exact ⟨hi, ho, hw, rfl⟩
theorem row_keeps {n m i : Nat} {ps : List PT} (hi : i < ps.length) (ho : ∀ p ∈ ps, okT n p) (hw : Wt i ps) : (rowOn (beginF n) m i ps).1 < (rowOn (beginF n) m i ps).2.length ∧ (∀ p ∈ (rowOn (beginF n) m i ps).2, okT n p) ∧ Wt (rowOn (beginF n) m i ps).1 (rowOn (beginF n) m i ps).2 ∧ (rowOn (beginF n) m i ps).2.map PT.l = ps.map PT.l :=
  on_keeps (d := .done) (fun _ _ _ => rfl) (fun _ _ => rfl) m i ps hi ho hw
theorem els_keeps {n m i : Nat} {ps : List PT} (hi : i < ps.length) (ho : ∀ p ∈ ps, okT n p) (hw : Wt i ps) : (elsOn (beginF n) m i ps).1 < (elsOn (beginF n) m i ps).2.length ∧ (∀ p ∈ (elsOn (beginF n) m i ps).2, okT n p) ∧ Wt (elsOn (beginF n) m i ps).1 (elsOn (beginF n) m i ps).2 ∧ (elsOn (beginF n) m i ps).2.map PT.l = ps.map PT.l :=
  on_keeps (d := .gone) (fun _ _ _ => rfl) (fun _ _ => rfl) m i ps hi ho hw
/-- a state of a join -/
structure JOk (n : Nat) (kd : Kd) (now : Nw) (i : Int) (ps : List PT) (ls : List Nat) : Prop where
  ne : ps ≠ [] ∧ ps.length < 1000
  at_ : now = .gone ∨ (0 ≤ i ∧ i < ps.length)
  aft : after kd now i ps
  ok : ∀ p ∈ ps, okT n p
  l : ps.map PT.l = ls
theorem len_l {ps qs : List PT} (h : qs.map PT.l = ps.map PT.l) : qs.length = ps.length := by
  have := congrArg List.length h
  simpa using this
theorem ne_len {ps qs : List PT} (h : qs.length = ps.length) (hn : ps ≠ [] ∧ ps.length < 1000) : qs ≠ [] ∧ qs.length < 1000 := by
  refine ⟨fun z => ?_, by omega⟩
  subst z
  exact hn.1 (List.length_eq_zero_iff.mp h.symm)
theorem ok_goOn {n : Nat} {kd : Kd} {i : Nat} {ps : List PT} {ls : List Nat} (h : JOk n kd .runs (i : Nat) ps ls) : JOk n kd (goOn (beginF n) kd i ps).1 ((goOn (beginF n) kd i ps).2.1 : Nat) (goOn (beginF n) kd i ps).2.2 ls := by
  obtain ⟨h1, h2, h3, h4, h5⟩ := h
  have hi : i < ps.length := by
    rcases h2 with z | z
    · cases z
    · omega
  have after_of : ∀ {kd : Kd} {w : Nw} {j : Nat} {qs : List PT}, w ≠ .waits → (w = .runs → kd ≠ .side → Wt j qs) → after kd w (j : Nat) qs := fun h1 h2 => ⟨fun z => absurd z h1, fun z k j' p hj hp => h2 z k j' p (by omega) hp⟩
  cases kd with
  | row =>
    obtain ⟨a1, a2, a3, a4⟩ := row_keeps (m := ps.length) hi h4 (fun j p hj hp => h3.2 rfl (by decide) j p (by omega) hp)
    refine ⟨ne_len (len_l a4) h1, .inr ⟨by omega, by simp only [goOn]; omega⟩, after_of ?_ fun _ _ => a3, a2, a4.trans h5⟩
    simp only [goOn]
    split
    · decide
    · split <;> decide
  | side =>
    refine ⟨h1, .inr ⟨by omega, by simp only [goOn]; omega⟩, after_of ?_ fun _ z => absurd rfl z, h4, h5⟩
    simp only [goOn]
    split
    · decide
    · split <;> decide
  | els =>
    obtain ⟨a1, a2, a3, a4⟩ := els_keeps (m := ps.length) hi h4 (fun j p hj hp => h3.2 rfl (by decide) j p (by omega) hp)
    refine ⟨ne_len (len_l a4) h1, .inr ⟨by omega, by simp only [goOn]; omega⟩, after_of ?_ fun _ _ => a3, a2, a4.trans h5⟩
    simp only [goOn]
    split
    · decide
    · split <;> decide
theorem ok_each {n : Nat} {f : PT → PT × List Txt} (h : Good n f) {ps : List PT} (ho : ∀ p ∈ ps, okT n p) : (∀ p ∈ (eachF f ps).1, okT n p) ∧ (eachF f ps).1.map PT.l = ps.map PT.l := by
  refine ⟨fun q hq => ?_, map_l fun p hp => (h p (ho p hp)).2⟩
  obtain ⟨p, h1, rfl⟩ := List.mem_map.mp hq
  exact (h p (ho p h1)).1
theorem ok_rowBack {n : Nat} {C : PT → PT × List Txt} (h : Good n C) : ∀ (j : Nat) {ps : List PT}, j ≤ ps.length → (∀ p ∈ ps, okT n p) → (∀ p ∈ (rowBack C j ps).2.2.1, okT n p) ∧ (rowBack C j ps).2.2.1.map PT.l = ps.map PT.l ∧ ((rowBack C j ps).1 = .gone ∨ ((rowBack C j ps).1 = .leaves ∧ 0 ≤ (rowBack C j ps).2.1 ∧ (rowBack C j ps).2.1 < ps.length))
  | 0, ps, hj, ho => ⟨ho, rfl, .inl rfl⟩
  | j + 1, ps, hj, ho => by
    have hj' : j < ps.length := hj
    have e : ps[j]? = some ps[j] := List.getElem?_eq_getElem hj'
    have hm := List.getElem_mem hj'
    obtain ⟨k1, k2⟩ := h ps[j] (ho _ hm)
    simp only [rowBack, e]
    split
    · obtain ⟨a1, a2, a3⟩ := ok_rowBack h j (ps := ps.set j (C ps[j]).1) (by simp; omega) (set_all ho k1)
      exact ⟨a1, a2.trans (set_l e k2), by simpa using a3⟩
    · exact ⟨set_all ho k1, set_l e k2, .inr ⟨rfl, by show (0 : Int) ≤ (j : Nat); omega, by show ((j : Nat) : Int) < _; omega⟩⟩
theorem ok_goBack {n : Nat} {kd : Kd} {i : Nat} {ps : List PT} {ls : List Nat} {C : PT → PT × List Txt} (hC : Good n C) (h : JOk n kd .leaves (i : Nat) ps ls) : JOk n kd (goBack C kd i ps).1 (goBack C kd i ps).2.1 (goBack C kd i ps).2.2.1 ls := by
  obtain ⟨h1, h2, h3, h4, h5⟩ := h
  have hi : i < ps.length := by
    rcases h2 with z | z
    · cases z
    · omega
  have aft : ∀ {w : Nw} {j : Int} {qs : List PT}, w ≠ .waits → w ≠ .runs → after kd w j qs := fun a b => ⟨fun z => absurd z a, fun z => absurd z b⟩
  cases kd with
  | row =>
    obtain ⟨a1, a2, a3⟩ := ok_rowBack hC (i + 1) (ps := ps) (by omega) h4
    refine ⟨ne_len (len_l a2) h1, ?_, ?_, a1, a2.trans h5⟩
    · rcases a3 with z | ⟨z, y⟩
      · exact .inl z
      · refine .inr ?_
        have := len_l a2
        simp only [goBack]
        omega
    · rcases a3 with z | ⟨z, y⟩
      · exact aft (by simp only [goBack]; rw [z]; decide) (by simp only [goBack]; rw [z]; decide)
      · exact aft (by simp only [goBack]; rw [z]; decide) (by simp only [goBack]; rw [z]; decide)
  | side =>
    obtain ⟨a1, a2⟩ := ok_each hC h4
    refine ⟨ne_len (len_l a2) h1, .inr ⟨by simp only [goBack]; omega, ?_⟩, ?_, a1, a2.trans h5⟩
    · have := len_l a2
      simp only [goBack]
      omega
    · refine aft ?_ ?_ <;> (simp only [goBack]; split <;> decide)
  | els =>
    have e : ps[i]? = some ps[i] := List.getElem?_eq_getElem hi
    obtain ⟨k1, k2⟩ := hC ps[i] (h4 _ (List.getElem_mem hi))
    simp only [goBack, e]
    refine ⟨ne_len (by simp) h1, .inr ⟨by omega, by simp; omega⟩, ?_, set_all h4 k1, (set_l e k2).trans h5⟩
    refine aft ?_ ?_ <;> (split <;> decide)
theorem ok_settle : ∀ (n : Nat), Good n (settleF n)
  | 0, t, h => (okT_zero h).elim
  | n + 1, .step l mk nm now off, h => ⟨h, rfl⟩
  | n + 1, .join l kd now i ps, h => by
    obtain ⟨h1, ⟨h2, h4⟩, h3⟩ := okT_join.mp h
    have ih := ok_settle n
    obtain ⟨a1, a2⟩ := ok_each ih h3
    have e0 : (eachF (settleF n) ps).1.length = ps.length := by simp [eachF]
    have J0 : JOk n kd now i (eachF (settleF n) ps).1 (ps.map PT.l) := by
      refine ⟨ne_len e0 h1, ?_, ⟨fun z => ⟨(h4.1 z).1, fun q hq => ?_⟩, fun z k j q hj hq => ?_⟩, a1, a2⟩
      · rw [e0]; exact h2
      · obtain ⟨p, hp, rfl⟩ := List.mem_map.mp hq
        have fp := (h4.1 z).2 p hp
        rw [fresh_settle n fp]
        exact fp
      · have hq : (ps.map fun p => (settleF n p).1)[j]? = some q := hq
        rw [List.getElem?_map, Option.map_eq_some_iff] at hq
        obtain ⟨p, hp, rfl⟩ := hq
        have fp := h4.2 z k j p hj hp
        rw [fresh_settle n fp]
        exact fp
    have J1 : JOk n kd (on1 (beginF n) kd now i (eachF (settleF n) ps).1).1 (on1 (beginF n) kd now i (eachF (settleF n) ps).1).2.1 (on1 (beginF n) kd now i (eachF (settleF n) ps).1).2.2 (ps.map PT.l) := by
      unfold on1
      split
      · rename_i hr
        subst hr
        have hi : 0 ≤ i := by
          rcases h2 with z | z
          · cases z
          · exact z.1
        have := J0
        rw [show i = ((i.toNat : Nat) : Int) by omega] at this
        exact ok_goOn this
      · exact J0
    simp only [settleF]
    generalize on1 (beginF n) kd now i (eachF (settleF n) ps).1 = b at J1 ⊢
    have J2 : JOk n kd (back1 (offF (settleF n)) kd b.1 b.2.1 b.2.2).1 (back1 (offF (settleF n)) kd b.1 b.2.1 b.2.2).2.1 (back1 (offF (settleF n)) kd b.1 b.2.1 b.2.2).2.2.1 (ps.map PT.l) := by
      unfold back1
      split
      · rename_i hr
        have := J1
        rw [hr] at this
        have hi : 0 ≤ b.2.1 := by
          rcases this.at_ with z | z
          · cases z
          · exact z.1
        rw [show b.2.1 = ((b.2.1.toNat : Nat) : Int) by omega] at this
        exact ok_goBack (ok_off ih) this
      · exact J1
    exact ⟨okT_join.mpr ⟨J2.ne, ⟨J2.at_, J2.aft⟩, J2.ok⟩, rfl⟩
end Lw
end
section
set_option Elab.async false
set_option linter.all false
set_option autoImplicit false
set_option maxRecDepth 100000
set_option maxHeartbeats 1000000
/-! Settling, calling off: the methods do what Nd says. -/
namespace Lw
open Ab
variable {T : Tab} {C : Ctx} {k : Nat}
/-- rests that a list holds -/
abbrev Few (R : Rc) (ns : List Txt) : Prop := R.rests.length + ns.length < 90000
theorem eq_mk {s : Sto} {mk : Mk} : eqV s (.str mk.txt) (.str [98, 97, 99, 107]) = some (decide (mk = .back)) := by
  have : eqV s (.str mk.txt) (.str [98, 97, 99, 107]) = some (mk.txt == Mk.back.txt) := rfl
  rw [this]
  by_cases c : mk = .back
  · subst c; simp
  · have : mk.txt ≠ Mk.back.txt := fun z => c (Mk.inj.mp z)
    simp [c, this]
theorem leave_ok (N : HasNd T) {l : Nat} {mk : Mk} {nm : Txt} {now : Nw} {off : Bool} {R : Rc} {s : Sto} {F : List Asn} (hf : Few R (leaveF l mk nm off).2) (H : Sep s (cell l (stepO R.r mk nm now off) :: R.A :: F)) :
    Wp (callN T (k + 1) 95 [.loc l] s) fun v s' => v = .non ∧ Sep s' (tree R.r (leaveF l mk nm off).1 :: (R.more (leaveF l mk nm off).2).A :: F) := by
  have e : s[l]? = some (.inst 0 (stepV R.r mk nm now off)) := H.get
  refine wp_run N.c95 rfl (w_ifE (v := decide (mk = .back)) (ev_eq (ev_fld rfl e step3) eq_mk) (fun c => ?_) fun c => ?_)
  · have c := of_decide_eq_true c
    subst c
    refine w_put (v := .str Nw.backing.txt) rfl e (by simp only [ev, ok]; rfl) (by rw [stepL]; decide) (w_nil ⟨rfl, ?_⟩)
    simp only [leaveF, tree, Rc.more_nil]
    exact H.set
  · have c := of_decide_eq_false c
    have el : leaveF l mk nm off = (.step l mk nm .gone off, [nm]) := by cases mk <;> first | rfl | exact absurd rfl c
    rw [el] at hf ⊢
    refine w_put (v := .str Nw.gone.txt) rfl e (by simp only [ev, ok]; rfl) (by rw [stepL]; decide) ?_
    have H1 : Sep (s.set l (stepO R.r mk nm .gone off)) (cell l (stepO R.r mk nm .gone off) :: R.A :: F) := H.set
    change WpS (execs _ _ _ (s.set l (stepO R.r mk nm .gone off))) _
    generalize s.set l (stepO R.r mk nm .gone off) = s1 at H1
    have e1 : s1[l]? = some (.inst 0 (stepV R.r mk nm .gone off)) := H1.get
    have H2 : Sep s1 (R.lists ++ (cell l (stepO R.r mk nm .gone off) :: F)) := Sep.star.mp (H1.perm (.swap ..))
    have er : s1[R.r]? = some (.inst 4 [(0, .loc R.k), (1, .loc R.q), (2, .loc R.d)]) := H2.get
    have eq : s1[R.q]? = some (.list (R.rests.map .str)) := H2.at (n := 2) rfl
    have hl : (R.rests.map Val.str).length < LIM := by
      simp only [List.length_map]
      simp [Few] at hf
      show _ < 100000
      omega
    refine w_expr ⟨.non, s1.set R.q (.list (R.rests.map .str ++ [.str nm])), ?_, w_nil ⟨rfl, ?_⟩⟩
    · have ty : bmTy .append (.loc R.q) s1 = true := by simp [bmTy, lstOf, eq]
      exact ev_bm1 (ev_fld2 (ev_fld rfl e1 step5) er rfl) ty (ev_fld rfl e1 step4) (by simp only [bmV, bmO, eq, hl, if_true])
    · have H3 := H2.put (n := 2) (o' := .list ((R.more [nm]).rests.map .str)) rfl
      have e3 : ((R.more [nm]).rests.map Val.str) = R.rests.map .str ++ [.str nm] := by simp [Rc.more]
      rw [e3] at H3
      simp only [tree]
      refine Sep.perm ((Sep.star (M := (R.more [nm]).lists)).mpr ?_) (.swap ..)
      show Sep _ ((R.more [nm]).lists ++ _)
      unfold Rc.lists
      rw [e3]
      exact H3
/-- a step is called off -/
theorem off_step (N : HasNd T) {S : PT → PT × List Txt} {l : Nat} {mk : Mk} {nm : Txt} {now : Nw} {off : Bool} {R : Rc} {s : Sto} {F : List Asn} (hf : Few R (offF S (.step l mk nm now off)).2) (H : Sep s (cell l (stepO R.r mk nm now off) :: R.A :: F)) :
    Wp (callN T (k + 2) 94 [.loc l] s) fun v s' => v = .non ∧ Sep s' (tree R.r (offF S (.step l mk nm now off)).1 :: (R.more (offF S (.step l mk nm now off)).2).A :: F) := by
  have e : s[l]? = some (.inst 0 (stepV R.r mk nm now off)) := H.get
  refine wp_run N.c94 rfl (w_put (v := .bl true) rfl e (by simp only [ev, ok]) (by rw [stepL]; decide) ?_)
  have H1 : Sep (s.set l (stepO R.r mk nm now true)) (cell l (stepO R.r mk nm now true) :: R.A :: F) := H.set
  change WpS (execs _ _ _ (s.set l (stepO R.r mk nm now true))) _
  generalize s.set l (stepO R.r mk nm now true) = s1 at H1
  have e1 : s1[l]? = some (.inst 0 (stepV R.r mk nm now true)) := H1.get
  refine w_ifE (v := decide (now = .waits)) (ev_eq (ev_fld rfl e1 step6) eq_waits) (fun c => ?_) fun c => ?_
  · have c := of_decide_eq_true c
    subst c
    refine w_put (v := .str Nw.gone.txt) rfl e1 (by simp only [ev, ok]; rfl) (by rw [stepL]; decide) (w_nil ⟨rfl, ?_⟩)
    simp only [offF, tree, Rc.more_nil]
    exact H1.set
  · have c := of_decide_eq_false c
    refine w_ifE (v := decide (now = .done)) (ev_eq (ev_fld rfl e1 step6) eq_done) (fun c2 => ?_) fun c2 => ?_
    · have c2 := of_decide_eq_true c2
      subst c2
      have eo : offF S (.step l mk nm .done off) = leaveF l mk nm true := rfl
      rw [eo] at hf ⊢
      obtain ⟨v, s2, e2, rfl, H2⟩ := leave_ok (k := k) N hf H1
      refine w_expr ⟨.non, s2, ?_, w_nil ⟨rfl, H2⟩⟩
      rw [ev_meth (T := T) (k := k + 1) rfl rfl (l := l) (by simp only [ev, List.map_cons, List.map_nil, List.cons_append, List.getElem?_cons_zero, ok]), mcall_of e1 N.m00]
      exact e2
    · have c2 := of_decide_eq_false c2
      refine w_nil ⟨rfl, ?_⟩
      have eo : offF S (.step l mk nm now off) = (.step l mk nm now true, []) := by cases now <;> first | rfl | exact absurd rfl c | exact absurd rfl c2
      rw [eo, Rc.more_nil]
      simpa only [tree] using H1
/-- what settling is shown to do, of parts of depth n -/
def Sets (T : Tab) (k n : Nat) (S : PT → PT × List Txt) : Prop := ∀ {t : PT} {R : Rc} {s : Sto} {F : List Asn}, okT n t → Few R (S t).2 → Sep s (tree R.r t :: R.A :: F) → Wp (mcall T k 3 t.l [] s) fun v s' => v = .non ∧ Sep s' (tree R.r (S t).1 :: (R.more (S t).2).A :: F)
theorem eq_two {s : Sto} {n : Nw} : cmpV .inn (.str n.txt) (.tup [.str [114, 117, 110, 115], .str [100, 111, 110, 101]]) s = some (decide (n = .runs ∨ n = .done)) := by cases n <;> rfl
theorem eq_end {s : Sto} {n : Nw} : cmpV .inn (.str n.txt) (.tup [.str [100, 111, 110, 101], .str [103, 111, 110, 101]]) s = some (decide (n = .done ∨ n = .gone)) := by cases n <;> rfl
/-- a part is called off -/
theorem off_ok (N : HasNd T) {n : Nat} {S : PT → PT × List Txt} (hS : Sets T (k + 1) n S) {t : PT} {R : Rc} {s : Sto} {F : List Asn} (ht : okT n t) (hf : Few R (offF S t).2) (H : Sep s (tree R.r t :: R.A :: F)) :
    Wp (mcall T (k + 2) 6 t.l [] s) fun v s' => v = .non ∧ Sep s' (tree R.r (offF S t).1 :: (R.more (offF S t).2).A :: F) := by
  cases t with
  | step l mk nm now off =>
    simp only [tree] at H
    have e : s[l]? = some (.inst 0 (stepV R.r mk nm now off)) := H.get
    show Wp (mcall T (k + 2) 6 l [] s) _
    rw [mcall_of e N.m06]
    exact off_step N hf H
  | join l kd now i ps =>
    have H0 := H
    simp only [tree] at H
    have H1 : Sep s (cell l (joinO kd now i (ps.map PT.l)) :: (trees R.r ps ++ (R.A :: F))) := Sep.star.mp H
    have e : s[l]? = some (.inst kd.cls (joinV now i (ps.map PT.l))) := H1.get
    show Wp (mcall T (k + 2) 6 l [] s) _
    rw [mcall_of e (N.j6 kd)]
    refine wp_run N.c102 rfl (w_ifE (v := decide (now = .waits)) (ev_eq (ev_fld rfl e join6) eq_waits) (fun c => ?_) fun c => ?_)
    · have c := of_decide_eq_true c
      subst c
      refine w_put (v := .str Nw.gone.txt) rfl e (by simp only [ev, ok]; rfl) (by rw [joinL]; decide) (w_nil ⟨rfl, ?_⟩)
      simp only [offF, tree, Rc.more_nil]
      exact Sep.star.mpr H1.set
    · have c := of_decide_eq_false c
      refine w_ifE (v := decide (now = .runs ∨ now = .done)) ?_ (fun c2 => ?_) fun c2 => ?_
      · rw [ev, ev_fld rfl e join6]
        simp only [bnd, ev, evs, ok, List.length_cons, List.length_nil, lim_le, Nat.zero_add, Nat.reduceAdd, Nat.reduceLeDiff, if_true, pur, eq_two, Option.map_some]
      · have c2 := of_decide_eq_true c2
        refine w_put (v := .str Nw.leaves.txt) rfl e (by simp only [ev, ok]; rfl) (by rw [joinL]; decide) ?_
        have H2 : Sep (s.set l (joinO kd .leaves i (ps.map PT.l))) (cell l (joinO kd .leaves i (ps.map PT.l)) :: (trees R.r ps ++ (R.A :: F))) := H1.set
        change WpS (execs _ _ _ (s.set l (joinO kd .leaves i (ps.map PT.l)))) _
        generalize s.set l (joinO kd .leaves i (ps.map PT.l)) = s1 at H2
        have e1 : s1[l]? = some (.inst kd.cls (joinV .leaves i (ps.map PT.l))) := H2.get
        have H3 : Sep s1 (tree R.r (.join l kd .leaves i ps) :: R.A :: F) := by
          simp only [tree]
          exact Sep.star.mpr H2
        have eo : offF S (.join l kd now i ps) = S (.join l kd .leaves i ps) := by rcases c2 with rfl | rfl <;> rfl
        rw [eo] at hf ⊢
        have hn : okT n (.join l kd .leaves i ps) := by
          obtain ⟨m, rfl⟩ : ∃ m, n = m + 1 := ⟨n - 1, by have := okT_pos ht; omega⟩
          obtain ⟨a1, ⟨a2, _⟩, a3⟩ := okT_join.mp ht
          refine okT_join.mpr ⟨a1, ⟨.inr (a2.resolve_left ?_), ⟨fun z => (by cases z), fun z => (by cases z)⟩⟩, a3⟩
          rcases c2 with rfl | rfl <;> decide
        obtain ⟨v, s2, e2, rfl, H4⟩ := hS hn hf H3
        refine w_expr ⟨.non, s2, ?_, w_nil ⟨rfl, H4⟩⟩
        rw [ev_meth (T := T) (k := k + 1) rfl rfl (l := l) (by simp only [ev, List.map_cons, List.map_nil, List.cons_append, List.getElem?_cons_zero, ok])]
        exact e2
      · have c2 := of_decide_eq_false c2
        refine w_nil ⟨rfl, ?_⟩
        have eo : offF S (.join l kd now i ps) = (.join l kd now i ps, []) := by cases now <;> first | rfl | exact absurd rfl c | exact absurd (.inl rfl) c2 | exact absurd (.inr rfl) c2
        rw [eo, Rc.more_nil]
        exact H0
end Lw
end
section
set_option Elab.async false
set_option linter.all false
set_option autoImplicit false
set_option maxRecDepth 100000
set_option maxHeartbeats 1000000
/-! Joins go on, go back, settle. -/
namespace Lw
open Ab
variable {T : Tab} {C : Ctx} {k : Nat}
/-- a join's place and its parts -/
structure JS (s : Sto) (l : Nat) (kd : Kd) (now : Nw) (i : Int) (ps : List PT) (ls : List Nat) (R : Rc) (F : List Asn) : Prop where
  H : Sep s (cell l (joinO kd now i ls) :: R.A :: (trees R.r ps ++ F))
  l : ps.map PT.l = ls
theorem JS.e {s : Sto} {l : Nat} {kd : Kd} {now : Nw} {i : Int} {ps : List PT} {ls : List Nat} {R : Rc} {F : List Asn} (J : JS s l kd now i ps ls R F) : s[l]? = some (.inst kd.cls (joinV now i ls)) := J.H.get
theorem JS.set {s : Sto} {l : Nat} {kd : Kd} {now now' : Nw} {i i' : Int} {ps : List PT} {ls : List Nat} {R : Rc} {F : List Asn} (J : JS s l kd now i ps ls R F) : JS (s.set l (joinO kd now' i' ls)) l kd now' i' ps ls R F := ⟨J.H.set, J.l⟩
/-- its part at place i -/
theorem JS.part {s : Sto} {l : Nat} {kd : Kd} {now : Nw} {i : Nat} {a : Int} {ps : List PT} {ls : List Nat} {R : Rc} {F : List Asn} {p : PT} (J : JS s l kd now a ps ls R F) (e : ps[i]? = some p) : ∃ c fs, s[p.l]? = some (.inst c fs) ∧ fs.lookup 6 = some (.str p.now.txt) := by
  have h : (cell l (joinO kd now a ls) :: R.A :: (trees R.r ps ++ F))[i + 2]? = some (tree R.r p) := by
    simp only [List.getElem?_cons_succ]
    rw [List.getElem?_append_left (by rw [trees_len]; exact (List.getElem?_eq_some_iff.mp e).1)]
    exact trees_at e
  obtain ⟨F1, H1, _⟩ := J.H.one h
  exact now_at H1
/-- a part is told m -/
theorem JS.tell {s : Sto} {l m : Nat} {kd : Kd} {now : Nw} {i : Nat} {a : Int} {ps : List PT} {ls : List Nat} {R : Rc} {F : List Asn} {p q : PT} {ns : List Txt} (J : JS s l kd now a ps ls R F) (e : ps[i]? = some p) (hq : q.l = p.l)
    (spec : ∀ {F : List Asn}, Sep s (tree R.r p :: R.A :: F) → Wp (mcall T k m p.l [] s) fun v s' => v = .non ∧ Sep s' (tree R.r q :: (R.more ns).A :: F)) : Wp (mcall T k m p.l [] s) fun v s' => v = .non ∧ JS s' l kd now a (ps.set i q) ls (R.more ns) F := by
  have hlt := (List.getElem?_eq_some_iff.mp e).1
  have h : (cell l (joinO kd now a ls) :: R.A :: (trees R.r ps ++ F))[i + 2]? = some (tree R.r p) := by
    simp only [List.getElem?_cons_succ]
    rw [List.getElem?_append_left (by rw [trees_len]; exact hlt)]
    exact trees_at e
  obtain ⟨F1, H1, back⟩ := J.H.two (n := i + 2) (m := 1) h rfl (by omega)
  refine (spec H1).imp ?_
  rintro v s' ⟨rfl, H2⟩
  refine ⟨rfl, ?_, (set_l e hq).trans J.l⟩
  have H3 := back H2
  simp only [List.set_cons_succ, List.set_cons_zero] at H3
  rw [List.set_append_left _ _ (by rw [trees_len]; exact hlt), trees_set] at H3
  exact H3
theorem ev_parts {s : Sto} {l : Nat} {kd : Kd} {now : Nw} {a : Int} {ps : List PT} {ls : List Nat} {R : Rc} {F : List Asn} {en : Env} (J : JS s l kd now a ps ls R F) (g : en[0]? = some (some (.loc l))) : ev C (.fld (.var 0) 8) en s = some (.ok (.lst (ls.map .loc)), s) := ev_fld g J.e join8
theorem ev_part {s : Sto} {l : Nat} {kd : Kd} {now : Nw} {i : Nat} {ps : List PT} {ls : List Nat} {R : Rc} {F : List Asn} {p : PT} {en : Env} (J : JS s l kd now (i : Nat) ps ls R F) (e : ps[i]? = some p) (g : en[0]? = some (some (.loc l))) : ev C (.item (.fld (.var 0) 8) (.fld (.var 0) 9)) en s = some (.ok (.loc p.l), s) := by
  rw [ev, ev_parts J g]
  simp only [bnd]
  rw [ev_fld g J.e join9]
  have : L2.atI (ls.map Val.loc) (i : Nat) = some (.loc p.l) := atI_of (by rw [← J.l, List.map_map, List.getElem?_map, e]; rfl)
  simp only [bnd, pur, itemV, seqOf, lstOf, Option.bind_some, this, ok]
theorem ev_pnow {s : Sto} {l : Nat} {kd : Kd} {now : Nw} {i : Nat} {ps : List PT} {ls : List Nat} {R : Rc} {F : List Asn} {p : PT} {en : Env} (J : JS s l kd now (i : Nat) ps ls R F) (e : ps[i]? = some p) (g : en[0]? = some (some (.loc l))) : ev C (.fld (.item (.fld (.var 0) 8) (.fld (.var 0) 9)) 6) en s = some (.ok (.str p.now.txt), s) := by
  obtain ⟨c, fs, h1, h2⟩ := J.part e
  exact ev_fld2 (ev_part J e g) h1 h2
/-- the place goes up or down by one -/
theorem w_up {s : Sto} {l : Nat} {kd : Kd} {now : Nw} {a : Int} {ps : List PT} {ls : List Nat} {R : Rc} {F : List Asn} {en : Env} {r : List Stm} {Q : SR → Env → Sto → Prop} (J : JS s l kd now a ps ls R F) (g : en[0]? = some (some (.loc l)))
    (q : ∀ s', JS s' l kd now (a + 1) ps ls R F → WpS (execs C r en s') Q) : WpS (execs C (.augF (.var 0) 9 .add (.cst (.int 1)) :: r) en s) Q := by
  have e := J.e
  have e0 : ev C (.var 0) en s = some (.ok (.loc l), s) := by simp only [ev, g, ok]
  have e1 : ev C (.cst (.int 1)) en s = some (.ok (.int 1), s) := by simp only [ev, ok]
  have e2 : addF l kd.cls 9 (a + 1) s = some (s.set l (joinO kd now (a + 1) ls)) := by
    simp only [addF, e, joinL]
    rfl
  simp only [execs, exec, e0, sb, e, join9, e1, e2, Option.map_some, sq]
  exact q _ J.set
theorem w_down {s : Sto} {l : Nat} {kd : Kd} {now : Nw} {a : Int} {ps : List PT} {ls : List Nat} {R : Rc} {F : List Asn} {en : Env} {r : List Stm} {Q : SR → Env → Sto → Prop} (J : JS s l kd now a ps ls R F) (g : en[0]? = some (some (.loc l)))
    (q : ∀ s', JS s' l kd now (a - 1) ps ls R F → WpS (execs C r en s') Q) : WpS (execs C (.augF (.var 0) 9 .sub (.cst (.int 1)) :: r) en s) Q := by
  have e := J.e
  have e0 : ev C (.var 0) en s = some (.ok (.loc l), s) := by simp only [ev, g, ok]
  have e1 : ev C (.cst (.int 1)) en s = some (.ok (.int 1), s) := by simp only [ev, ok]
  have e2 : addF l kd.cls 9 (a - 1) s = some (s.set l (joinO kd now (a - 1) ls)) := by
    simp only [addF, e, joinL]
    rfl
  simp only [execs, exec, e0, sb, e, join9, e1, e2, Option.map_some, sq]
  exact q _ J.set
/-- what it is is set -/
theorem w_now {s : Sto} {l : Nat} {kd : Kd} {now : Nw} {a : Int} {ps : List PT} {ls : List Nat} {R : Rc} {F : List Asn} {en : Env} {r : List Stm} {Q : SR → Env → Sto → Prop} {e : Ex} (n : Nw) (J : JS s l kd now a ps ls R F) (g : en[0]? = some (some (.loc l))) (he : ev C e en s = some (.ok (.str n.txt), s))
    (q : ∀ s', JS s' l kd n a ps ls R F → WpS (execs C r en s') Q) : WpS (execs C (.asgF (.var 0) 6 e :: r) en s) Q := by
  refine w_put (v := .str n.txt) g J.e he (by rw [joinL]; decide) ?_
  exact q _ J.set
/-- the test of the walks on: the part is n, and there is a next one -/
theorem ev_next {s : Sto} {l : Nat} {kd : Kd} {now : Nw} {i : Nat} {ps : List PT} {ls : List Nat} {R : Rc} {F : List Asn} {p : PT} {en : Env} (n : Nw) (J : JS s l kd now (i : Nat) ps ls R F) (e : ps[i]? = some p) (g : en[0]? = some (some (.loc l))) :
    ev C (.andE (.cmp .eq (.fld (.item (.fld (.var 0) 8) (.fld (.var 0) 9)) 6) (.cst (.str n.txt))) (.cmp .lt (.bin .add false (.fld (.var 0) 9) (.cst (.int 1))) (.bi .len false [(.fld (.var 0) 8)]))) en s = some (.ok (.bl (decide (p.now = n) && decide (i + 1 < ps.length))), s) := by
  rw [ev, ev_eq (ev_pnow J e g) (eq_nw n)]
  simp only [bnd]
  by_cases c : p.now = n
  · have hl : ls.length = ps.length := by rw [← J.l, List.length_map]
    have e1 : ev C (.bin .add false (.fld (.var 0) 9) (.cst (.int 1))) en s = some (.ok (.int ((i : Nat) + 1)), s) := by
      rw [ev, ev_fld g J.e join9]
      simp only [bnd, ev, ok, binV, lift]
    have e2 : ev C (.bi .len false [(.fld (.var 0) 8)]) en s = some (.ok (.int ps.length), s) := ev_bi1 (ev_parts J g) (by simp only [biV, seqOf, lstOf, Option.map_some, List.length_map, hl])
    rw [decide_eq_true c, ev, e1]
    simp only [bnd]
    rw [e2]
    simp only [bnd, pur, cmpV, Option.map_some, ok, Bool.true_and]
    congr 4
    by_cases h : i + 1 < ps.length
    · rw [decide_eq_true h, decide_eq_true (by omega)]
    · rw [decide_eq_false h, decide_eq_false (by omega)]
  · rw [decide_eq_false c]
    simp only [ok, Bool.false_and]
/-- the walk on of a row, of an else -/
theorem walk_on (N : HasNd T) {n : Nat} (d : Nw) {step : Nat → Nat → List PT → Nat × List PT} (hs : ∀ m i ps, step (m + 1) i ps = match ps[i]?, ps[i + 1]? with
    | some p, some q => if p.now = d then step m (i + 1) (ps.set (i + 1) (beginF n q)) else (i, ps)
    | _, _ => (i, ps)) {s : Sto} {l : Nat} {kd : Kd} {now : Nw} {i : Nat} {ps : List PT} {ls : List Nat} {R : Rc} {F : List Asn} {rest : List Stm} {Q : SR → Env → Sto → Prop} (hT : C.T = T) (hc : C.call = callN T (k + n)) (J : JS s l kd now (i : Nat) ps ls R F) (hi : i < ps.length) (hps : ∀ p ∈ ps, okT n p) (hw : Wt i ps) (hl : ps.length < 1000)
    (q : ∀ s', JS s' l kd now ((step ps.length i ps).1 : Nat) (step ps.length i ps).2 ls R F → WpS (execs C rest [some (.loc l)] s') Q) :
    WpS (execs C (.whl (.andE (.cmp .eq (.fld (.item (.fld (.var 0) 8) (.fld (.var 0) 9)) 6) (.cst (.str d.txt))) (.cmp .lt (.bin .add false (.fld (.var 0) 9) (.cst (.int 1))) (.bi .len false [(.fld (.var 0) 8)]))) [(.augF (.var 0) 9 .add (.cst (.int 1))), (.expr (.meth 2 (.item (.fld (.var 0) 8) (.fld (.var 0) 9)) []))] :: rest) [some (.loc l)] s) Q := by
  refine w_whl (m := ps.length) (fun m en s' => en = [some (.loc l)] ∧ ∃ j qs, JS s' l kd now (j : Nat) qs ls R F ∧ j < qs.length ∧ (∀ p ∈ qs, okT n p) ∧ Wt j qs ∧ qs.length ≤ j + m ∧ step m j qs = step ps.length i ps) ⟨rfl, i, ps, J, hi, hps, hw, by omega, rfl⟩ (by show ps.length < 100000; omega) ?_
  rintro m en s1 ⟨rfl, j, qs, J1, hj, hq, hwq, hm, es⟩
  have e : qs[j]? = some qs[j] := List.getElem?_eq_getElem hj
  obtain ⟨m, rfl⟩ : ∃ m', m = m' + 1 := ⟨m - 1, by omega⟩
  rw [hs, e] at es
  refine ⟨_, s1, ev_next d J1 e rfl, ?_⟩
  by_cases c : qs[j].now = d
  · by_cases h : j + 1 < qs.length
    · right
      have e2 : qs[j + 1]? = some qs[j + 1] := List.getElem?_eq_getElem h
      refine ⟨by simp [c, h], m, rfl, ?_⟩
      refine w_up J1 rfl fun s2 J2 => ?_
      have J2 : JS s2 l kd now ((j + 1 : Nat)) qs ls R F := by
        have := J2
        rw [show ((j : Nat) : Int) + 1 = ((j + 1 : Nat) : Int) by omega] at this
        exact this
      have fr := hwq (j + 1) _ (by omega) e2
      have ob := ok_begin n (hq _ (List.getElem_mem h)) fr
      obtain ⟨v, s3, e3, rfl, J3⟩ := J2.tell (T := T) (k := k + n) (m := 2) (q := beginF n qs[j + 1]) (ns := []) e2 ob.2 fun {F} H => (begin_ok N n (hq _ (List.getElem_mem h)) H).imp fun v s' z => by rw [Rc.more_nil]; exact z
      rw [Rc.more_nil] at J3
      refine w_expr ⟨.non, s3, ?_, w_nil ⟨rfl, j + 1, _, J3, by simp; omega, set_all hq ob.1, fun j' p hj' hp => ?_, by simp; omega, ?_⟩⟩
      · rw [ev_meth hT hc (ev_part J2 e2 rfl)]
        exact e3
      · rw [List.getElem?_set_ne (by omega)] at hp
        exact hwq j' p (by omega) hp
      · rw [e2] at es
        simp only [c, if_true] at es
        exact es
    · left
      refine ⟨by simp [h], ?_⟩
      have e2 : qs[j + 1]? = none := List.getElem?_eq_none (by omega)
      rw [e2] at es
      have := q s1
      rw [← es] at this
      exact this J1
  · left
    refine ⟨by simp [c], ?_⟩
    have es2 : (j, qs) = step ps.length i ps := by
      rw [← es]
      cases qs[j + 1]? with
      | none => rfl
      | some q2 => simp only [c, if_false]
    have := q s1
    rw [← es2] at this
    exact this J1
/-- tests of all parts -/
theorem ev_nows {s : Sto} {l : Nat} {kd : Kd} {now : Nw} {a : Int} {ps : List PT} {ls : List Nat} {R : Rc} {F : List Asn} (n : Nw) (J : JS s l kd now a ps ls R F) (hl : ps.length < 1000) (o : Option Val) :
    ev C (.comp false (.cmp .eq (.fld (.var 1) 6) (.cst (.str n.txt))) (.name 1) (.val (.fld (.var 0) 8)) none [1]) [some (.loc l), o] s = some (.ok (.lst (ps.map fun p => .bl (decide (p.now = n)))), s) := by
  have key : Wp (ev C (.comp false (.cmp .eq (.fld (.var 1) 6) (.cst (.str n.txt))) (.name 1) (.val (.fld (.var 0) 8)) none [1]) [some (.loc l), o] s) fun v s' => v = .lst (ps.map fun p => .bl (decide (p.now = n))) ∧ s' = s := by
    refine wp_compE (fun i acc s' => s' = s ∧ acc = (ps.take i).map fun p => .bl (decide (p.now = n))) (walk_parts rfl J.e) ?_ ⟨rfl, rfl⟩ (fun _ _ _ _ => rfl) ?_ ?_
    · show (ls.map Val.loc).length ≤ 100000
      rw [← J.l]
      simp
      omega
    · rintro i v acc s' hv ⟨rfl, rfl⟩
      have hv : (ls.map Val.loc)[i]? = some v := hv
      rw [← J.l, List.map_map, List.getElem?_map, Option.map_eq_some_iff] at hv
      obtain ⟨p, hp, rfl⟩ := hv
      obtain ⟨c, fs, h1, h2⟩ := J.part hp
      refine ⟨[some (.loc l), some (.loc p.l)], rfl, true, s', by simp only [evc, ok], fun _ => ?_, fun z => (by cases z)⟩
      refine ⟨_, s', ev_eq (ev_fld rfl h1 h2) (eq_nw n), rfl, ?_⟩
      rw [List.take_add_one, hp]
      simp
    · rintro us s' ⟨rfl, rfl⟩
      refine ⟨?_, rfl⟩
      show Val.lst _ = _
      have : ((ls.map Val.loc, none) : Walk).1.length = ps.length := by
        rw [← J.l]
        simp
      rw [this, List.take_length]
  obtain ⟨v, s', e, rfl, rfl⟩ := key
  exact e
theorem bools_map {ps : List PT} {f : PT → Bool} : boolsOf (ps.map fun p => Val.bl (f p)) = some (ps.map f) := by
  induction ps with
  | nil => rfl
  | cons p ps ih => simp only [List.map_cons, boolsOf, ih, Option.map_some]
theorem ev_all {s : Sto} {l : Nat} {kd : Kd} {now : Nw} {a : Int} {ps : List PT} {ls : List Nat} {R : Rc} {F : List Asn} (n : Nw) (J : JS s l kd now a ps ls R F) (hl : ps.length < 1000) (o : Option Val) :
    ev C (.bi .all false [(.comp false (.cmp .eq (.fld (.var 1) 6) (.cst (.str n.txt))) (.name 1) (.val (.fld (.var 0) 8)) none [1])]) [some (.loc l), o] s = some (.ok (.bl (ps.all fun p => decide (p.now = n))), s) := by
  refine ev_bi1 (ev_nows n J hl o) ?_
  simp only [biV, lstOf, Option.bind_some, bools_map, Option.map_some]
  congr 3
  rw [List.all_map]
  rfl
theorem ev_any {s : Sto} {l : Nat} {kd : Kd} {now : Nw} {a : Int} {ps : List PT} {ls : List Nat} {R : Rc} {F : List Asn} (n : Nw) (J : JS s l kd now a ps ls R F) (hl : ps.length < 1000) (o : Option Val) :
    ev C (.bi .any false [(.comp false (.cmp .eq (.fld (.var 1) 6) (.cst (.str n.txt))) (.name 1) (.val (.fld (.var 0) 8)) none [1])]) [some (.loc l), o] s = some (.ok (.bl (ps.any fun p => decide (p.now = n))), s) := by
  refine ev_bi1 (ev_nows n J hl o) ?_
  simp only [biV, lstOf, Option.bind_some, bools_map, Option.map_some]
  congr 3
  rw [List.any_map]
  rfl
/-- all but JS: what a join must keep for the methods -/
theorem goOn_ok (N : HasNd T) {n : Nat} {s : Sto} {l : Nat} {kd : Kd} {i : Nat} {ps : List PT} {ls : List Nat} {R : Rc} {F : List Asn} (J : JS s l kd .runs (i : Nat) ps ls R F) (O : JOk n kd .runs (i : Nat) ps ls) (hl : ps.length < 1000) :
    Wp (mcall T (k + n + 1) 4 l [] s) fun v s' => v = .non ∧ JS s' l kd (goOn (beginF n) kd i ps).1 ((goOn (beginF n) kd i ps).2.1 : Nat) (goOn (beginF n) kd i ps).2.2 ls R F := by
  rw [mcall_of J.e (N.j4 kd)]
  have hi : i < ps.length := by
    rcases O.at_ with z | z
    · cases z
    · omega
  cases kd with
  | row =>
    have K := row_keeps (m := ps.length) hi O.ok (fun j p hj hp => O.aft.2 rfl (by decide) j p (by omega) hp)
    refine wp_run N.c106 rfl (walk_on N .done (step := rowOn (beginF n)) (fun _ _ _ => rfl) rfl rfl J hi O.ok (fun j p hj hp => O.aft.2 rfl (by decide) j p (by omega) hp) hl fun s1 J1 => ?_)
    have e : (rowOn (beginF n) ps.length i ps).2[(rowOn (beginF n) ps.length i ps).1]? = some _ := List.getElem?_eq_getElem K.1
    simp only [goOn, nowAt, e]
    generalize rowOn (beginF n) ps.length i ps = r at J1 K e ⊢
    refine w_ifE (v := decide (r.2[r.1].now = .done)) (ev_eq (ev_pnow J1 e rfl) eq_done) (fun c => ?_) fun c => ?_
    · have c := of_decide_eq_true c
      rw [if_pos c]
      exact w_now .done J1 rfl (by simp only [ev, ok]; rfl) fun s2 J2 => w_nil ⟨by first | rfl | trivial, J2⟩
    · have c := of_decide_eq_false c
      rw [if_neg c]
      refine w_ifE (v := decide (r.2[r.1].now = .gone)) (ev_eq (ev_pnow J1 e rfl) eq_gone) (fun c => ?_) fun c => ?_
      · have c := of_decide_eq_true c
        rw [if_pos c]
        exact w_now .leaves J1 rfl (by simp only [ev, ok]; rfl) fun s2 J2 => w_nil ⟨by first | rfl | trivial, J2⟩
      · have c := of_decide_eq_false c
        rw [if_neg c]
        exact w_nil ⟨by first | rfl | trivial, J1⟩
  | side =>
    refine wp_run N.c109 rfl (w_ifE (ev_all .done J hl none) (fun c => ?_) fun c => ?_)
    · simp only [goOn]
      rw [if_pos c]
      exact w_now .done J rfl (by simp only [ev, ok]; rfl) fun s2 J2 => w_nil ⟨by first | rfl | trivial, J2⟩
    · simp only [goOn]
      rw [if_neg (by rw [c]; decide)]
      refine w_ifE (ev_any .gone J hl none) (fun c => ?_) fun c => ?_
      · rw [if_pos c]
        exact w_now .leaves J rfl (by simp only [ev, ok]; rfl) fun s2 J2 => w_nil ⟨by first | rfl | trivial, J2⟩
      · rw [if_neg (by rw [c]; decide)]
        exact w_nil ⟨by first | rfl | trivial, J⟩
  | els =>
    have K := els_keeps (m := ps.length) hi O.ok (fun j p hj hp => O.aft.2 rfl (by decide) j p (by omega) hp)
    refine wp_run N.c111 rfl (walk_on N .gone (step := elsOn (beginF n)) (fun _ _ _ => rfl) rfl rfl J hi O.ok (fun j p hj hp => O.aft.2 rfl (by decide) j p (by omega) hp) hl fun s1 J1 => ?_)
    have e : (elsOn (beginF n) ps.length i ps).2[(elsOn (beginF n) ps.length i ps).1]? = some _ := List.getElem?_eq_getElem K.1
    simp only [goOn, nowAt, e]
    generalize elsOn (beginF n) ps.length i ps = r at J1 K e ⊢
    refine w_ifE (v := decide (r.2[r.1].now = .done ∨ r.2[r.1].now = .gone)) ?_ (fun c => ?_) fun c => ?_
    · rw [ev, ev_pnow J1 e rfl]
      simp only [bnd, ev, evs, ok, List.length_cons, List.length_nil, lim_le, Nat.zero_add, Nat.reduceAdd, Nat.reduceLeDiff, if_true, pur, eq_end, Option.map_some]
    · have c := of_decide_eq_true c
      refine w_now r.2[r.1].now J1 rfl (ev_pnow J1 e rfl) fun s2 J2 => w_nil ⟨by first | rfl | trivial, ?_⟩
      rcases c with c | c
      · rw [if_pos c]
        rw [c] at J2
        exact J2
      · rw [if_neg (by rw [c]; decide), if_pos c]
        rw [c] at J2
        exact J2
    · have c := of_decide_eq_false c
      rw [if_neg fun z => c (.inl z), if_neg fun z => c (.inr z)]
      exact w_nil ⟨by first | rfl | trivial, J1⟩
end Lw
end
section
set_option Elab.async false
set_option linter.all false
set_option autoImplicit false
set_option maxRecDepth 100000
set_option maxHeartbeats 1000000
/-! Joins go back, settle. -/
namespace Lw
open Ab
theorem w_retN {C : Ctx} {r : List Stm} {en : Env} {s : Sto} {Q : SR → Env → Sto → Prop} (q : Q (.ret .non) en s) : WpS (execs C (.retN :: r) en s) Q := by
  simp only [execs, exec, sq]
  exact ⟨_, _, _, rfl, q⟩
variable {T : Tab} {C : Ctx} {k : Nat}
theorem ne_gone {s : Sto} {n : Nw} : cmpV .ne (.str n.txt) (.str [103, 111, 110, 101]) s = some (decide (n ≠ .gone)) := by
  have : cmpV .ne (.str n.txt) (.str [103, 111, 110, 101]) s = (eqV s (.str n.txt) (.str [103, 111, 110, 101])).map not := rfl
  rw [this, eq_gone]
  simp
theorem ev_place {s : Sto} {l : Nat} {kd : Kd} {now : Nw} {a : Int} {ps : List PT} {ls : List Nat} {R : Rc} {F : List Asn} {en : Env} (J : JS s l kd now a ps ls R F) (g : en[0]? = some (some (.loc l))) : ev C (.cmp .ge (.fld (.var 0) 9) (.cst (.int 0))) en s = some (.ok (.bl (decide (0 ≤ a))), s) := by
  rw [ev, ev_fld g J.e join9]
  simp only [bnd, ev, ok, pur, cmpV, Option.map_some]
/-- a part is called off -/
theorem tell_off (N : HasNd T) {n : Nat} {S : PT → PT × List Txt} (hS : Sets T (k + 1) n S) (hG : Good n (offF S)) {s : Sto} {l : Nat} {kd : Kd} {now : Nw} {i : Nat} {a : Int} {ps : List PT} {ls : List Nat} {R : Rc} {F : List Asn} {p : PT} (J : JS s l kd now a ps ls R F) (e : ps[i]? = some p) (ho : okT n p) (hf : Few R (offF S p).2) :
    Wp (mcall T (k + 2) 6 p.l [] s) fun v s' => v = .non ∧ JS s' l kd now a (ps.set i (offF S p).1) ls (R.more (offF S p).2) F :=
  J.tell e (hG p ho).2 fun {F} H => off_ok N hS ho hf H
theorem row_back (N : HasNd T) {n : Nat} {S : PT → PT × List Txt} (hS : Sets T (k + 1) n S) (hG : Good n (offF S)) {s : Sto} {l : Nat} {i : Nat} {ps : List PT} {ls : List Nat} {R : Rc} {F : List Asn} (J : JS s l .row .leaves (i : Nat) ps ls R F) (hi : i < ps.length) (ho : ∀ p ∈ ps, okT n p) (hl : ps.length < 1000)
    (hf : Few R (goBack (offF S) .row i ps).2.2.2) :
    Wp (callN T (k + 3) 107 [.loc l] s) fun v s' => v = .non ∧ JS s' l .row (goBack (offF S) .row i ps).1 (goBack (offF S) .row i ps).2.1 (goBack (offF S) .row i ps).2.2.1 ls (R.more (goBack (offF S) .row i ps).2.2.2) F := by
  simp only [goBack] at hf ⊢
  generalize hr : rowBack (offF S) (i + 1) ps = r at hf ⊢
  refine wp_run N.c107 rfl (w_whl (m := i + 1) (fun m en s' => en = [some (.loc l)] ∧ ∃ qs ns, JS s' l .row .leaves ((m : Int) - 1) qs ls (R.more ns) F ∧ m ≤ qs.length ∧ qs.length < 1000 ∧ (∀ p ∈ qs, okT n p) ∧
    r.1 = (rowBack (offF S) m qs).1 ∧ r.2.1 = (rowBack (offF S) m qs).2.1 ∧ r.2.2.1 = (rowBack (offF S) m qs).2.2.1 ∧ r.2.2.2 = ns ++ (rowBack (offF S) m qs).2.2.2) ⟨rfl, ps, [], ?_, by omega, hl, ho, by rw [hr], by rw [hr], by rw [hr], by rw [hr]; rfl⟩ (by show i + 1 < 100000; omega) ?_)
  · rw [Rc.more_nil, show (((i + 1 : Nat) : Int) - 1) = (i : Nat) by omega]
    exact J
  · rintro m en s1 ⟨rfl, qs, ns, J1, hm, hql, hq, r1, r2, r3, r4⟩
    refine ⟨_, s1, ev_place J1 rfl, ?_⟩
    cases m with
    | zero =>
      left
      refine ⟨rfl, ?_⟩
      simp only [rowBack, List.append_nil] at r1 r2 r3 r4
      refine w_now .gone J1 rfl (by simp only [ev, ok]; rfl) fun s2 J2 => w_nil ⟨by first | rfl | trivial, ?_⟩
      rw [r1, r2, r3, r4]
      exact J2
    | succ j =>
      right
      have hp : 0 ≤ ((j + 1 : Nat) : Int) - 1 := by omega
      refine ⟨by rw [decide_eq_true hp], j, rfl, ?_⟩
      rw [show (((j + 1 : Nat) : Int) - 1) = (j : Nat) by omega] at J1
      have e : qs[j]? = some qs[j] := List.getElem?_eq_getElem (by omega)
      have oj := hq _ (List.getElem_mem (show j < qs.length by omega))
      simp only [rowBack, e] at r1 r2 r3 r4
      have hf1 : Few (R.more ns) (offF S qs[j]).2 := by
        have : ∃ t, r.2.2.2 = ns ++ ((offF S qs[j]).2 ++ t) := by
          rw [r4]
          split
          · exact ⟨_, rfl⟩
          · exact ⟨[], by simp⟩
        obtain ⟨t, et⟩ := this
        unfold Few at hf ⊢
        rw [et] at hf
        simp only [Rc.more, List.length_append] at hf ⊢
        omega
      obtain ⟨v, s2, e2, rfl, J2⟩ := tell_off (k := k) N hS hG J1 e oj hf1
      rw [Rc.more_more] at J2
      have en2 : (qs.set j (offF S qs[j]).1)[j]? = some (offF S qs[j]).1 := List.getElem?_set_self (by omega)
      refine w_expr ⟨.non, s2, ?_, ?_⟩
      · rw [ev_meth (T := T) (k := k + 2) rfl rfl (ev_part J1 e rfl)]
        exact e2
      refine w_ifE (v := decide ((offF S qs[j]).1.now ≠ .gone)) ?_ (fun c => ?_) fun c => ?_
      · rw [ev, ev_pnow J2 en2 rfl]
        simp only [bnd, ev, ok, pur, ne_gone, Option.map_some]
      · have c := of_decide_eq_true c
        rw [if_neg c] at r1 r2 r3 r4
        refine w_retN ⟨by first | rfl | trivial, ?_⟩
        rw [r1, r2, r3, r4]
        exact J2
      · have c : (offF S qs[j]).1.now = .gone := Classical.byContradiction fun z => by rw [decide_eq_true z] at c; cases c
        rw [if_pos c] at r1 r2 r3 r4
        refine w_down J2 rfl fun s3 J3 => w_nil ⟨rfl, _, _, J3, by simp; omega, by simpa using hql, set_all hq (hG _ oj).1, r1, r2, r3, ?_⟩
        rw [r4, List.append_assoc]
theorem goBack_ok (N : HasNd T) {n : Nat} {S : PT → PT × List Txt} (hS : Sets T (k + 1) n S) (hG : Good n (offF S)) {s : Sto} {l : Nat} {kd : Kd} {i : Nat} {ps : List PT} {ls : List Nat} {R : Rc} {F : List Asn} (J : JS s l kd .leaves (i : Nat) ps ls R F) (hi : i < ps.length) (ho : ∀ p ∈ ps, okT n p) (hl : ps.length < 1000)
    (hf : Few R (goBack (offF S) kd i ps).2.2.2) :
    Wp (mcall T (k + 3) 5 l [] s) fun v s' => v = .non ∧ JS s' l kd (goBack (offF S) kd i ps).1 (goBack (offF S) kd i ps).2.1 (goBack (offF S) kd i ps).2.2.1 ls (R.more (goBack (offF S) kd i ps).2.2.2) F := by
  rw [mcall_of J.e (N.j5 kd)]
  cases kd with
  | row => exact row_back N hS hG J hi ho hl hf
  | side =>
    refine wp_run N.c110 rfl (each_ok (T := T) (k := k + 2) (f := offF S) 90000 rfl rfl J.l.symm hf (fun p hp => fun {s R F} hb h => off_ok N hS (ho p hp) hb h) J.H fun s1 o1 H1 => ?_)
    have J1 : JS s1 l .side .leaves (i : Nat) (eachF (offF S) ps).1 ls (R.more (eachF (offF S) ps).2) F := ⟨H1, (ok_each hG ho).2.trans J.l⟩
    have hl1 : (eachF (offF S) ps).1.length < 1000 := by simpa [eachF] using hl
    simp only [goBack] at hf ⊢
    refine w_ifE (ev_all .gone J1 hl1 o1) (fun c => ?_) fun c => ?_
    · rw [if_pos c]
      exact w_now .gone J1 rfl (by simp only [ev, ok]; rfl) fun s2 J2 => w_nil ⟨by first | rfl | trivial, J2⟩
    · rw [if_neg (by rw [c]; decide)]
      exact w_nil ⟨by first | rfl | trivial, J1⟩
  | els =>
    have e : ps[i]? = some ps[i] := List.getElem?_eq_getElem hi
    have oj := ho _ (List.getElem_mem hi)
    simp only [goBack, e] at hf ⊢
    obtain ⟨v, s2, e2, rfl, J2⟩ := tell_off (k := k) N hS hG J e oj hf
    have en2 : (ps.set i (offF S ps[i]).1)[i]? = some (offF S ps[i]).1 := List.getElem?_set_self hi
    refine wp_run N.c112 rfl (w_expr ⟨.non, s2, ?_, ?_⟩)
    · rw [ev_meth (T := T) (k := k + 2) rfl rfl (ev_part J e rfl)]
      exact e2
    refine w_ifE (v := decide ((offF S ps[i]).1.now = .gone)) (ev_eq (ev_pnow J2 en2 rfl) eq_gone) (fun c => ?_) fun c => ?_
    · have c := of_decide_eq_true c
      rw [if_pos c]
      exact w_now .gone J2 rfl (by simp only [ev, ok]; rfl) fun s3 J3 => w_nil ⟨by first | rfl | trivial, J3⟩
    · have c := of_decide_eq_false c
      rw [if_neg c]
      exact w_nil ⟨by first | rfl | trivial, J2⟩
end Lw
end
section
set_option Elab.async false
set_option linter.all false
set_option autoImplicit false
set_option maxRecDepth 100000
set_option maxHeartbeats 1000000
/-! Settling. -/
namespace Lw
open Ab
variable {T : Tab} {C : Ctx}
theorem few_l {R : Rc} {a b : List Txt} (h : Few R (a ++ b)) : Few R a := by
  unfold Few at h ⊢
  simp only [List.length_append] at h
  omega
theorem few_r {R : Rc} {a b : List Txt} (h : Few R (a ++ b)) : Few (R.more a) b := by
  unfold Few at h ⊢
  simp only [Rc.more, List.length_append] at h ⊢
  omega
/-- what a join is behind its parts -/
theorem JOk.on1 {n : Nat} {kd : Kd} {now : Nw} {i : Int} {ps : List PT} {ls : List Nat} (J0 : JOk n kd now i ps ls) : JOk n kd (on1 (beginF n) kd now i ps).1 (on1 (beginF n) kd now i ps).2.1 (on1 (beginF n) kd now i ps).2.2 ls := by
  unfold Lw.on1
  split
  · rename_i hr
    subst hr
    have hi : 0 ≤ i := by
      rcases J0.at_ with z | z
      · cases z
      · exact z.1
    have := J0
    rw [show i = ((i.toNat : Nat) : Int) by omega] at this
    exact ok_goOn this
  · exact J0
theorem JOk.each {n l : Nat} {kd : Kd} {now : Nw} {i : Int} {ps : List PT} (h : okT (n + 1) (.join l kd now i ps)) : JOk n kd now i (eachF (settleF n) ps).1 (ps.map PT.l) := by
  obtain ⟨h1, ⟨h2, h4⟩, h3⟩ := okT_join.mp h
  have ih := ok_settle n
  obtain ⟨a1, a2⟩ := ok_each ih h3
  have e0 : (eachF (settleF n) ps).1.length = ps.length := by simp [eachF]
  refine ⟨ne_len e0 h1, ?_, ⟨fun z => ⟨(h4.1 z).1, fun q hq => ?_⟩, fun z k j q hj hq => ?_⟩, a1, a2⟩
  · rw [e0]; exact h2
  · obtain ⟨p, hp, rfl⟩ := List.mem_map.mp hq
    have fp := (h4.1 z).2 p hp
    rw [fresh_settle n fp]
    exact fp
  · have hq : (ps.map fun p => (settleF n p).1)[j]? = some q := hq
    rw [List.getElem?_map, Option.map_eq_some_iff] at hq
    obtain ⟨p, hp, rfl⟩ := hq
    have fp := h4.2 z k j p hj hp
    rw [fresh_settle n fp]
    exact fp
theorem ev_jnow {s : Sto} {l : Nat} {kd : Kd} {now : Nw} {a : Int} {ps : List PT} {ls : List Nat} {R : Rc} {F : List Asn} {en : Env} (n : Nw) (J : JS s l kd now a ps ls R F) (g : en[0]? = some (some (.loc l))) : ev C (.cmp .eq (.fld (.var 0) 6) (.cst (.str n.txt))) en s = some (.ok (.bl (decide (now = n))), s) := ev_eq (ev_fld g J.e join6) (eq_nw n)
theorem JS.lenp {s : Sto} {l : Nat} {kd : Kd} {now : Nw} {a : Int} {ps : List PT} {ls : List Nat} {R : Rc} {F : List Asn} (J : JS s l kd now a ps ls R F) : ls.length = ps.length := by rw [← J.l, List.length_map]
theorem w_pass {C : Ctx} {r : List Stm} {en : Env} {s : Sto} {Q : SR → Env → Sto → Prop} (q : WpS (execs C r en s) Q) : WpS (execs C (.pass :: r) en s) Q := by
  simp only [execs, exec, sq]
  exact q
theorem settle_tail (N : HasNd T) {n k : Nat} (ih : Sets T (k + 1) n (settleF n)) {s : Sto} {l : Nat} {kd : Kd} {w : Nw} {j : Int} {qs : List PT} {ls : List Nat} {R : Rc} {F : List Asn} {o : Option Val} {r : List Stm} {Q : SR → Env → Sto → Prop} (O : JOk n kd w j qs ls) (J : JS s l kd w j qs ls R F)
    (hf : Few R (back1 (offF (settleF n)) kd w j qs).2.2.2) (hT : C.T = T) (hc : C.call = callN T (k + 3))
    (q : ∀ s', JS s' l kd (back1 (offF (settleF n)) kd w j qs).1 (back1 (offF (settleF n)) kd w j qs).2.1 (back1 (offF (settleF n)) kd w j qs).2.2.1 ls (R.more (back1 (offF (settleF n)) kd w j qs).2.2.2) F → WpS (execs C r [some (.loc l), o] s') Q) :
    WpS (execs C (.ifS (.cmp .eq (.fld (.var 0) 6) (.cst (.str [108, 101, 97, 118, 101, 115]))) [(.expr (.meth 5 (.var 0) []))] [] :: r) [some (.loc l), o] s) Q := by
  refine w_ifE (ev_jnow .leaves J rfl) (fun c => ?_) fun c => ?_
  · have c := of_decide_eq_true c
    subst c
    have eb : back1 (offF (settleF n)) kd .leaves j qs = goBack (offF (settleF n)) kd j.toNat qs := rfl
    rw [eb] at hf q
    have hj := O.at_.resolve_left (by decide)
    obtain ⟨i, rfl⟩ : ∃ i : Nat, j = i := ⟨j.toNat, by omega⟩
    obtain ⟨v, s2, e2, rfl, J2⟩ := goBack_ok N ih (ok_off (ok_settle n)) J (by omega) O.ok O.ne.2 hf
    refine w_expr ⟨.non, s2, ?_, q s2 J2⟩
    rw [ev_meth hT hc (l := l) (by simp only [ev, List.getElem?_cons_zero, ok])]
    exact e2
  · have c := of_decide_eq_false c
    have eb : back1 (offF (settleF n)) kd w j qs = (w, j, qs, []) := by unfold back1; rw [if_neg c]
    rw [eb, Rc.more_nil] at q
    exact q s J
theorem settle_mid (N : HasNd T) {n k : Nat} {s : Sto} {l : Nat} {kd : Kd} {w : Nw} {j : Int} {qs : List PT} {ls : List Nat} {R : Rc} {F : List Asn} {o : Option Val} {r : List Stm} {Q : SR → Env → Sto → Prop} (O : JOk n kd w j qs ls) (J : JS s l kd w j qs ls R F)
    (hT : C.T = T) (hc : C.call = callN T (k + n + 1))
    (q : ∀ s', JS s' l kd (on1 (beginF n) kd w j qs).1 (on1 (beginF n) kd w j qs).2.1 (on1 (beginF n) kd w j qs).2.2 ls R F → WpS (execs C r [some (.loc l), o] s') Q) :
    WpS (execs C (.ifS (.cmp .eq (.fld (.var 0) 6) (.cst (.str [114, 117, 110, 115]))) [(.expr (.meth 4 (.var 0) []))] [] :: r) [some (.loc l), o] s) Q := by
  refine w_ifE (ev_jnow .runs J rfl) (fun c => ?_) fun c => ?_
  · have c := of_decide_eq_true c
    subst c
    have hj := O.at_.resolve_left (by decide)
    obtain ⟨i, rfl⟩ : ∃ i : Nat, j = i := ⟨j.toNat, by omega⟩
    obtain ⟨v, s2, e2, rfl, J2⟩ := goOn_ok (k := k) N J O O.ne.2
    refine w_expr ⟨.non, s2, ?_, q s2 J2⟩
    rw [ev_meth hT hc (l := l) (by simp only [ev, List.getElem?_cons_zero, ok])]
    exact e2
  · have c := of_decide_eq_false c
    have eb : on1 (beginF n) kd w j qs = (w, j, qs) := by unfold on1; rw [if_neg c]
    rw [eb] at q
    exact q s J
theorem settle_ok (N : HasNd T) : ∀ (n k : Nat), Sets T (k + 3 * n + 1) n (settleF n)
  | n, k, .step l mk nm now off, R, s, F, ht, hf, H => by
    simp only [tree] at H
    have e : s[l]? = some (.inst 0 (stepV R.r mk nm now off)) := H.get
    show Wp (mcall T _ 3 l [] s) _
    rw [mcall_of e N.m03]
    have es : settleF n (.step l mk nm now off) = (.step l mk nm now off, []) := by cases n <;> rfl
    refine wp_run N.c98 rfl (w_pass (w_nil ⟨rfl, ?_⟩))
    rw [es, Rc.more_nil]
    simp only [tree]
    exact H
  | 0, k, .join l kd now i ps, R, s, F, ht, hf, H => (okT_zero ht).elim
  | n + 1, k, .join l kd now i ps, R, s, F, ht, hf, H => by
    have ih : ∀ k, Sets T (k + 3 * n + 1) n (settleF n) := fun k => settle_ok N n k
    obtain ⟨h1, _, h3⟩ := okT_join.mp ht
    have O0 := JOk.each ht
    have O1 := O0.on1
    simp only [settleF] at hf ⊢
    have H1 : Sep s (cell l (joinO kd now i (ps.map PT.l)) :: R.A :: (trees R.r ps ++ F)) := by
      simp only [tree] at H
      exact (show Sep s (cell l (joinO kd now i (ps.map PT.l)) :: (trees R.r ps ++ (R.A :: F))) from Sep.star.mp H).perm (List.Perm.cons _ List.perm_middle)
    have e : s[l]? = some (.inst kd.cls (joinV now i (ps.map PT.l))) := H1.get
    show Wp (mcall T (k + (3 * n + 3) + 1) 3 l [] s) _
    rw [mcall_of e (N.j3 kd)]
    have lv1 : k + (3 * n + 3) = (k + 2) + 3 * n + 1 := by omega
    refine wp_run N.c103 rfl (each_ok (T := T) (k := k + (3 * n + 3)) (f := settleF n) 90000 rfl rfl rfl (few_l hf) (fun p hp => fun {s R F} hb h => by rw [lv1]; exact ih (k + 2) (h3 p hp) hb h) H1 fun s1 o1 H2 => ?_)
    have J1 : JS s1 l kd now i (eachF (settleF n) ps).1 (ps.map PT.l) (R.more (eachF (settleF n) ps).2) F := ⟨H2, O0.l⟩
    replace hf := few_r hf
    have fin : ∀ {s' : Sto} {w : Nw} {j : Int} {qs : List PT} {R' : Rc}, R'.r = R.r → JS s' l kd w j qs (ps.map PT.l) R' F → Sep s' (tree R.r (.join l kd w j qs) :: R'.A :: F) := fun {s' w j qs R'} hr J => by
      have h := J.H.perm (List.Perm.cons _ (List.perm_middle (l₁ := trees R'.r qs) (l₂ := F)).symm)
      simp only [tree]
      refine Sep.star.mpr ?_
      rw [J.l, ← hr]
      exact h
    generalize (eachF (settleF n) ps).2 = ns at J1 hf ⊢
    generalize (eachF (settleF n) ps).1 = qs at O0 O1 J1 hf ⊢
    refine settle_mid N (k := k + 2 * n + 2) O0 J1 rfl (by show callN T (k + (3 * n + 3)) = _; congr 1; omega) fun s2 J2 => settle_tail N (ih k) O1 J2 hf rfl (by show callN T (k + (3 * n + 3)) = _; rfl) fun s3 J3 => w_nil ⟨rfl, ?_⟩
    rw [Rc.more_more] at J3
    exact fin rfl J3
end Lw
end
section
set_option Elab.async false
set_option linter.all false
set_option autoImplicit false
set_option maxRecDepth 100000
set_option maxHeartbeats 1000000
/-! Plans as values: their names, depth, parts. -/
namespace Lw
open Ab
mutual
def Pl.v : Pl → Val
  | .step mk nm => .tup [.str mk.txt, .str nm]
  | .join kd ps => .tup [.str kd.txt, .tup (Pl.vs ps)]
def Pl.vs : List Pl → List Val
  | [] => []
  | p :: ps => p.v :: Pl.vs ps
end
mutual
def Pl.names : Pl → List Txt
  | .step _ nm => [nm]
  | .join _ ps => Pl.namess ps
def Pl.namess : List Pl → List Txt
  | [] => []
  | p :: ps => p.names ++ Pl.namess ps
end
def most (ns : List Int) : Int := ns.foldl (fun a b => if b > a then b else a) (ns.headD 0)
mutual
def Pl.dep : Pl → Int
  | .step _ _ => 1
  | .join _ ps => 1 + most (Pl.deps ps)
def Pl.deps : List Pl → List Int
  | [] => []
  | p :: ps => p.dep :: Pl.deps ps
end
mutual
/-- of depth n at most, not many parts -/
def okP : Nat → Pl → Prop
  | n, .step _ _ => 1 ≤ n
  | n, .join _ ps => ∃ m, n = m + 1 ∧ (1 ≤ ps.length ∧ ps.length ≤ 5) ∧ okPs m ps
def okPs : Nat → List Pl → Prop
  | _, [] => True
  | n, p :: ps => okP n p ∧ okPs n ps
end
theorem vs_map : ∀ ps : List Pl, Pl.vs ps = ps.map Pl.v
  | [] => by simp [Pl.vs]
  | p :: ps => by simp [Pl.vs, vs_map ps]
theorem namess_map : ∀ ps : List Pl, Pl.namess ps = (ps.map Pl.names).flatten
  | [] => by simp [Pl.namess]
  | p :: ps => by simp [Pl.namess, namess_map ps]
theorem deps_map : ∀ ps : List Pl, Pl.deps ps = ps.map Pl.dep
  | [] => by simp [Pl.deps]
  | p :: ps => by simp [Pl.deps, deps_map ps]
theorem okPs_iff {n : Nat} : ∀ {ps : List Pl}, okPs n ps ↔ ∀ p ∈ ps, okP n p
  | [] => by simp [okPs]
  | p :: ps => by simp [okPs, okPs_iff (ps := ps)]
theorem okP_join {n : Nat} {kd : Kd} {ps : List Pl} : okP (n + 1) (.join kd ps) ↔ (1 ≤ ps.length ∧ ps.length ≤ 5) ∧ ∀ p ∈ ps, okP n p := by
  simp only [okP, okPs_iff]
  constructor
  · rintro ⟨m, hm, h1, h2⟩
    obtain rfl : n = m := by omega
    exact ⟨h1, h2⟩
  · rintro ⟨h1, h2⟩
    exact ⟨n, rfl, h1, h2⟩
theorem okP_pos {n : Nat} {p : Pl} (h : okP n p) : 1 ≤ n := by
  cases p with
  | step => simpa [okP] using h
  | join =>
    simp only [okP] at h
    obtain ⟨m, e, _⟩ := h
    omega
theorem v_step (mk : Mk) (nm : Txt) : (Pl.step mk nm).v = .tup [.str mk.txt, .str nm] := by simp [Pl.v]
theorem v_join (kd : Kd) (ps : List Pl) : (Pl.join kd ps).v = .tup [.str kd.txt, .tup (ps.map Pl.v)] := by simp [Pl.v, vs_map]
/-- the table holds the functions of plans -/
structure HasPl (T : Tab) : Prop where
  c0 : T.code 0 = some ⟨1, 1, Pg.c0⟩
  c1 : T.code 1 = some ⟨1, 3, Pg.c1⟩
  c2 : T.code 2 = some ⟨1, 2, Pg.c2⟩
  c3 : T.code 3 = some ⟨1, 2, Pg.c3⟩
  c4 : T.code 4 = some ⟨1, 2, Pg.c4⟩
  c6 : T.code 6 = some ⟨1, 3, Pg.c6⟩
  g0 : T.gv 0 = [.str [98, 97, 99, 107], .str [102, 105, 114, 109], .str [115, 117, 114, 101]]
  g1 : T.gv 1 = [.str letters]
  g2 : T.gv 2 = [.int 5]
  g3 : T.gv 3 = [.int 5]
  g4 : T.gv 4 = [.int 12]
theorem Wp.eq {α : Type} {m : R α} {a : α} {s : Sto} (h : Wp m fun v s' => v = a ∧ s' = s) : m = some (.ok a, s) := by
  obtain ⟨v, s', e, rfl, rfl⟩ := h
  exact e
section
variable {T : Tab} {C : Ctx} {k : Nat} {s : Sto}
/-- a comprehension that changes nothing -/
theorem ev_compP {elt : Ex} {it : It} {own : List Nat} {j : Nat} {ws : List Val} {g : Val → Val} {en : Env} (e1 : evi C it en s = some (.ok (ws, none), s)) (hl : ws.length ≤ LIM) (h : ∀ v ∈ ws, ev C elt ((wipe en own).set j (some v)) s = some (.ok (g v), s)) : ev C (.comp false elt (.name j) it none own) en s = some (.ok (.lst (ws.map g)), s) := by
  refine Wp.eq (wp_compE (fun i acc s' => s' = s ∧ acc = (ws.take i).map g) e1 hl ⟨rfl, rfl⟩ (fun _ _ _ _ => rfl) ?_ ?_)
  · rintro i v acc s' hv ⟨rfl, rfl⟩
    have hv : ws[i]? = some v := hv
    refine ⟨_, rfl, true, s', by simp only [evc, ok], fun _ => ?_, fun z => (by cases z)⟩
    refine ⟨_, s', h v (List.mem_of_getElem? hv), rfl, ?_⟩
    rw [List.take_add_one, hv]
    simp
  · rintro us s' ⟨rfl, rfl⟩
    refine ⟨?_, rfl⟩
    show Val.lst _ = _
    rw [List.take_length]
theorem is_step_ok (N : HasPl T) (p : Pl) : callN T (k + 1) 0 [p.v] s = some (.ok (.bl (match p with | .step _ _ => true | .join _ _ => false)), s) := by
  refine Wp.eq (wp_run N.c0 rfl (w_ret ⟨_, s, ?_, rfl, rfl⟩))
  cases p with
  | step mk nm =>
    rw [v_step]
    simp only [ev, evs, evo, evc, evi, bnd, ok, pur, lift, List.map_cons, List.map_nil, List.cons_append, List.nil_append, List.getElem?_cons_zero, List.getElem?_cons_succ, List.set_cons_zero, List.set_cons_succ, List.replicate_succ, List.replicate_zero, Nat.reduceSub, itemV, seqOf, lstOf, Option.bind_some, Option.bind_none, cmpV, binV, biV, bmV, bmO, bmR, bmC, bmI, bmTy, alloc, Option.map_some, Option.map_none, Bool.false_eq_true, if_false, if_true, optI, walkV, List.length_cons, List.length_nil, lim_le, lim_lt, Nat.zero_add, Nat.reduceAdd, Nat.reduceLeDiff, Nat.zero_le, Nat.reduceLT, Option.isSome_some, N.g0, atI_zero]
    cases mk <;> rfl
  | join kd ps =>
    rw [v_join]
    simp only [ev, evs, evo, evc, evi, bnd, ok, pur, lift, List.map_cons, List.map_nil, List.cons_append, List.nil_append, List.getElem?_cons_zero, List.getElem?_cons_succ, List.set_cons_zero, List.set_cons_succ, List.replicate_succ, List.replicate_zero, Nat.reduceSub, itemV, seqOf, lstOf, Option.bind_some, Option.bind_none, cmpV, binV, biV, bmV, bmO, bmR, bmC, bmI, bmTy, alloc, Option.map_some, Option.map_none, Bool.false_eq_true, if_false, if_true, optI, walkV, List.length_cons, List.length_nil, lim_le, lim_lt, Nat.zero_add, Nat.reduceAdd, Nat.reduceLeDiff, Nat.zero_le, Nat.reduceLT, Option.isSome_some, N.g0, atI_zero]
    cases kd <;> rfl
theorem ev_bin {op : BOp} {m : Bool} {a b : Ex} {x y u : Val} {en : Env} {s s1 s2 s3 : Sto} (h1 : ev C a en s = some (.ok x, s1)) (h2 : ev C b en s1 = some (.ok y, s2)) (h3 : binV op m x y s2 = some (u, s3)) : ev C (.bin op m a b) en s = some (.ok u, s3) := by
  rw [ev, h1]
  simp only [bnd, h2, h3, lift, ok]
theorem ev_cmp {op : COp} {a b : Ex} {x y : Val} {u : Bool} {en : Env} {s s1 s2 : Sto} (h1 : ev C a en s = some (.ok x, s1)) (h2 : ev C b en s1 = some (.ok y, s2)) (h3 : cmpV op x y s2 = some u) : ev C (.cmp op a b) en s = some (.ok (.bl u), s2) := by
  rw [ev, h1]
  simp only [bnd, h2, h3, Option.map_some, pur, ok]
theorem ev_not {a : Ex} {u : Bool} {en : Env} {s s1 : Sto} (h1 : ev C a en s = some (.ok (.bl u), s1)) : ev C (.notE a) en s = some (.ok (.bl (!u)), s1) := by
  rw [ev, h1]
  simp only [bnd, ok]
/-- a plan's second thing -/
theorem atI_one {α : Type} {x y : α} {xs : List α} : L2.atI (x :: y :: xs) 1 = some y := atI_of (i := 1) rfl
theorem ev_second {i : Nat} {a b : Val} {en : Env} (g : en[i]? = some (some (.tup [a, b]))) : ev C (.item (.var i) (.cst (.int 1))) en s = some (.ok b, s) := by
  simp only [ev, evs, evo, evc, evi, bnd, ok, pur, lift, List.map_cons, List.map_nil, List.cons_append, List.nil_append, List.getElem?_cons_zero, List.getElem?_cons_succ, List.set_cons_zero, List.set_cons_succ, List.replicate_succ, List.replicate_zero, Nat.reduceSub, itemV, seqOf, lstOf, Option.bind_some, Option.bind_none, cmpV, binV, biV, bmV, bmO, bmR, bmC, bmI, bmTy, alloc, Option.map_some, Option.map_none, Bool.false_eq_true, if_false, if_true, optI, walkV, List.length_cons, List.length_nil, lim_le, lim_lt, Nat.zero_add, Nat.reduceAdd, Nat.reduceLeDiff, Nat.zero_le, Nat.reduceLT, Option.isSome_some, g, atI_one]
theorem ev_first {i : Nat} {a b : Val} {en : Env} (g : en[i]? = some (some (.tup [a, b]))) : ev C (.item (.var i) (.cst (.int 0))) en s = some (.ok a, s) := by
  simp only [ev, evs, evo, evc, evi, bnd, ok, pur, lift, List.map_cons, List.map_nil, List.cons_append, List.nil_append, List.getElem?_cons_zero, List.getElem?_cons_succ, List.set_cons_zero, List.set_cons_succ, List.replicate_succ, List.replicate_zero, Nat.reduceSub, itemV, seqOf, lstOf, Option.bind_some, Option.bind_none, cmpV, binV, biV, bmV, bmO, bmR, bmC, bmI, bmTy, alloc, Option.map_some, Option.map_none, Bool.false_eq_true, if_false, if_true, optI, walkV, List.length_cons, List.length_nil, lim_le, lim_lt, Nat.zero_add, Nat.reduceAdd, Nat.reduceLeDiff, Nat.zero_le, Nat.reduceLT, Option.isSome_some, g, atI_zero]
theorem evi_second {i : Nat} {a : Val} {vs : List Val} {en : Env} (g : en[i]? = some (some (.tup [a, .tup vs]))) : evi C (.val (.item (.var i) (.cst (.int 1)))) en s = some (.ok (vs, none), s) := by
  rw [evi, ev_second g]
  rfl
theorem ev_call1 {f i : Nat} {v u : Val} {en : Env} (g : en[i]? = some (some v)) (h : C.call f [v] s = some (.ok u, s)) : ev C (.call f [.var i]) en s = some (.ok u, s) := by
  simp only [ev, evs, g, ok, bnd, h]
theorem w_step? {p : Pl} {en : Env} {a r : List Stm} {Q : SR → Env → Sto → Prop} (N : HasPl T) (hc : C.call = callN T (k + 1)) (g : en[0]? = some (some p.v)) (h1 : ∀ mk nm, p = .step mk nm → WpS (execs C (a ++ r) en s) Q) (h2 : ∀ kd ps, p = .join kd ps → WpS (execs C r en s) Q) :
    WpS (execs C (.ifS (.call 0 [(.var 0)]) a [] :: r) en s) Q := by
  refine w_ifE (ev_call1 g (by rw [hc]; exact is_step_ok N p)) (fun c => ?_) fun c => ?_
  · cases p with
    | step mk nm => exact h1 mk nm rfl
    | join kd ps => cases c
  · cases p with
    | step mk nm => cases c
    | join kd ps => exact h2 kd ps rfl
theorem names_len : ∀ {n : Nat} {p : Pl}, okP n p → p.names.length ≤ 5 ^ n
  | n, .step mk nm, h => by simp only [Pl.names, List.length_cons, List.length_nil]; exact Nat.one_le_pow _ _ (by decide)
  | 0, .join kd ps, h => by have := okP_pos h; omega
  | n + 1, .join kd ps, h => by
    obtain ⟨h1, h2⟩ := okP_join.mp h
    simp only [Pl.names, namess_map]
    have : ∀ ps : List Pl, (∀ p ∈ ps, okP n p) → (ps.map Pl.names).flatten.length ≤ ps.length * 5 ^ n := by
      intro ps
      induction ps with
      | nil => simp
      | cons p ps ih =>
        intro h
        have a := names_len (h p List.mem_cons_self)
        have b := ih fun q hq => h q (List.mem_cons_of_mem _ hq)
        simp only [List.map_cons, List.flatten_cons, List.length_append, List.length_cons, Nat.add_mul, Nat.one_mul]
        omega
    have := this ps h2
    have h3 : ps.length * 5 ^ n ≤ 5 * 5 ^ n := Nat.mul_le_mul_right _ h1.2
    rw [Nat.pow_succ]
    omega
/-- names_of -/
theorem names_ok (N : HasPl T) : ∀ (n : Nat) {p : Pl} {k : Nat}, okP n p → n ≤ 7 → callN T (k + n + 1) 1 [p.v] s = some (.ok (.lst (p.names.map .str)), s)
  | 0, p, k, h, _ => by have := okP_pos h; omega
  | n + 1, p, k, h, hn => by
    have ih := fun {p : Pl} {k : Nat} (h : okP n p) => names_ok N n (k := k) h (by omega)
    have h0 := h
    refine Wp.eq (wp_run N.c1 rfl (w_step? N (k := k + n) rfl rfl (fun mk nm hp => ?_) fun kd ps hp => ?_))
    · subst hp
      refine w_ret ?_
      rw [v_step]
      simp only [ev, evs, evo, evc, evi, wp_bnd, wp_ok, wp_pur, wp_lift, List.map_cons, List.map_nil, List.cons_append, List.nil_append, List.getElem?_cons_zero, List.getElem?_cons_succ, List.set_cons_zero, List.set_cons_succ, List.replicate_succ, List.replicate_zero, Nat.reduceSub, itemV, seqOf, lstOf, Option.bind_some, Option.bind_none, cmpV, binV, biV, bmV, bmO, bmR, bmC, bmI, bmTy, alloc, Option.map_some, Option.map_none, Bool.false_eq_true, if_false, if_true, Option.some.injEq, Prod.mk.injEq, Val.bl.injEq, Val.int.injEq, Val.loc.injEq, Val.str.injEq, Val.lst.injEq, Val.tup.injEq, exists_eq_left', exists_eq_left, exists_and_left, exists_and_right, and_assoc, true_and, and_true, Option.isSome_some, id_eq, Bool.not_true, Bool.not_false, optI, List.length_cons, List.length_nil, lim_le, lim_lt, Nat.zero_add, Nat.reduceAdd, Nat.reduceLeDiff, Nat.zero_le, Nat.reduceLT, atI_one]
      rfl
    · subst hp
      obtain ⟨h1, h2⟩ := okP_join.mp h
      rw [v_join]
      refine w_asg ?_
      simp only [ev, evs, evo, evc, evi, wp_bnd, wp_ok, wp_pur, wp_lift, List.map_cons, List.map_nil, List.cons_append, List.nil_append, List.getElem?_cons_zero, List.getElem?_cons_succ, List.set_cons_zero, List.set_cons_succ, List.replicate_succ, List.replicate_zero, Nat.reduceSub, itemV, seqOf, lstOf, Option.bind_some, Option.bind_none, cmpV, binV, biV, bmV, bmO, bmR, bmC, bmI, bmTy, alloc, Option.map_some, Option.map_none, Bool.false_eq_true, if_false, if_true, Option.some.injEq, Prod.mk.injEq, Val.bl.injEq, Val.int.injEq, Val.loc.injEq, Val.str.injEq, Val.lst.injEq, Val.tup.injEq, exists_eq_left', exists_eq_left, exists_and_left, exists_and_right, and_assoc, true_and, and_true, Option.isSome_some, id_eq, Bool.not_true, Bool.not_false, optI, List.length_cons, List.length_nil, lim_le, lim_lt, Nat.zero_add, Nat.reduceAdd, Nat.reduceLeDiff, Nat.zero_le, Nat.reduceLT]
      refine w_forE (fun i en s' => s' = s ∧ ∃ o, en = [some (.tup [.str kd.txt, .tup (ps.map Pl.v)]), some (.lst (((ps.take i).map Pl.names).flatten.map .str)), o]) (evi_second rfl) ⟨rfl, _, rfl⟩ (fun _ _ _ _ => rfl) ?_ ?_
      · rintro i v en s' hv ⟨rfl, o, rfl⟩
        have hv : (ps.map Pl.v)[i]? = some v := hv
        rw [List.getElem?_map, Option.map_eq_some_iff] at hv
        obtain ⟨p, hp, rfl⟩ := hv
        refine ⟨_, rfl, w_asg ?_⟩
        have ep := ih (k := k) (h2 p (List.mem_of_getElem? hp))
        have e1 : ev { T := T, call := callN T (k + (n + 1)), init := callN T (k + (n + 1) - 1) } (.call 1 [.var 2]) [some (.tup [.str kd.txt, .tup (ps.map Pl.v)]), some (.lst (((ps.take i).map Pl.names).flatten.map .str)), some p.v] s' = some (.ok (.lst (p.names.map .str)), s') := ev_call1 rfl ep
        have hb : (((ps.take i).map Pl.names).flatten.map Val.str).length + (p.names.map Val.str).length ≤ LIM := by
          have t1 := names_len h0
          have e5 : (Pl.join kd ps).names = ((ps.take i).map Pl.names).flatten ++ (p.names ++ ((ps.drop (i + 1)).map Pl.names).flatten) := by
            simp only [Pl.names, namess_map]
            have hlt := (List.getElem?_eq_some_iff.mp hp).1
            have hd : ps.drop i = p :: ps.drop (i + 1) := by
              rw [List.drop_eq_getElem_cons hlt]
              congr 1
              exact (List.getElem?_eq_some_iff.mp hp).2
            have : ps = ps.take i ++ p :: ps.drop (i + 1) := by rw [← hd, List.take_append_drop]
            conv => lhs; rw [this]
            simp
          rw [e5] at t1
          simp only [List.length_append, List.length_map] at t1 ⊢
          have : 5 ^ (n + 1) ≤ 5 ^ 7 := Nat.pow_le_pow_right (by omega) hn
          show _ ≤ 100000
          omega
        refine ⟨_, s', ev_bin (x := .lst (((ps.take i).map Pl.names).flatten.map .str)) (y := .lst (p.names.map .str)) (u := .lst (((ps.take (i + 1)).map Pl.names).flatten.map .str)) (s3 := s') rfl e1 ?_, w_nil ⟨rfl, _, rfl⟩⟩
        simp only [binV, lstOf, if_pos hb, alloc, Bool.false_eq_true, if_false]
        rw [List.take_add_one, hp]
        simp
      · rintro en s' ⟨rfl, o, rfl⟩
        refine w_ret ⟨_, s', rfl, ?_, rfl⟩
        have : ((ps.map Pl.v, none) : Walk).1.length = ps.length := by simp
        rw [this, List.take_length]
        simp only [Pl.names, namess_map]
theorem intsOf_map {α : Type} {f : α → Int} {l : List α} : intsOf (l.map fun p => Val.int (f p)) = some (l.map f) := by
  induction l with
  | nil => rfl
  | cons p ps ih => simp only [List.map_cons, intsOf, ih, Option.map_some]
theorem boolsOf_map {α : Type} {f : α → Bool} {l : List α} : boolsOf (l.map fun p => Val.bl (f p)) = some (l.map f) := by
  induction l with
  | nil => rfl
  | cons p ps ih => simp only [List.map_cons, boolsOf, ih, Option.map_some]
/-- a comprehension over parts, by a call -/
theorem ev_compC {f : Nat} {ps : List Pl} {g : Pl → Val} {a : Val} {en : Env} (hl : ps.length ≤ 100000) (g0 : en = [some (.tup [a, .tup (ps.map Pl.v)]), none]) (h : ∀ p ∈ ps, C.call f [p.v] s = some (.ok (g p), s)) : ev C (.comp false (.call f [(.var 1)]) (.name 1) (.val (.item (.var 0) (.cst (.int 1)))) none [1]) en s = some (.ok (.lst (ps.map g)), s) := by
  subst g0
  have key := ev_compP (C := C) (s := s) (elt := .call f [.var 1]) (it := .val (.item (.var 0) (.cst (.int 1)))) (own := [1]) (j := 1) (ws := ps.map Pl.v) (en := [some (.tup [a, .tup (ps.map Pl.v)]), none]) (g := fun v => match C.call f [v] s with | some (.ok u, _) => u | _ => .non) (evi_second rfl) (by rw [List.length_map]; exact hl) (fun v hv => by
    obtain ⟨p, hp, rfl⟩ := List.mem_map.mp hv
    rw [h p hp]
    exact ev_call1 rfl (h p hp))
  rw [key, List.map_map]
  have : List.map ((fun v => match C.call f [v] s with | some (.ok u, _) => u | _ => .non) ∘ Pl.v) ps = ps.map g := List.map_congr_left fun p hp => by
    simp only [Function.comp, h p hp]
  rw [this]
theorem dep_ok (N : HasPl T) : ∀ (n : Nat) {p : Pl} {k : Nat}, okP n p → callN T (k + n + 1) 2 [p.v] s = some (.ok (.int p.dep), s)
  | 0, p, k, h => by have := okP_pos h; omega
  | n + 1, p, k, h => by
    have ih := fun {p : Pl} {k : Nat} (h : okP n p) => dep_ok N n (k := k) h
    refine Wp.eq (wp_run N.c2 rfl (w_step? N (k := k + n) rfl rfl (fun mk nm hp => ?_) fun kd ps hp => ?_))
    · subst hp
      refine w_ret ?_
      simp only [ev, evs, evo, evc, evi, wp_bnd, wp_ok, wp_pur, wp_lift, List.map_cons, List.map_nil, List.cons_append, List.nil_append, List.getElem?_cons_zero, List.getElem?_cons_succ, List.set_cons_zero, List.set_cons_succ, List.replicate_succ, List.replicate_zero, Nat.reduceSub, itemV, seqOf, lstOf, Option.bind_some, Option.bind_none, cmpV, binV, biV, bmV, bmO, bmR, bmC, bmI, bmTy, alloc, Option.map_some, Option.map_none, Bool.false_eq_true, if_false, if_true, Option.some.injEq, Prod.mk.injEq, Val.bl.injEq, Val.int.injEq, Val.loc.injEq, Val.str.injEq, Val.lst.injEq, Val.tup.injEq, exists_eq_left', exists_eq_left, exists_and_left, exists_and_right, and_assoc, true_and, and_true, Option.isSome_some, id_eq, Bool.not_true, Bool.not_false, optI, List.length_cons, List.length_nil, lim_le, lim_lt, Nat.zero_add, Nat.reduceAdd, Nat.reduceLeDiff, Nat.zero_le, Nat.reduceLT]
      rfl
    · subst hp
      obtain ⟨h1, h2⟩ := okP_join.mp h
      rw [v_join]
      refine w_ret ⟨.int (Pl.join kd ps).dep, s, ?_, rfl, rfl⟩
      have e1 := ev_compC (s := s) (C := { T := T, call := callN T (k + (n + 1)), init := callN T (k + (n + 1) - 1) }) (f := 2) (ps := ps) (g := fun p => .int p.dep) (a := .str kd.txt) (by omega) rfl fun p hp => ih (k := k) (h2 p hp)
      refine ev_bin (x := .int 1) (y := .int (most (ps.map Pl.dep))) (s1 := s) (s2 := s) (by simp only [ev, ok]) ?_ ?_
      · rw [ev]
        refine (congrArg (fun x => bnd x _) e1).trans ?_
        simp only [bnd, biV, lstOf, Option.bind_some, intsOf_map, Option.map_some, lift]
        rfl
      · simp only [binV, Pl.dep, deps_map]
theorem fits_ok (N : HasPl T) : ∀ (n : Nat) {p : Pl} {k : Nat}, okP n p → callN T (k + n + 1) 3 [p.v] s = some (.ok (.bl true), s)
  | 0, p, k, h => by have := okP_pos h; omega
  | n + 1, p, k, h => by
    have ih := fun {p : Pl} {k : Nat} (h : okP n p) => fits_ok N n (k := k) h
    refine Wp.eq (wp_run N.c3 rfl (w_step? N (k := k + n) rfl rfl (fun mk nm hp => ?_) fun kd ps hp => ?_))
    · subst hp
      refine w_ret ?_
      simp only [ev, evs, evo, evc, evi, wp_bnd, wp_ok, wp_pur, wp_lift, List.map_cons, List.map_nil, List.cons_append, List.nil_append, List.getElem?_cons_zero, List.getElem?_cons_succ, List.set_cons_zero, List.set_cons_succ, List.replicate_succ, List.replicate_zero, Nat.reduceSub, itemV, seqOf, lstOf, Option.bind_some, Option.bind_none, cmpV, binV, biV, bmV, bmO, bmR, bmC, bmI, bmTy, alloc, Option.map_some, Option.map_none, Bool.false_eq_true, if_false, if_true, Option.some.injEq, Prod.mk.injEq, Val.bl.injEq, Val.int.injEq, Val.loc.injEq, Val.str.injEq, Val.lst.injEq, Val.tup.injEq, exists_eq_left', exists_eq_left, exists_and_left, exists_and_right, and_assoc, true_and, and_true, Option.isSome_some, id_eq, Bool.not_true, Bool.not_false, optI, List.length_cons, List.length_nil, lim_le, lim_lt, Nat.zero_add, Nat.reduceAdd, Nat.reduceLeDiff, Nat.zero_le, Nat.reduceLT]
    · subst hp
      obtain ⟨h1, h2⟩ := okP_join.mp h
      rw [v_join]
      refine w_ifE (v := false) ?_ (fun c => by cases c) fun _ => ?_
      · have a1 : ¬ ((ps.length : Int) < 1) := by omega
        have a2 : ¬ ((5 : Int) < ps.length) := by omega
        simp only [ev, evs, evo, evc, evi, bnd, ok, pur, lift, List.map_cons, List.map_nil, List.cons_append, List.nil_append, List.getElem?_cons_zero, List.getElem?_cons_succ, List.set_cons_zero, List.set_cons_succ, List.replicate_succ, List.replicate_zero, Nat.reduceSub, itemV, seqOf, lstOf, Option.bind_some, Option.bind_none, cmpV, binV, biV, bmV, bmO, bmR, bmC, bmI, bmTy, alloc, Option.map_some, Option.map_none, Bool.false_eq_true, if_false, if_true, optI, walkV, List.length_cons, List.length_nil, lim_le, lim_lt, Nat.zero_add, Nat.reduceAdd, Nat.reduceLeDiff, Nat.zero_le, Nat.reduceLT, Option.isSome_some, atI_one, seqOf, List.length_map, N.g2, List.headD_cons, decide_eq_false a1, decide_eq_false a2]
      · have e1 := ev_compC (s := s) (C := { T := T, call := callN T (k + (n + 1)), init := callN T (k + (n + 1) - 1) }) (f := 3) (ps := ps) (g := fun p => .bl true) (a := .str kd.txt) (by omega) rfl fun p hp => ih (k := k) (h2 p hp)
        refine w_ret ⟨.bl true, s, ?_, rfl, rfl⟩
        refine ev_bi1 e1 ?_
        simp only [biV, lstOf, Option.bind_some, boolsOf_map, Option.map_some]
        congr 3
        simp
/-- a name as it should be -/
def nameOk (w : Txt) : Prop := 1 ≤ w.length ∧ w.length ≤ 6 ∧ ∀ c ∈ w, c ∈ letters
theorem name_ok (N : HasPl T) {w : Txt} (h : nameOk w) : callN T (k + 1) 4 [.str w] s = some (.ok (.bl true), s) := by
  obtain ⟨h1, h2, h3⟩ := h
  refine Wp.eq (wp_run N.c4 rfl ?_)
  have hl : w.length ≤ LIM := Nat.le_trans h2 (by decide)
  refine w_ifE (v := false) ?_ (fun c => by cases c) fun _ => ?_
  · have a1 : ¬ ((w.length : Int) < 1) := by omega
    have a2 : ¬ ((6 : Int) < w.length) := by omega
    simp only [ev, evs, evo, evc, evi, bnd, ok, pur, lift, List.map_cons, List.map_nil, List.cons_append, List.nil_append, List.getElem?_cons_zero, List.getElem?_cons_succ, List.set_cons_zero, List.set_cons_succ, List.replicate_succ, List.replicate_zero, Nat.reduceSub, itemV, seqOf, lstOf, Option.bind_some, Option.bind_none, cmpV, binV, biV, bmV, bmO, bmR, bmC, bmI, bmTy, alloc, Option.map_some, Option.map_none, Bool.false_eq_true, if_false, if_true, optI, walkV, List.length_cons, List.length_nil, lim_le, lim_lt, Nat.zero_add, Nat.reduceAdd, Nat.reduceLeDiff, Nat.zero_le, Nat.reduceLT, Option.isSome_some, if_pos hl, decide_eq_false a1, decide_eq_false a2]
  · have e1 : ev { T := T, call := callN T k, init := callN T (k - 1) } (.comp false (.cmp .inn (.var 1) (.glob 1)) (.name 1) (.val (.var 0)) none [1]) [some (.str w), none] s = some (.ok (.lst ((w.map fun c => Val.str [c]).map fun _ => .bl true)), s) := by
      refine ev_compP (ws := w.map fun c => Val.str [c]) (by simp only [evi, ev, List.getElem?_cons_zero, ok, bnd, walkV, pur]) (by simpa using hl) fun v hv => ?_
      obtain ⟨c, hc, rfl⟩ := List.mem_map.mp hv
      have hd : decide (c ∈ letters) = true := decide_eq_true (h3 c hc)
      simp only [ev, wipe, List.set_cons_succ, List.set_cons_zero, List.getElem?_cons_zero, List.getElem?_cons_succ, ok, bnd, N.g1, List.headD_cons, cmpV, inV, hd, Option.map_some, pur]
    refine w_ret ⟨.bl true, s, ?_, rfl, rfl⟩
    refine ev_bi1 e1 ?_
    simp only [biV, lstOf, Option.bind_some, boolsOf_map (f := fun _ => true), Option.map_some]
    congr 3
    simp
theorem unl_nd {xs : List Txt} (h : xs.Nodup) : ∀ i, i ≤ xs.length → unl xs i = i
  | 0, _ => rfl
  | i + 1, hi => by
    have e : xs[i]? = some xs[i] := List.getElem?_eq_getElem (by omega)
    have : xs[i] ∉ xs.take i := fun z => by
      obtain ⟨j, hj, ej⟩ := List.mem_take_iff_getElem.mp z
      have := (List.getElem_inj h).mp ej
      omega
    simp only [unl, unl_nd h i (by omega), e, if_neg this]
/-- a plan that can be -/
structure GoodP (p : Pl) : Prop where
  ok : okP 5 p
  nm : ∀ w ∈ p.names, nameOk w
  few : p.names.length ≤ 12
  nd : p.names.Nodup
theorem dep_le : ∀ {n : Nat} {p : Pl}, okP n p → p.dep ≤ n
  | n, .step mk nm, h => by simp only [Pl.dep]; have := okP_pos h; omega
  | 0, .join kd ps, h => by have := okP_pos h; omega
  | n + 1, .join kd ps, h => by
    obtain ⟨h1, h2⟩ := okP_join.mp h
    have hh : ∀ x ∈ Pl.deps ps, x ≤ n := fun x hx => by
      rw [deps_map] at hx
      obtain ⟨p, hp, rfl⟩ := List.mem_map.mp hx
      exact dep_le (h2 p hp)
    have key : ∀ (l : List Int) (a : Int), a ≤ n → (∀ x ∈ l, x ≤ n) → l.foldl (fun a b => if b > a then b else a) a ≤ n := by
      intro l
      induction l with
      | nil => exact fun a ha _ => ha
      | cons x l ih =>
        intro a ha hl
        refine ih _ ?_ fun y hy => hl y (List.mem_cons_of_mem _ hy)
        have := hl x List.mem_cons_self
        show (if x > a then x else a) ≤ (n : Int)
        split <;> omega
    have hd : (Pl.deps ps).headD 0 ≤ n := by
      cases e : Pl.deps ps with
      | nil => simp
      | cons x l => exact hh x (by rw [e]; exact List.mem_cons_self)
    have := key _ _ hd hh
    simp only [Pl.dep, most]
    omega
theorem check_ok (N : HasPl T) {p : Pl} (h : GoodP p) : callN T (k + 7) 6 [p.v] s = some (.ok .non, s) := by
  refine Wp.eq (wp_run N.c6 rfl (w_asg ⟨.lst (p.names.map .str), s, ev_call1 rfl (names_ok N 5 (k := k) h.ok (by decide)), ?_⟩))
  refine w_ifE (v := false) ?_ (fun c => by cases c) fun _ => ?_
  · refine ev_not (u := true) ?_
    have e1 : ev { T := T, call := callN T (k + 6), init := callN T (k + 6 - 1) } (.comp false (.call 4 [(.var 2)]) (.name 2) (.val (.var 1)) none [2]) [some p.v, some (.lst (p.names.map .str)), none] s = some (.ok (.lst ((p.names.map Val.str).map fun _ => .bl true)), s) := by
      refine ev_compP (ws := p.names.map Val.str) rfl (by have := h.few; show _ ≤ 100000; simp; omega) fun v hv => ?_
      obtain ⟨w, hw, rfl⟩ := List.mem_map.mp hv
      exact ev_call1 rfl (name_ok N (k := k + 5) (h.nm w hw))
    refine ev_bi1 e1 ?_
    simp only [biV, lstOf, Option.bind_some, boolsOf_map (f := fun _ => true), Option.map_some]
    congr 3
    simp
  refine w_ifE (v := false) (ev_not (u := true) (ev_call1 rfl (fits_ok N 5 (k := k) h.ok))) (fun c => by cases c) fun _ => ?_
  refine w_ifE (v := false) (ev_cmp (x := .int p.dep) (y := .int 5) (ev_call1 rfl (dep_ok N 5 (k := k) h.ok)) (by simp only [ev, N.g3, List.headD_cons, ok]) ?_) (fun c => by cases c) fun _ => ?_
  · have := dep_le h.ok
    simp only [cmpV]
    rw [decide_eq_false (by omega)]
  have len : ∀ C : Ctx, ev C (.bi .len false [(.var 1)]) [some p.v, some (.lst (p.names.map .str)), none] s = some (.ok (.int p.names.length), s) := fun C => ev_bi1 rfl (by simp only [biV, seqOf, lstOf, Option.map_some, List.length_map])
  refine w_ifE (v := false) (ev_cmp (x := .int p.names.length) (y := .int 12) (len _) (by simp only [ev, N.g4, List.headD_cons, ok]) ?_) (fun c => by cases c) fun _ => ?_
  · have := h.few
    simp only [cmpV]
    rw [decide_eq_false (by omega)]
  refine w_ifE (v := false) (ev_cmp (x := .int p.names.length) (y := .int p.names.length) ?_ (len _) ?_) (fun c => by cases c) fun _ => w_nil ⟨rfl, rfl⟩
  · have := h.few
    have hl : p.names.length ≤ 4000 := by omega
    show ev _ (.lenset (.var 1)) [some p.v, some (.lst (p.names.map .str)), none] s = _
    simp only [List.map_cons, List.map_nil, List.cons_append, List.nil_append, ev, List.set_cons_succ, List.set_cons_zero, List.getElem?_cons_succ, List.getElem?_cons_zero, ok, bnd, biV, lstOf, Option.bind_some, strs_of, if_pos hl, unl_nd h.nd _ (Nat.le_refl _), lift]
  · simp only [cmpV]
    rw [decide_eq_false (by omega)]
end
end Lw
end
section
set_option Elab.async false
set_option linter.all false
set_option autoImplicit false
set_option maxRecDepth 100000
set_option maxHeartbeats 1000000
/-! Parts are made from a plan. -/
namespace Lw
open Ab
mutual
/-- the steps by their names, as they are made -/
def PT.steps : PT → List (Txt × Nat)
  | .step l _ nm _ _ => [(nm, l)]
  | .join _ _ _ _ ps => PT.stepss ps
def PT.stepss : List PT → List (Txt × Nat)
  | [] => []
  | p :: ps => p.steps ++ PT.stepss ps
end
mutual
def PT.pl : PT → Pl
  | .step _ mk nm _ _ => .step mk nm
  | .join _ kd _ _ ps => .join kd (PT.pls ps)
def PT.pls : List PT → List Pl
  | [] => []
  | p :: ps => p.pl :: PT.pls ps
end
theorem stepss_map : ∀ ps : List PT, PT.stepss ps = (ps.map PT.steps).flatten
  | [] => by simp [PT.stepss]
  | p :: ps => by simp [PT.stepss, stepss_map ps]
theorem pls_map : ∀ ps : List PT, PT.pls ps = ps.map PT.pl
  | [] => by simp [PT.pls]
  | p :: ps => by simp [PT.pls, pls_map ps]
mutual
theorem steps_names : ∀ t : PT, t.steps.map Prod.fst = t.pl.names
  | .step l mk nm now off => rfl
  | .join l kd now i ps => by
    simp only [PT.steps, PT.pl, Pl.names]
    exact stepss_names ps
theorem stepss_names : ∀ ps : List PT, (PT.stepss ps).map Prod.fst = Pl.namess (PT.pls ps)
  | [] => rfl
  | p :: ps => by
    simp only [PT.stepss, PT.pls, Pl.namess, List.map_append]
    rw [steps_names p, stepss_names ps]
end
mutual
theorem okT_fresh : ∀ (n : Nat) (t : PT), okP n t.pl → fresh t → okT n t
  | n, .step l mk nm now off, h, _ => by simpa [okT, PT.pl, okP] using h
  | 0, .join l kd now i ps, h, _ => by have := okP_pos h; omega
  | n + 1, .join l kd now i ps, h, hf => by
    simp only [PT.pl, pls_map] at h
    obtain ⟨h1, h2⟩ := okP_join.mp h
    obtain ⟨rfl, rfl, hp⟩ := fresh_join.mp hf
    simp only [List.length_map] at h1
    refine okT_join.mpr ⟨⟨fun z => by subst z; simp at h1, by omega⟩, ⟨.inr ⟨by omega, by omega⟩, ⟨fun _ => ⟨rfl, hp⟩, fun z => (by cases z)⟩⟩, okTs_fresh n ps (fun p hp => h2 _ (List.mem_map_of_mem hp)) hp⟩
theorem okTs_fresh : ∀ (n : Nat) (ps : List PT), (∀ p ∈ ps, okP n p.pl) → (∀ p ∈ ps, fresh p) → ∀ p ∈ ps, okT n p
  | n, [], _, _ => fun p hp => by cases hp
  | n, q :: ps, h1, h2 => fun p hp => by
    rcases List.mem_cons.mp hp with z | z
    · rw [z]
      exact okT_fresh n q (h1 q List.mem_cons_self) (h2 q List.mem_cons_self)
    · exact okTs_fresh n ps (fun p hp => h1 p (List.mem_cons_of_mem _ hp)) (fun p hp => h2 p (List.mem_cons_of_mem _ hp)) p z
end
def Rc.reg (R : Rc) (ns : List (Txt × Nat)) : Rc := { R with by_ := R.by_ ++ ns }
theorem Rc.reg_nil (R : Rc) : R.reg [] = R := by simp [Rc.reg]
theorem Rc.reg_reg (R : Rc) (a b : List (Txt × Nat)) : (R.reg a).reg b = R.reg (a ++ b) := by simp [Rc.reg]
/-- the table holds what makes parts -/
structure HasMk (T : Tab) : Prop extends HasNd T, HasPl T where
  c5 : T.code 5 = some ⟨2, 4, Pg.c5⟩
  c91 : T.code 91 = some ⟨1, 1, Pg.c91⟩
  c92 : T.code 92 = some ⟨4, 4, Pg.c92⟩
  c99 : T.code 99 = some ⟨2, 2, Pg.c99⟩
  i0 : T.init 0 = 92
  ij : ∀ kd : Kd, T.init kd.cls = 99
  i4 : T.init 4 = 91
theorem dget_none {kvs : List (Txt × Nat)} {x : Txt} (h : x ∉ kvs.map Prod.fst) : dget (kvs.map fun p => (p.1, Val.loc p.2)) x = none := by
  induction kvs with
  | nil => rfl
  | cons p r ih =>
    simp only [List.map_cons, List.mem_cons, not_or] at h
    simp only [List.map_cons, dget]
    rw [if_neg fun z => h.1 z.symm, ih h.2]
section
variable {T : Tab} {C : Ctx} {k : Nat}
theorem rc_get {R : Rc} {s : Sto} {A : Asn} {F : List Asn} (H : Sep s (A :: R.A :: F)) : s[R.r]? = some (.inst 4 [(0, .loc R.k), (1, .loc R.q), (2, .loc R.d)]) ∧ s[R.k]? = some (.list (R.kept.map .str)) ∧ s[R.q]? = some (.list (R.rests.map .str)) ∧ s[R.d]? = some (.dS (R.by_.map fun p => (p.1, .loc p.2))) := by
  have H2 : Sep s (R.lists ++ (A :: F)) := Sep.star.mp (H.perm (.swap ..))
  exact ⟨H2.get, H2.at (n := 1) rfl, H2.at (n := 2) rfl, H2.at (n := 3) rfl⟩
/-- the record's dict is set -/
theorem rc_dict {R : Rc} {s : Sto} {A : Asn} {F : List Asn} {by' : List (Txt × Nat)} (H : Sep s (A :: R.A :: F)) : Sep (s.set R.d (.dS (by'.map fun p => (p.1, .loc p.2)))) (A :: ({ R with by_ := by' } : Rc).A :: F) := by
  have H2 : Sep s (R.lists ++ (A :: F)) := Sep.star.mp (H.perm (.swap ..))
  have H3 := H2.put (n := 3) (o' := .dS (by'.map fun p => (p.1, .loc p.2))) rfl
  exact Sep.perm (Sep.star (M := ({ R with by_ := by' } : Rc).lists) |>.mpr H3) (.swap ..)
theorem rc_kept {R : Rc} {s : Sto} {A : Asn} {F : List Asn} {ks : List Txt} (H : Sep s (A :: R.A :: F)) : Sep (s.set R.k (.list (ks.map .str))) (A :: ({ R with kept := ks } : Rc).A :: F) := by
  have H2 : Sep s (R.lists ++ (A :: F)) := Sep.star.mp (H.perm (.swap ..))
  have H3 := H2.put (n := 1) (o' := .list (ks.map .str)) rfl
  exact Sep.perm (Sep.star (M := ({ R with kept := ks } : Rc).lists) |>.mpr H3) (.swap ..)
theorem init_step (N : HasMk T) {R : Rc} {s : Sto} {F : List Asn} {mk : Mk} {nm : Txt} (hn : nm ∉ R.by_.map Prod.fst) (hl : R.by_.length < 90000) (H : Sep s (R.A :: F)) :
    Wp (callN T (k + 1) 92 [.loc s.length, .str mk.txt, .str nm, .loc R.r] (s ++ [.inst 0 []])) fun v s' => v = .non ∧ Sep s' (tree R.r (.step s.length mk nm .waits false) :: (R.reg [(nm, s.length)]).A :: F) := by
  have H0 : Sep (s ++ [.inst 0 []]) (cell s.length (.inst 0 []) :: R.A :: F) := H.push
  generalize hl0 : s.length = l at H0
  generalize s ++ [SO.inst 0 []] = s0 at H0
  clear H
  refine wp_run N.c92 rfl ?_
  refine w_put (l := l) rfl H0.get (v := .str mk.txt) rfl (by decide) ?_
  replace H0 := H0.set (o' := .inst 0 (putF 3 (.str mk.txt) []))
  generalize s0.set l _ = s1 at H0
  refine w_put (l := l) rfl H0.get (v := .str nm) rfl (by simp [putF]) ?_
  replace H0 := H0.set (o' := .inst 0 (putF 4 (.str nm) (putF 3 (.str mk.txt) [])))
  generalize s1.set l _ = s2 at H0
  refine w_put (l := l) rfl H0.get (v := .loc R.r) rfl (by simp [putF]) ?_
  replace H0 := H0.set (o' := .inst 0 (putF 5 (.loc R.r) (putF 4 (.str nm) (putF 3 (.str mk.txt) []))))
  generalize s2.set l _ = s3 at H0
  refine w_put (l := l) rfl H0.get (v := .str Nw.waits.txt) (by simp only [ev, ok]; rfl) (by simp [putF]) ?_
  replace H0 := H0.set (o' := .inst 0 (putF 6 (.str Nw.waits.txt) (putF 5 (.loc R.r) (putF 4 (.str nm) (putF 3 (.str mk.txt) [])))))
  generalize s3.set l _ = s4 at H0
  refine w_put (l := l) rfl H0.get (v := .bl false) (by simp only [ev, ok]) (by simp [putF]) ?_
  replace H0 : Sep _ (cell l (stepO R.r mk nm .waits false) :: R.A :: F) := H0.set (o' := .inst 0 (putF 7 (.bl false) (putF 6 (.str Nw.waits.txt) (putF 5 (.loc R.r) (putF 4 (.str nm) (putF 3 (.str mk.txt) []))))))
  generalize s4.set l _ = s5 at H0
  obtain ⟨e1, _, _, e4⟩ := rc_get H0
  refine w_asgI ⟨.loc l, s5, rfl, .loc R.d, s5, ev_fld (l := R.r) rfl e1 rfl, .str nm, s5, rfl, s5.set R.d (.dS ((R.by_ ++ [(nm, l)]).map fun p => (p.1, .loc p.2))), ?_, w_nil ⟨rfl, ?_⟩⟩
  rotate_left
  · simp only [tree]
    exact rc_dict (by' := R.by_ ++ [(nm, l)]) H0
  · have : (R.by_.map fun p => (p.1, Val.loc p.2)).length < LIM := by
      rw [List.length_map]
      show _ < 100000
      omega
    simp only [setV, e4, if_pos this, dput, dget_none hn, List.map_append, List.map_cons, List.map_nil]
theorem init_join (N : HasMk T) {s : Sto} {F : List Asn} {kd : Kd} {ls : List Nat} (H : Sep s F) :
    Wp (callN T (k + 1) 99 [.loc s.length, .lst (ls.map .loc)] (s ++ [.inst kd.cls []])) fun v s' => v = .non ∧ Sep s' (cell s.length (joinO kd .waits 0 ls) :: F) := by
  have H0 : Sep (s ++ [.inst kd.cls []]) (cell s.length (.inst kd.cls []) :: F) := H.push
  generalize hl0 : s.length = l at H0
  generalize s ++ [SO.inst kd.cls []] = s0 at H0
  clear H
  refine wp_run N.c99 rfl ?_
  refine w_put (l := l) rfl H0.get (v := .lst (ls.map .loc)) rfl (by decide) ?_
  replace H0 := H0.set (o' := .inst kd.cls (putF 8 (.lst (ls.map .loc)) []))
  generalize s0.set l _ = s1 at H0
  refine w_put (l := l) rfl H0.get (v := .str Nw.waits.txt) (by simp only [ev, ok]; rfl) (by simp [putF]) ?_
  replace H0 := H0.set (o' := .inst kd.cls (putF 6 (.str Nw.waits.txt) (putF 8 (.lst (ls.map .loc)) [])))
  generalize s1.set l _ = s2 at H0
  refine w_put (l := l) rfl H0.get (v := .int 0) (by simp only [ev, ok]) (by simp [putF]) ?_
  exact w_nil ⟨rfl, H0.set⟩
theorem w_put' {i l c f : Nat} {fs : List (Nat × Val)} {v : Val} {e : Ex} {en : Env} {s s1 : Sto} {r : List Stm} {Q : SR → Env → Sto → Prop} (g : en[i]? = some (some (.loc l))) (he : ev C e en s = some (.ok v, s1)) (h : s1[l]? = some (.inst c fs)) (hl : fs.length < 900)
    (q : WpS (execs C r en (s1.set l (.inst c (putF f v fs)))) Q) : WpS (execs C (.asgF (.var i) f e :: r) en s) Q :=
  w_asgF ⟨v, s1, he, .loc l, s1, by simp only [ev, g, ok], l, c, fs, rfl, h, hl, q⟩
theorem init_rec (N : HasMk T) {s : Sto} {F : List Asn} (H : Sep s F) :
    Wp (callN T (k + 1) 91 [.loc s.length] (s ++ [.inst 4 []])) fun v s' => v = .non ∧ ∃ R : Rc, R.r = s.length ∧ R.kept = [] ∧ R.rests = [] ∧ R.by_ = [] ∧ Sep s' (R.A :: F) := by
  have H0 : Sep (s ++ [.inst 4 []]) (cell s.length (.inst 4 []) :: F) := H.push
  generalize hl0 : s.length = l at H0
  generalize s ++ [SO.inst 4 []] = s0 at H0
  clear H
  have lstE : ∀ {C : Ctx} {en : Env} {s : Sto}, ev C (.lst true []) en s = some (.ok (.loc s.length), s ++ [.list []]) := fun {C en s} => by
    simp only [ev, evs, evo, evc, evi, bnd, ok, pur, lift, List.map_cons, List.map_nil, List.cons_append, List.nil_append, List.getElem?_cons_zero, List.getElem?_cons_succ, List.set_cons_zero, List.set_cons_succ, List.replicate_succ, List.replicate_zero, Nat.reduceSub, itemV, seqOf, lstOf, Option.bind_some, Option.bind_none, cmpV, binV, biV, bmV, bmO, bmR, bmC, bmI, bmTy, alloc, Option.map_some, Option.map_none, Bool.false_eq_true, if_false, if_true, optI, walkV, List.length_cons, List.length_nil, lim_le, lim_lt, Nat.zero_add, Nat.reduceAdd, Nat.reduceLeDiff, Nat.zero_le, Nat.reduceLT, Option.isSome_some]
  have dictE : ∀ {C : Ctx} {en : Env} {s : Sto}, ev C (.dS [] []) en s = some (.ok (.loc s.length), s ++ [.dS []]) := fun {C en s} => by
    simp only [ev, List.isEmpty_nil, and_self, if_true, ok]
  refine wp_run N.c91 rfl ?_
  have H1 : Sep (s0 ++ [.list []]) (cell s0.length (.list []) :: cell l (.inst 4 []) :: F) := H0.push
  generalize hk : s0.length = kk at H1
  refine w_put' (l := l) (fs := []) (c := 4) (v := .loc kk) rfl (by rw [lstE, hk]) (H1.at (n := 1) rfl) (by decide) ?_
  replace H1 := H1.put (n := 1) (o' := .inst 4 [(0, .loc kk)]) rfl
  change WpS (execs _ _ _ (List.set (s0 ++ [.list []]) l (.inst 4 [(0, .loc kk)]))) _
  generalize List.set (s0 ++ [SO.list []]) l _ = s1 at H1
  have H2 := H1.push (o := .list [])
  generalize hq : s1.length = qq at H2
  refine w_put' (l := l) (fs := [(0, .loc kk)]) (c := 4) (v := .loc qq) rfl (by rw [lstE, hq]) (H2.at (n := 2) rfl) (by simp) ?_
  replace H2 := H2.put (n := 2) (o' := .inst 4 [(0, .loc kk), (1, .loc qq)]) rfl
  change WpS (execs _ _ _ (List.set (s1 ++ [.list []]) l (.inst 4 [(0, .loc kk), (1, .loc qq)]))) _
  generalize List.set (s1 ++ [SO.list []]) l _ = s2 at H2
  have H3 := H2.push (o := .dS [])
  generalize hd : s2.length = dd at H3
  refine w_put' (l := l) (fs := [(0, .loc kk), (1, .loc qq)]) (c := 4) (v := .loc dd) rfl (by rw [dictE, hd]) (H3.at (n := 3) rfl) (by simp) ?_
  replace H3 := H3.put (n := 3) (o' := .inst 4 [(0, .loc kk), (1, .loc qq), (2, .loc dd)]) rfl
  change WpS (execs _ _ _ (List.set (s2 ++ [.dS []]) l (.inst 4 [(0, .loc kk), (1, .loc qq), (2, .loc dd)]))) _
  generalize List.set (s2 ++ [SO.dS []]) l _ = s3 at H3
  refine w_nil ⟨rfl, ⟨l, kk, qq, dd, [], [], []⟩, rfl, rfl, rfl, rfl, ?_⟩
  refine (Sep.star (M := Rc.lists ⟨l, kk, qq, dd, [], [], []⟩)).mpr (H3.perm ?_)
  exact ((List.reverse_perm [cell l (.inst 4 [(0, .loc kk), (1, .loc qq), (2, .loc dd)]), cell kk (.list []), cell qq (.list []), cell dd (.dS [])]).append_right F)
theorem ev_mk {c f : Nat} {es : List Ex} {vs : List Val} {en : Env} {s s1 s2 : Sto} (h : evs C es en s = some (.ok vs, s1)) (hi : C.T.init c = f) (e : C.init f (.loc s1.length :: vs) (s1 ++ [.inst c []]) = some (.ok .non, s2)) : ev C (.mk c es) en s = some (.ok (.loc s1.length), s2) := by
  rw [ev, h]
  simp only [bnd, hi, e, ok]
theorem eq_row {s : Sto} {kd : Kd} : eqV s (.str kd.txt) (.str [114, 111, 119]) = some (decide (kd = .row)) := by cases kd <;> rfl
theorem eq_side {s : Sto} {kd : Kd} : eqV s (.str kd.txt) (.str [115, 105, 100, 101]) = some (decide (kd = .side)) := by cases kd <;> rfl
/-- node_of -/
theorem node_ok (N : HasMk T) : ∀ (n : Nat) {p : Pl} {k : Nat} {R : Rc} {s : Sto} {F : List Asn}, okP n p → (R.by_.map Prod.fst ++ p.names).Nodup → R.by_.length + p.names.length < 90000 → Sep s (R.A :: F) →
    Wp (callN T (k + n + 2) 5 [p.v, .loc R.r] s) fun v s' => ∃ t : PT, v = .loc t.l ∧ t.pl = p ∧ fresh t ∧ Sep s' (tree R.r t :: (R.reg t.steps).A :: F)
  | n, .step mk nm, k, R, s, F, ho, hd, hl, H => by
    have hn := okP_pos ho
    obtain ⟨n, rfl⟩ : ∃ m, n = m + 1 := ⟨n - 1, by omega⟩
    simp only [Pl.names] at hd hl
    have nd : nm ∉ R.by_.map Prod.fst := fun z => (List.nodup_append.mp hd).2.2 nm z nm (by simp) rfl
    refine wp_run N.c5 rfl (w_step? N.toHasPl (k := k + (n + 1)) rfl rfl (fun mk' nm' hp => ?_) fun kd ps hp => by cases hp)
    cases hp
    obtain ⟨v, s1, e1, rfl, H1⟩ := init_step (k := k + n) N (mk := mk) nd (by simp at hl; omega) H
    refine w_ret ⟨.loc s.length, s1, ?_, .step s.length mk nm .waits false, rfl, rfl, ⟨rfl, rfl⟩, H1⟩
    rw [v_step]
    refine ev_mk (vs := [.str mk.txt, .str nm, .loc R.r]) ?_ N.i0 e1
    simp only [List.map_cons, List.map_nil, List.cons_append, List.nil_append, ev, evs, List.getElem?_cons_zero, List.getElem?_cons_succ, ok, bnd, itemV, seqOf, Option.bind_some, atI_zero, atI_one, pur]
  | 0, .join kd ps, k, R, s, F, ho, _, _, _ => by have := okP_pos ho; omega
  | n + 1, .join kd ps, k, R, s, F, ho, hd, hl, H => by
    obtain ⟨h1, h2⟩ := okP_join.mp ho
    refine wp_run N.c5 rfl (w_step? N.toHasPl (k := k + (n + 1)) rfl rfl (fun mk' nm' hp => by cases hp) fun kd' ps' hp => ?_)
    cases hp
    rw [v_join]
    refine w_asg (wp_compE (fun i acc s' => ∃ ts : List PT, acc = ts.map (fun t => .loc t.l) ∧ ts.map PT.pl = ps.take i ∧ (∀ t ∈ ts, fresh t) ∧ Sep s' ((R.reg (PT.stepss ts)).A :: (trees R.r ts ++ F))) (evi_second rfl) ?_ ⟨[], rfl, rfl, fun _ z => (by cases z), ?_⟩ (fun _ _ _ _ => rfl) ?_ ?_)
    · show (ps.map Pl.v).length ≤ 100000
      rw [List.length_map]
      omega
    · simp only [PT.stepss, Rc.reg_nil, trees, List.nil_append]
      exact H
    · rintro i v acc s1 hv ⟨ts, rfl, e1, fr, H1⟩
      have hv : (ps.map Pl.v)[i]? = some v := hv
      rw [List.getElem?_map, Option.map_eq_some_iff] at hv
      obtain ⟨p, hp, rfl⟩ := hv
      refine ⟨_, rfl, true, s1, by simp only [evc, ok], fun _ => ?_, fun z => (by cases z)⟩
      have hlt := (List.getElem?_eq_some_iff.mp hp).1
      have hdr : ps.drop i = p :: ps.drop (i + 1) := by
        rw [List.drop_eq_getElem_cons hlt]
        congr 1
        exact (List.getElem?_eq_some_iff.mp hp).2
      have e5 : (Pl.join kd ps).names = (PT.stepss ts).map Prod.fst ++ (p.names ++ ((ps.drop (i + 1)).map Pl.names).flatten) := by
        rw [stepss_names, pls_map, e1]
        simp only [Pl.names, namess_map]
        have : ps = ps.take i ++ p :: ps.drop (i + 1) := by rw [← hdr, List.take_append_drop]
        conv => lhs; rw [this]
        simp
      rw [e5] at hd hl
      have hd2 : ((R.reg (PT.stepss ts)).by_.map Prod.fst ++ p.names).Nodup := by
        simp only [Rc.reg, List.map_append, List.append_assoc]
        rw [← List.append_assoc, ← List.append_assoc] at hd
        have := (List.nodup_append.mp hd).1
        rw [List.append_assoc] at this
        exact this
      have hl2 : (R.reg (PT.stepss ts)).by_.length + p.names.length < 90000 := by
        simp only [Rc.reg, List.length_append, List.length_map] at hl ⊢
        omega
      obtain ⟨v, s2, e2, t, rfl, e3, ft, H2⟩ := node_ok N n (k := k) (h2 p (List.mem_of_getElem? hp)) hd2 hl2 H1
      refine ⟨.loc t.l, s2, ?_, ts ++ [t], by simp, ?_, ?_, ?_⟩
      · simp only [ev, evs, List.map_cons, List.map_nil, List.cons_append, List.nil_append, wipe, List.set_cons_succ, List.set_cons_zero, List.replicate_succ, List.replicate_zero, Nat.reduceSub, List.getElem?_cons_zero, List.getElem?_cons_succ, ok, bnd]
        exact e2
      · rw [List.map_append, e1, List.take_add_one, hp]
        simp [e3]
      · intro u hu
        rcases List.mem_append.mp hu with z | z
        · exact fr u z
        · rw [List.mem_singleton.mp z]
          exact ft
      · have e6 : PT.stepss (ts ++ [t]) = PT.stepss ts ++ t.steps := by simp [stepss_map]
        have e7 : trees R.r (ts ++ [t]) = trees R.r ts ++ [tree R.r t] := by simp [trees_map]
        rw [e6, e7, ← Rc.reg_reg]
        refine H2.perm ?_
        refine (List.Perm.swap ..).trans (List.Perm.cons _ ?_)
        rw [List.append_assoc]
        exact List.perm_middle.symm
    · rintro us s1 ⟨ts, rfl, e1, fr, H1⟩
      have e1 : ts.map PT.pl = ps := by
        rw [e1]
        have : ((ps.map Pl.v, none) : Walk).1.length = ps.length := by simp
        rw [this, List.take_length]
      have fin : ∀ {s' : Sto}, Sep s' (cell s1.length (joinO kd .waits 0 (ts.map PT.l)) :: ((R.reg (PT.stepss ts)).A :: (trees R.r ts ++ F))) → Sep s' (tree R.r (.join s1.length kd .waits 0 ts) :: (R.reg (PT.join s1.length kd .waits 0 ts).steps).A :: F) := fun {s'} h => by
        simp only [tree, PT.steps]
        refine Sep.star.mpr (h.perm (List.Perm.cons _ ?_))
        exact List.perm_middle.symm
      obtain ⟨v, s2, e2, rfl, H2⟩ := init_join (k := k + n) N (kd := kd) (ls := ts.map PT.l) H1
      have res : ∃ t : PT, Val.loc s1.length = .loc t.l ∧ t.pl = .join kd ps ∧ fresh t ∧ Sep s2 (tree R.r t :: (R.reg t.steps).A :: F) := ⟨.join s1.length kd .waits 0 ts, rfl, by simp only [PT.pl, pls_map, e1], fresh_join.mpr ⟨rfl, rfl, fr⟩, fin H2⟩
      have mkE : ∀ en : Env, en[2]? = some (some (.lst (ts.map fun t => .loc t.l))) → ev { T := T, call := callN T (k + (n + 1) + 1), init := callN T (k + (n + 1) + 1 - 1) } (.mk kd.cls [.var 2]) en s1 = some (.ok (.loc s1.length), s2) := fun en g => by
        refine ev_mk (vs := [.lst (ts.map fun t => .loc t.l)]) (evs_one (by simp only [ev, g, ok])) (N.ij kd) ?_
        rw [List.map_map] at e2
        exact e2
      have first : ∀ {C : Ctx} {en : Env}, en[0]? = some (some (.tup [.str kd.txt, .tup (ps.map Pl.v)])) → ev C (.item (.var 0) (.cst (.int 0))) en s1 = some (.ok (.str kd.txt), s1) := fun g => ev_first g
      refine w_ifE (v := decide (kd = .row)) (ev_eq (first rfl) eq_row) (fun c => ?_) fun c => ?_
      · have c := of_decide_eq_true c
        subst c
        exact w_ret ⟨_, _, mkE _ rfl, res⟩
      · refine w_ifE (v := decide (kd = .side)) (ev_eq (first rfl) eq_side) (fun c2 => ?_) fun c2 => ?_
        · have c2 := of_decide_eq_true c2
          subst c2
          exact w_ret ⟨_, _, mkE _ rfl, res⟩
        · obtain rfl : kd = .els := by
            cases kd
            · exact absurd rfl (of_decide_eq_false c)
            · exact absurd rfl (of_decide_eq_false c2)
            · rfl
          exact w_ret ⟨_, _, mkE _ rfl, res⟩
end
end Lw
end
section
set_option Elab.async false
set_option linter.all false
set_option autoImplicit false
set_option maxRecDepth 100000
set_option maxHeartbeats 1000000
/-! What stays as it is: the plan, the places. How many rests. -/
namespace Lw
open Ab
mutual
/-- all but what is now -/
def PT.sk : PT → PT
  | .step l mk nm _ _ => .step l mk nm .waits false
  | .join l kd _ _ ps => .join l kd .waits 0 (PT.sks ps)
def PT.sks : List PT → List PT
  | [] => []
  | p :: ps => p.sk :: PT.sks ps
end
theorem sks_map : ∀ ps : List PT, PT.sks ps = ps.map PT.sk
  | [] => by simp [PT.sks]
  | p :: ps => by simp [PT.sks, sks_map ps]
theorem sk_join {l : Nat} {kd : Kd} {now : Nw} {i : Int} {ps : List PT} : (PT.join l kd now i ps).sk = .join l kd .waits 0 (ps.map PT.sk) := by simp [PT.sk, sks_map]
theorem sk_step {l : Nat} {mk : Mk} {nm : Txt} {now : Nw} {off : Bool} : (PT.step l mk nm now off).sk = .step l mk nm .waits false := by simp [PT.sk]
mutual
theorem pl_sk : ∀ t : PT, t.sk.pl = t.pl
  | .step l mk nm now off => rfl
  | .join l kd now i ps => by simp only [PT.sk, PT.pl, pls_sk ps]
theorem pls_sk : ∀ ps : List PT, PT.pls (PT.sks ps) = PT.pls ps
  | [] => rfl
  | p :: ps => by simp only [PT.sks, PT.pls, pl_sk p, pls_sk ps]
end
mutual
theorem steps_sk : ∀ t : PT, t.sk.steps = t.steps
  | .step l mk nm now off => rfl
  | .join l kd now i ps => by simp only [PT.sk, PT.steps, stepss_sk ps]
theorem stepss_sk : ∀ ps : List PT, PT.stepss (PT.sks ps) = PT.stepss ps
  | [] => rfl
  | p :: ps => by simp only [PT.sks, PT.stepss, steps_sk p, stepss_sk ps]
end
theorem l_sk (t : PT) : t.sk.l = t.l := by cases t <;> rfl
/-- a function that keeps what stays -/
def Keeps (f : PT → PT) : Prop := ∀ t, (f t).sk = t.sk
theorem sk_set {i : Nat} {ps : List PT} {p q : PT} (e : ps[i]? = some p) (h : q.sk = p.sk) : (ps.set i q).map PT.sk = ps.map PT.sk := by
  rw [List.map_set, h]
  apply List.ext_getElem?
  intro j
  by_cases c : i = j
  · subst c
    have hi : i < (ps.map PT.sk).length := by simpa using (List.getElem?_eq_some_iff.mp e).1
    rw [List.getElem?_set_self hi, List.getElem?_map, e]
    rfl
  · rw [List.getElem?_set_ne c]
theorem sk_map {f : PT → PT} (h : Keeps f) {ps : List PT} : (ps.map f).map PT.sk = ps.map PT.sk := by
  rw [List.map_map]
  exact List.map_congr_left fun p _ => h p
theorem sk_begin : ∀ n, Keeps (beginF n)
  | n, .step l mk nm now off => by cases n <;> rfl
  | 0, .join l kd now i ps => rfl
  | n + 1, .join l kd now i ps => by
    have ih := sk_begin n
    cases kd with
    | side => rw [beginF, sk_join, sk_join, sk_map ih]
    | row => 
      cases ps with
      | nil => simp only [beginF, sk_join]
      | cons p ps => simp only [beginF, sk_join, List.map_cons, ih p]
    | els => 
      cases ps with
      | nil => simp only [beginF, sk_join]
      | cons p ps => simp only [beginF, sk_join, List.map_cons, ih p]
theorem sk_off {S : PT → PT × List Txt} (h : Keeps fun t => (S t).1) : Keeps fun t => (offF S t).1
  | .step l mk nm now off => by cases now <;> cases mk <;> rfl
  | .join l kd now i ps => by
    cases now with
    | runs => exact (h _).trans (by simp only [sk_join])
    | done => exact (h _).trans (by simp only [sk_join])
    | waits => simp only [offF, sk_join]
    | _ => rfl
theorem sk_on {B : PT → PT} (h : Keeps B) {d : Nw} {step : Nat → Nat → List PT → Nat × List PT} (hs : ∀ m i ps, step (m + 1) i ps = match ps[i]?, ps[i + 1]? with
    | some p, some q => if p.now = d then step m (i + 1) (ps.set (i + 1) (B q)) else (i, ps)
    | _, _ => (i, ps)) (h0 : ∀ i ps, step 0 i ps = (i, ps)) : ∀ (m i : Nat) (ps : List PT), (step m i ps).2.map PT.sk = ps.map PT.sk
  | 0, i, ps => by rw [h0]
  | m + 1, i, ps => by
    rw [hs]
    split
    · rename_i p q e1 e2
      split
      · rw [sk_on h hs h0 m, sk_set e2 (h q)]
      · rfl
    · rfl
theorem sk_goOn {B : PT → PT} (h : Keeps B) (kd : Kd) (i : Nat) (ps : List PT) : (goOn B kd i ps).2.2.map PT.sk = ps.map PT.sk := by
  cases kd with
  | row => exact sk_on h (d := .done) (step := rowOn B) (fun _ _ _ => rfl) (fun _ _ => rfl) _ _ _
  | side => rfl
  | els => exact sk_on h (d := .gone) (step := elsOn B) (fun _ _ _ => rfl) (fun _ _ => rfl) _ _ _
theorem sk_rowBack {C : PT → PT × List Txt} (h : Keeps fun t => (C t).1) : ∀ (j : Nat) (ps : List PT), (rowBack C j ps).2.2.1.map PT.sk = ps.map PT.sk
  | 0, ps => rfl
  | j + 1, ps => by
    simp only [rowBack]
    split
    · rename_i p e
      split
      · exact (sk_rowBack h j _).trans (sk_set e (h p))
      · exact sk_set e (h p)
    · rfl
theorem sk_goBack {C : PT → PT × List Txt} (h : Keeps fun t => (C t).1) (kd : Kd) (i : Nat) (ps : List PT) : (goBack C kd i ps).2.2.1.map PT.sk = ps.map PT.sk := by
  cases kd with
  | row => exact sk_rowBack h _ _
  | side => exact sk_map h
  | els =>
    simp only [goBack]
    split
    · rename_i p e
      exact sk_set e (h p)
    · rfl
theorem sk_settle : ∀ n, Keeps fun t => (settleF n t).1
  | n, .step l mk nm now off => by cases n <;> rfl
  | 0, .join l kd now i ps => rfl
  | n + 1, .join l kd now i ps => by
    have ih := sk_settle n
    have e1 : (eachF (settleF n) ps).1.map PT.sk = ps.map PT.sk := sk_map ih
    show (settleF (n + 1) (.join l kd now i ps)).1.sk = _
    simp only [settleF, sk_join]
    generalize (eachF (settleF n) ps).1 = qs at e1 ⊢
    have e2 : (on1 (beginF n) kd now i qs).2.2.map PT.sk = ps.map PT.sk := by
      unfold on1
      split
      · exact (sk_goOn (sk_begin n) _ _ _).trans e1
      · exact e1
    generalize on1 (beginF n) kd now i qs = b at e2 ⊢
    have e3 : (back1 (offF (settleF n)) kd b.1 b.2.1 b.2.2).2.2.1.map PT.sk = ps.map PT.sk := by
      unfold back1
      split
      · exact (sk_goBack (sk_off ih) _ _ _).trans e2
      · exact e2
    rw [e3]
/-! ### how many rests -/
abbrev PT.size (t : PT) : Nat := t.steps.length
def sizes (ps : List PT) : Nat := (ps.map PT.size).sum
theorem size_join {l : Nat} {kd : Kd} {now : Nw} {i : Int} {ps : List PT} : (PT.join l kd now i ps).size = sizes ps := by
  show (PT.steps _).length = _
  simp only [PT.steps, stepss_map, List.length_flatten, List.map_map, sizes]
  rfl
theorem sizes_sk {ps qs : List PT} (h : qs.map PT.sk = ps.map PT.sk) : sizes qs = sizes ps := by
  have e : ∀ ps : List PT, sizes ps = ((ps.map PT.sk).map PT.size).sum := fun ps => by
    rw [List.map_map]
    unfold sizes
    congr 1
    exact List.map_congr_left fun p _ => by show _ = p.sk.steps.length; rw [steps_sk]
  rw [e, e, h]
theorem size_sk {t u : PT} (h : u.sk = t.sk) : u.size = t.size := by
  show u.steps.length = t.steps.length
  rw [← steps_sk u, h, steps_sk]
theorem size_le {ps : List PT} {p : PT} (h : p ∈ ps) : p.size ≤ sizes ps := by
  induction ps with
  | nil => cases h
  | cons q ps ih =>
    simp only [sizes, List.map_cons, List.sum_cons]
    rcases List.mem_cons.mp h with rfl | z
    · omega
    · have := ih z
      simp only [sizes] at this
      omega
mutual
/-- how many steps are gone -/
def PT.gones : PT → Nat
  | .step _ _ _ now _ => if now = .gone then 1 else 0
  | .join _ _ _ _ ps => PT.goness ps
def PT.goness : List PT → Nat
  | [] => 0
  | p :: ps => p.gones + PT.goness ps
end
mutual
theorem gones_le : ∀ t : PT, t.gones ≤ t.size
  | .step l mk nm now off => by simp only [PT.gones, PT.size, PT.steps, List.length_cons, List.length_nil]; split <;> omega
  | .join l kd now i ps => by
    rw [size_join]
    simp only [PT.gones]
    exact goness_le ps
theorem goness_le : ∀ ps : List PT, PT.goness ps ≤ sizes ps
  | [] => by simp [PT.goness, sizes]
  | p :: ps => by
    have a := gones_le p
    have b := goness_le ps
    simp only [PT.goness, sizes, List.map_cons, List.sum_cons] at b ⊢
    omega
end
theorem goness_map : ∀ ps : List PT, PT.goness ps = (ps.map PT.gones).sum
  | [] => rfl
  | p :: ps => by simp [PT.goness, goness_map ps]
mutual
theorem gones_fresh : ∀ t : PT, fresh t → t.gones = 0
  | .step l mk nm now off, h => by
    simp only [fresh] at h
    simp [PT.gones, h.1]
  | .join l kd now i ps, h => by
    simp only [PT.gones]
    exact goness_fresh ps (fresh_join.mp h).2.2
theorem goness_fresh : ∀ ps : List PT, (∀ p ∈ ps, fresh p) → PT.goness ps = 0
  | [], _ => rfl
  | p :: ps, h => by
    simp only [PT.goness, gones_fresh p (h p List.mem_cons_self), goness_fresh ps fun q hq => h q (List.mem_cons_of_mem _ hq)]
end
theorem goness_set : ∀ {i : Nat} {ps : List PT} {p q : PT}, ps[i]? = some p → PT.goness (ps.set i q) + p.gones = PT.goness ps + q.gones
  | i, [], p, q, e => by simp at e
  | 0, r :: ps, p, q, e => by
    simp at e
    subst e
    simp only [List.set_cons_zero, PT.goness]
    omega
  | i + 1, r :: ps, p, q, e => by
    have := goness_set (q := q) (i := i) (ps := ps) (p := p) (by simpa using e)
    simp only [List.set_cons_succ, PT.goness]
    omega
theorem gone_on {n : Nat} {d : Nw} {step : Nat → Nat → List PT → Nat × List PT} (hs : ∀ m i ps, step (m + 1) i ps = match ps[i]?, ps[i + 1]? with
    | some p, some q => if p.now = d then step m (i + 1) (ps.set (i + 1) (beginF n q)) else (i, ps)
    | _, _ => (i, ps)) (h0 : ∀ i ps, step 0 i ps = (i, ps)) : ∀ (m i : Nat) (ps : List PT), Wt i ps → PT.goness ps ≤ PT.goness (step m i ps).2
  | 0, i, ps, _ => by rw [h0]; exact Nat.le_refl _
  | m + 1, i, ps, hw => by
    rw [hs]
    split
    · rename_i p q e1 e2
      split
      · have fq := gones_fresh _ (hw (i + 1) q (by omega) e2)
        have a := goness_set (q := beginF n q) e2
        have b := gone_on hs h0 m (i + 1) (ps.set (i + 1) (beginF n q)) fun j p hj hp => by
          rw [List.getElem?_set_ne (by omega)] at hp
          exact hw j p (by omega) hp
        omega
      · exact Nat.le_refl _
    · exact Nat.le_refl _
/-- what is left was not gone, and is -/
def Gn (n : Nat) (f : PT → PT × List Txt) : Prop := ∀ t, okT n t → (f t).2.length + t.gones ≤ (f t).1.gones
theorem gone_off {n : Nat} {S : PT → PT × List Txt} (h : Gn n S) : Gn n (offF S)
  | .step l mk nm now off, _ => by cases now <;> cases mk <;> simp [offF, leaveF, PT.gones]
  | .join l kd now i ps, ht => by
    obtain ⟨m, rfl⟩ : ∃ m, n = m + 1 := ⟨n - 1, by have := okT_pos ht; omega⟩
    obtain ⟨h1, ⟨h2, h4⟩, h3⟩ := okT_join.mp ht
    have lv : ∀ hn : now ≠ .gone, okT (m + 1) (.join l kd .leaves i ps) := fun hn => okT_join.mpr ⟨h1, ⟨.inr (h2.resolve_left hn), ⟨fun z => (by cases z), fun z => (by cases z)⟩⟩, h3⟩
    cases now with
    | runs => exact h (.join l kd .leaves i ps) (lv (by decide))
    | done => exact h (.join l kd .leaves i ps) (lv (by decide))
    | _ => simp [offF, PT.gones]
theorem gone_each {n : Nat} {f : PT → PT × List Txt} (h : Gn n f) : ∀ {ps : List PT}, (∀ p ∈ ps, okT n p) → (eachF f ps).2.length + PT.goness ps ≤ PT.goness (eachF f ps).1
  | [], _ => by simp [eachF, PT.goness]
  | p :: ps, ho => by
    have a := h p (ho p List.mem_cons_self)
    have b := gone_each h (ps := ps) fun q hq => ho q (List.mem_cons_of_mem _ hq)
    simp only [eachF, List.map_cons, List.flatten_cons, List.length_append, PT.goness] at b ⊢
    omega
theorem gone_rowBack {n : Nat} {C : PT → PT × List Txt} (hG : Good n C) (h : Gn n C) : ∀ (j : Nat) {ps : List PT}, (∀ p ∈ ps, okT n p) → (rowBack C j ps).2.2.2.length + PT.goness ps ≤ PT.goness (rowBack C j ps).2.2.1
  | 0, ps, _ => by simp [rowBack]
  | j + 1, ps, ho => by
    simp only [rowBack]
    split
    · rename_i p e
      have op := ho p (List.mem_of_getElem? e)
      have a := h p op
      have c := goness_set (q := (C p).1) e
      split
      · have b := gone_rowBack hG h j (ps := ps.set j (C p).1) (set_all ho (hG p op).1)
        simp only [List.length_append]
        omega
      · show (C p).2.length + _ ≤ PT.goness (ps.set j (C p).1)
        omega
    · simp
theorem gone_goBack {n : Nat} {C : PT → PT × List Txt} (hG : Good n C) (h : Gn n C) (kd : Kd) (i : Nat) {ps : List PT} (ho : ∀ p ∈ ps, okT n p) : (goBack C kd i ps).2.2.2.length + PT.goness ps ≤ PT.goness (goBack C kd i ps).2.2.1 := by
  cases kd with
  | row => exact gone_rowBack hG h _ ho
  | side => exact gone_each h ho
  | els =>
    simp only [goBack]
    split
    · rename_i p e
      have a := h p (ho p (List.mem_of_getElem? e))
      have c := goness_set (q := (C p).1) e
      show (C p).2.length + _ ≤ PT.goness (ps.set i (C p).1)
      omega
    · simp
theorem gone_settle : ∀ n, Gn n (settleF n)
  | n, .step l mk nm now off, _ => by cases n <;> simp [settleF]
  | 0, .join l kd now i ps, h => (okT_zero h).elim
  | n + 1, .join l kd now i ps, ht => by
    obtain ⟨h1, _, h3⟩ := okT_join.mp ht
    have ih := gone_settle n
    have a := gone_each ih h3
    have O0 := JOk.each ht
    have O1 := O0.on1
    simp only [settleF, List.length_append, PT.gones]
    generalize (eachF (settleF n) ps).1 = qs at a O0 O1 ⊢
    have b : PT.goness qs ≤ PT.goness (on1 (beginF n) kd now i qs).2.2 := by
      unfold on1
      split
      · rename_i hr
        have wt : kd ≠ .side → Wt i.toNat qs := fun hk j p hj hp => O0.aft.2 hr hk j p (by have := O0.at_.resolve_left (by rw [hr]; decide); omega) hp
        cases kd with
        | row => exact gone_on (d := .done) (step := rowOn (beginF n)) (fun _ _ _ => rfl) (fun _ _ => rfl) _ _ _ (wt (by decide))
        | side => exact Nat.le_refl _
        | els => exact gone_on (d := .gone) (step := elsOn (beginF n)) (fun _ _ _ => rfl) (fun _ _ => rfl) _ _ _ (wt (by decide))
      · exact Nat.le_refl _
    generalize on1 (beginF n) kd now i qs = c at O1 b ⊢
    have d : (back1 (offF (settleF n)) kd c.1 c.2.1 c.2.2).2.2.2.length + PT.goness c.2.2 ≤ PT.goness (back1 (offF (settleF n)) kd c.1 c.2.1 c.2.2).2.2.1 := by
      unfold back1
      split
      · exact gone_goBack (ok_off (ok_settle n)) (gone_off ih) kd _ O1.ok
      · simp
    omega
end Lw
end
section
set_option Elab.async false
set_option linter.all false
set_option autoImplicit false
set_option maxRecDepth 100000
set_option maxHeartbeats 1000000
/-! One step of a tree; what is asked. -/
namespace Lw
open Ab
mutual
/-- the step of that name -/
def PT.at? (x : Txt) : PT → Option (Nat × Mk × Nw × Bool)
  | .step l mk nm now off => if nm = x then some (l, mk, now, off) else none
  | .join _ _ _ _ ps => PT.ats? x ps
def PT.ats? (x : Txt) : List PT → Option (Nat × Mk × Nw × Bool)
  | [] => none
  | p :: ps => match p.at? x with
    | some r => some r
    | none => PT.ats? x ps
end
mutual
/-- the steps of that name are something else now -/
def PT.alt (x : Txt) (g : Mk → Nw → Bool → Nw) : PT → PT
  | .step l mk nm now off => .step l mk nm (if nm = x then g mk now off else now) off
  | .join l kd now i ps => .join l kd now i (PT.alts x g ps)
def PT.alts (x : Txt) (g : Mk → Nw → Bool → Nw) : List PT → List PT
  | [] => []
  | p :: ps => p.alt x g :: PT.alts x g ps
end
theorem alts_map {x : Txt} {g : Mk → Nw → Bool → Nw} : ∀ ps : List PT, PT.alts x g ps = ps.map (PT.alt x g)
  | [] => rfl
  | p :: ps => by simp [PT.alts, alts_map ps]
theorem alt_l {x : Txt} {g : Mk → Nw → Bool → Nw} (t : PT) : (t.alt x g).l = t.l := by cases t <;> rfl
mutual
theorem sk_alt {x : Txt} {g : Mk → Nw → Bool → Nw} : ∀ t : PT, (t.alt x g).sk = t.sk
  | .step l mk nm now off => rfl
  | .join l kd now i ps => by simp only [PT.alt, PT.sk, sks_alt ps]
theorem sks_alt {x : Txt} {g : Mk → Nw → Bool → Nw} : ∀ ps : List PT, PT.sks (PT.alts x g ps) = PT.sks ps
  | [] => rfl
  | p :: ps => by simp only [PT.alts, PT.sks, sk_alt p, sks_alt ps]
end
mutual
theorem at_none {x : Txt} : ∀ t : PT, t.at? x = none ↔ x ∉ t.steps.map Prod.fst
  | .step l mk nm now off => by
    simp only [PT.at?, PT.steps, List.map_cons, List.map_nil, List.mem_singleton]
    split
    · rename_i h
      simp [h]
    · rename_i h
      simp only [true_iff]
      exact fun z => h z.symm
  | .join l kd now i ps => by
    simp only [PT.at?, PT.steps]
    exact ats_none ps
theorem ats_none {x : Txt} : ∀ ps : List PT, PT.ats? x ps = none ↔ x ∉ (PT.stepss ps).map Prod.fst
  | [] => by simp [PT.ats?, PT.stepss]
  | p :: ps => by
    have a := at_none (x := x) p
    have b := ats_none (x := x) ps
    simp only [PT.ats?, PT.stepss, List.map_append, List.mem_append, not_or]
    cases e : p.at? x with
    | none => rw [e] at a; simp only [true_iff] at a; simp only [a, not_false_eq_true, true_and]; exact b
    | some r =>
      rw [e] at a
      exact iff_of_false (fun z => by cases z) fun z => by have := a.mpr z.1; cases this
end
mutual
theorem alt_none {x : Txt} {g : Mk → Nw → Bool → Nw} : ∀ t : PT, x ∉ t.steps.map Prod.fst → t.alt x g = t
  | .step l mk nm now off, h => by
    simp only [PT.steps, List.map_cons, List.map_nil, List.mem_singleton] at h
    simp only [PT.alt, if_neg fun z => h (Eq.symm z)]
  | .join l kd now i ps, h => by
    simp only [PT.steps] at h
    simp only [PT.alt, alts_none ps h]
theorem alts_none {x : Txt} {g : Mk → Nw → Bool → Nw} : ∀ ps : List PT, x ∉ (PT.stepss ps).map Prod.fst → PT.alts x g ps = ps
  | [], _ => rfl
  | p :: ps, h => by
    simp only [PT.stepss, List.map_append, List.mem_append, not_or] at h
    simp only [PT.alts, alt_none p h.1, alts_none ps h.2]
end
abbrev nms (t : PT) : List Txt := t.steps.map Prod.fst
mutual
/-- a step's place among all -/
theorem locate {x : Txt} {r l : Nat} {mk : Mk} {now : Nw} {off : Bool} : ∀ t : PT, t.at? x = some (l, mk, now, off) → (nms t).Nodup → ∃ G : List Asn, (∀ {s : Sto} {F : List Asn}, Sep s (tree r t :: F) → Sep s (cell l (stepO r mk x now off) :: (G ++ F))) ∧
    ∀ {s : Sto} {F : List Asn} (g : Mk → Nw → Bool → Nw), Sep s (cell l (stepO r mk x (g mk now off) off) :: (G ++ F)) → Sep s (tree r (t.alt x g) :: F)
  | .step l' mk' nm now' off', h, nd => by
    simp only [PT.at?] at h
    split at h
    · rename_i hx
      subst hx
      cases h
      refine ⟨[], fun H => by simp only [tree] at H; exact H, fun g H => ?_⟩
      simp only [PT.alt, if_true, tree]
      exact H
    · cases h
  | .join l' kd now' i ps, h, nd => by
    simp only [PT.at?] at h
    obtain ⟨G, a, b⟩ := locates (r := r) ps h (by simpa only [nms, PT.steps] using nd)
    refine ⟨G ++ [cell l' (joinO kd now' i (ps.map PT.l))], fun {s F} H => ?_, fun {s F} g H => ?_⟩
    · simp only [tree] at H
      have H1 : Sep s (cell l' (joinO kd now' i (ps.map PT.l)) :: (trees r ps ++ F)) := Sep.star.mp H
      have H2 := a (H1.perm List.perm_middle.symm)
      rw [List.append_assoc]
      exact H2
    · simp only [PT.alt, tree]
      refine Sep.star.mpr ?_
      rw [List.append_assoc] at H
      have H1 := b g H
      have e : (PT.alts x g ps).map PT.l = ps.map PT.l := by
        rw [alts_map, List.map_map]
        exact List.map_congr_left fun p _ => alt_l p
      rw [e]
      exact H1.perm List.perm_middle
theorem locates {x : Txt} {r l : Nat} {mk : Mk} {now : Nw} {off : Bool} : ∀ ps : List PT, PT.ats? x ps = some (l, mk, now, off) → ((PT.stepss ps).map Prod.fst).Nodup → ∃ G : List Asn, (∀ {s : Sto} {F : List Asn}, Sep s (trees r ps ++ F) → Sep s (cell l (stepO r mk x now off) :: (G ++ F))) ∧
    ∀ {s : Sto} {F : List Asn} (g : Mk → Nw → Bool → Nw), Sep s (cell l (stepO r mk x (g mk now off) off) :: (G ++ F)) → Sep s (trees r (PT.alts x g ps) ++ F)
  | [], h, _ => by cases h
  | p :: ps, h, nd => by
    simp only [PT.stepss, List.map_append] at nd
    obtain ⟨nd1, nd2, nd3⟩ := List.nodup_append.mp nd
    simp only [PT.ats?] at h
    cases e : p.at? x with
    | some q =>
      rw [e] at h
      cases h
      obtain ⟨G, a, b⟩ := locate (r := r) p e nd1
      have hx : x ∈ p.steps.map Prod.fst := Classical.byContradiction fun z => by rw [(at_none p).mpr z] at e; cases e
      have hx2 : x ∉ (PT.stepss ps).map Prod.fst := fun z => nd3 x hx x z rfl
      refine ⟨G ++ trees r ps, fun {s F} H => ?_, fun {s F} g H => ?_⟩
      · rw [List.append_assoc]
        exact a H
      · rw [List.append_assoc] at H
        simp only [PT.alts, alts_none ps hx2, trees]
        exact b g H
    | none =>
      rw [e] at h
      obtain ⟨G, a, b⟩ := locates (r := r) ps h nd2
      have hx := (at_none p).mp e
      refine ⟨G ++ [tree r p], fun {s F} H => ?_, fun {s F} g H => ?_⟩
      · have H2 : Sep s (trees r ps ++ (tree r p :: F)) := H.perm List.perm_middle.symm
        have H3 := a H2
        rw [List.append_assoc]
        exact H3
      · rw [List.append_assoc] at H
        have H1 := b g H
        simp only [PT.alts, alt_none p hx, trees]
        exact H1.perm List.perm_middle
end
mutual
/-- the step of a name is registered -/
theorem at_steps {x : Txt} {l : Nat} {mk : Mk} {now : Nw} {off : Bool} : ∀ t : PT, t.at? x = some (l, mk, now, off) → (nms t).Nodup → dget (t.steps.map fun p => (p.1, Val.loc p.2)) x = some (.loc l)
  | .step l' mk' nm now' off', h, _ => by
    simp only [PT.at?] at h
    split at h
    · rename_i hx
      cases h
      simp only [PT.steps, List.map_cons, List.map_nil, dget, if_pos hx]
    · cases h
  | .join l' kd now' i ps, h, nd => by
    simp only [PT.at?] at h
    simp only [PT.steps]
    exact ats_steps ps h (by simpa only [nms, PT.steps] using nd)
theorem ats_steps {x : Txt} {l : Nat} {mk : Mk} {now : Nw} {off : Bool} : ∀ ps : List PT, PT.ats? x ps = some (l, mk, now, off) → ((PT.stepss ps).map Prod.fst).Nodup → dget ((PT.stepss ps).map fun p => (p.1, Val.loc p.2)) x = some (.loc l)
  | [], h, _ => by cases h
  | p :: ps, h, nd => by
    simp only [PT.stepss, List.map_append] at nd ⊢
    obtain ⟨nd1, nd2, nd3⟩ := List.nodup_append.mp nd
    have app : ∀ (a b : List (Txt × Nat)), dget (a.map (fun p => (p.1, Val.loc p.2)) ++ b.map fun p => (p.1, Val.loc p.2)) x = match dget (a.map fun p => (p.1, Val.loc p.2)) x with
        | some v => some v
        | none => dget (b.map fun p => (p.1, Val.loc p.2)) x := by
      intro a b
      induction a with
      | nil => rfl
      | cons q a ih =>
        simp only [List.map_cons, List.cons_append, dget]
        split
        · rfl
        · exact ih
    simp only [PT.ats?] at h
    rw [app]
    cases e : p.at? x with
    | some q =>
      rw [e] at h
      cases h
      rw [at_steps p e nd1]
    | none =>
      rw [e] at h
      rw [dget_none ((at_none p).mp e)]
      exact ats_steps ps h nd2
end
mutual
/-- what is asked: true: to do it -/
def asksF : PT → List (Bool × Txt)
  | .step _ _ nm now _ => if now = .asked then [(true, nm)] else if now = .backing then [(false, nm)] else []
  | .join _ _ _ _ ps => askss ps
def askss : List PT → List (Bool × Txt)
  | [] => []
  | p :: ps => asksF p ++ askss ps
end
theorem askss_map : ∀ ps : List PT, askss ps = (ps.map asksF).flatten
  | [] => rfl
  | p :: ps => by simp [askss, askss_map ps]
mutual
theorem asks_len : ∀ t : PT, (asksF t).length ≤ t.size
  | .step l mk nm now off => by simp only [asksF, PT.size, PT.steps, List.length_cons, List.length_nil]; split <;> (try split) <;> simp
  | .join l kd now i ps => by
    rw [size_join]
    simp only [asksF]
    exact askss_len ps
theorem askss_len : ∀ ps : List PT, (askss ps).length ≤ sizes ps
  | [] => by simp [askss, sizes]
  | p :: ps => by
    have a := asks_len p
    have b := askss_len ps
    simp only [askss, sizes, List.map_cons, List.sum_cons, List.length_append] at b ⊢
    omega
end
theorem sizes_take {ps : List PT} {j : Nat} {p : PT} (e : ps[j]? = some p) : sizes (ps.take (j + 1)) = sizes (ps.take j) + p.size := by
  rw [List.take_add_one, e]
  simp [sizes]
def askV (a : Bool × Txt) : Val := .tup [.str (if a.1 = true then [100, 111] else [98, 97, 99, 107]), .str a.2]
section
variable {T : Tab} {C : Ctx} {k : Nat}
theorem lst_more {s u : Sto} {v : Val} {xs : List Val} (h : lstOf s v = some xs) : lstOf (s ++ u) v = some xs := by
  cases v with
  | loc l =>
    simp only [lstOf] at h ⊢
    cases e : s[l]? with
    | none => rw [e] at h; cases h
    | some o =>
      rw [e] at h
      rw [List.getElem?_append_left (List.getElem?_eq_some_iff.mp e).1, e]
      exact h
  | _ => simpa [lstOf] using h
/-- asks -/
theorem asks_ok (N : HasNd T) : ∀ (n : Nat) {t : PT} {k r : Nat} {s : Sto} {F : List Asn}, okT n t → t.size ≤ 90000 → Sep s (tree r t :: F) → Wp (mcall T (k + n) 1 t.l [] s) fun v s' => ∃ u, s' = s ++ u ∧ lstOf s' v = some ((asksF t).map askV)
  | n, .step l mk nm now off, k, r, s, F, ho, _, H => by
    have hn := okT_pos ho
    obtain ⟨n, rfl⟩ : ∃ m, n = m + 1 := ⟨n - 1, by omega⟩
    simp only [tree] at H
    have e : s[l]? = some (.inst 0 (stepV r mk nm now off)) := H.get
    show Wp (mcall T (k + n + 1) 1 l [] s) _
    rw [mcall_of e N.m01]
    have one : ∀ {C : Ctx} {en : Env} {w : Txt}, en[0]? = some (some (.loc l)) → ev C (.lst false [(.tup [(.cst (.str w)), (.fld (.var 0) 4)])]) en s = some (.ok (.lst [.tup [.str w, .str nm]]), s) := fun {C en w} g => by
      simp only [ev, evs, g, ok, bnd, e, step4, pur, List.length_cons, List.length_nil, lim_le, Nat.zero_add, Nat.reduceAdd, Nat.reduceLeDiff, if_true, lift, alloc, Bool.false_eq_true, if_false]
    refine wp_run N.c96 rfl (w_ifE (ev_eq (ev_fld rfl e step6) eq_asked) (fun c => ?_) fun c => ?_)
    · have c := of_decide_eq_true c
      subst c
      exact w_ret ⟨_, s, one rfl, [], by simp, by simp [asksF, askV, lstOf]⟩
    · have c := of_decide_eq_false c
      refine w_ifE (ev_eq (ev_fld rfl e step6) eq_backing) (fun c2 => ?_) fun c2 => ?_
      · have c2 := of_decide_eq_true c2
        subst c2
        exact w_ret ⟨_, s, one rfl, [], by simp, by simp [asksF, askV, lstOf]⟩
      · have c2 := of_decide_eq_false c2
        refine w_ret ⟨.lst [], s, by simp only [ev, evs, evo, evc, evi, bnd, ok, pur, lift, List.map_cons, List.map_nil, List.cons_append, List.nil_append, List.getElem?_cons_zero, List.getElem?_cons_succ, List.set_cons_zero, List.set_cons_succ, List.replicate_succ, List.replicate_zero, Nat.reduceSub, itemV, seqOf, lstOf, Option.bind_some, Option.bind_none, cmpV, binV, biV, bmV, bmO, bmR, bmC, bmI, bmTy, alloc, Option.map_some, Option.map_none, Bool.false_eq_true, if_false, if_true, optI, walkV, List.length_cons, List.length_nil, lim_le, lim_lt, Nat.zero_add, Nat.reduceAdd, Nat.reduceLeDiff, Nat.zero_le, Nat.reduceLT, Option.isSome_some], [], by simp, by simp [asksF, c, c2, lstOf]⟩
  | 0, .join l kd now i ps, k, r, s, F, ho, _, _ => (okT_zero ho).elim
  | n + 1, .join l kd now i ps, k, r, s, F, ho, hz, H => by
    obtain ⟨h1, _, h3⟩ := okT_join.mp ho
    simp only [tree] at H
    have H1 : Sep s (cell l (joinO kd now i (ps.map PT.l)) :: (trees r ps ++ F)) := Sep.star.mp H
    have e : s[l]? = some (.inst kd.cls (joinV now i (ps.map PT.l))) := H1.get
    show Wp (mcall T (k + n + 1) 1 l [] s) _
    rw [mcall_of e (N.j1 kd)]
    rw [size_join] at hz
    have el : ∀ {C : Ctx} {en : Env}, ev C (.lst true []) en s = some (.ok (.loc s.length), s ++ [.list []]) := fun {C en} => by simp only [ev, evs, evo, evc, evi, bnd, ok, pur, lift, List.map_cons, List.map_nil, List.cons_append, List.nil_append, List.getElem?_cons_zero, List.getElem?_cons_succ, List.set_cons_zero, List.set_cons_succ, List.replicate_succ, List.replicate_zero, Nat.reduceSub, itemV, seqOf, lstOf, Option.bind_some, Option.bind_none, cmpV, binV, biV, bmV, bmO, bmR, bmC, bmI, bmTy, alloc, Option.map_some, Option.map_none, Bool.false_eq_true, if_false, if_true, optI, walkV, List.length_cons, List.length_nil, lim_le, lim_lt, Nat.zero_add, Nat.reduceAdd, Nat.reduceLeDiff, Nat.zero_le, Nat.reduceLT, Option.isSome_some]
    refine wp_run N.c100 rfl (w_asg ⟨_, _, el, ?_⟩)
    have shape : ∀ (xs : List Val) (u : Sto), (s ++ .list xs :: u)[s.length]? = some (.list xs) := fun xs u => by simp
    have old : ∀ {xs : List Val} {u : Sto} {j : Nat} {o : SO}, s[j]? = some o → (s ++ .list xs :: u)[j]? = some o := fun {xs u j o} h => by
      rw [List.getElem?_append_left (List.getElem?_eq_some_iff.mp h).1, h]
    refine w_forE (fun i en s' => ∃ u o, en = [some (.loc l), some (.loc s.length), o] ∧ s' = s ++ .list ((askss (ps.take i)).map askV) :: u) (walk_parts (l := l) (kd := kd) (now := now) (at_ := i) (ls := ps.map PT.l) rfl (old e)) ⟨[], none, rfl, rfl⟩ (fun _ _ _ _ => rfl) ?_ ?_
    · rintro j v en s1 hv ⟨u, o, rfl, rfl⟩
      have hv : ((ps.map PT.l).map Val.loc)[j]? = some v := hv
      rw [List.map_map, List.getElem?_map, Option.map_eq_some_iff] at hv
      obtain ⟨p, hp, rfl⟩ := hv
      refine ⟨_, rfl, ?_⟩
      have Hs : Sep (s ++ .list ((askss (ps.take j)).map askV) :: u) (cell l (joinO kd now i (ps.map PT.l)) :: (trees r ps ++ F)) := H1.more
      obtain ⟨F1, H2, _⟩ := Hs.one (n := j + 1) (A := tree r p) (by
        simp only [List.getElem?_cons_succ]
        rw [List.getElem?_append_left (by rw [trees_len]; exact (List.getElem?_eq_some_iff.mp hp).1)]
        exact trees_at hp)
      obtain ⟨v2, s2, e2, ⟨u2, rfl, e3⟩⟩ := asks_ok N n (k := k) (h3 p (List.mem_of_getElem? hp)) (Nat.le_trans (size_le (List.mem_of_getElem? hp)) hz) H2
      have es : askss (ps.take (j + 1)) = askss (ps.take j) ++ asksF p := by
        rw [askss_map, askss_map, List.take_add_one, hp]
        simp
      have hb : ((askss (ps.take j)).map askV).length + ((asksF p).map askV).length ≤ LIM := by
        have a := askss_len (ps.take (j + 1))
        have b := sizes_take hp
        have c := askss_len (ps.take j)
        have : sizes (ps.take (j + 1)) ≤ sizes ps := by
          have app : ∀ a b : List PT, sizes (a ++ b) = sizes a + sizes b := fun a b => by simp [sizes]
          have := app (ps.take (j + 1)) (ps.drop (j + 1))
          rw [List.take_append_drop] at this
          omega
        rw [es] at a
        simp only [List.length_append, List.length_map] at a ⊢
        show _ ≤ 100000
        omega
      have eapp : s ++ .list ((askss (ps.take j)).map askV) :: u ++ u2 = s ++ .list ((askss (ps.take j)).map askV) :: (u ++ u2) := by simp
      rw [eapp] at e2 e3
      refine w_expr ⟨.non, s ++ .list ((askss (ps.take (j + 1))).map askV) :: (u ++ u2), ?_, w_nil ⟨_, _, rfl, rfl⟩⟩
      refine ev_bm1 (x := .loc s.length) rfl (by simp [bmTy, lstOf, shape]) ((ev_meth (T := T) (k := k + n) (l := p.l) rfl rfl rfl).trans e2) ?_
      simp only [bmV, bmO, shape, e3, if_pos hb, es, List.map_append]
      congr 2
      simp
    · rintro en s1 ⟨u, o, rfl, rfl⟩
      refine w_ret ⟨.loc s.length, _, rfl, _, rfl, ?_⟩
      have : (((ps.map PT.l).map Val.loc, none) : Walk).1.length = ps.length := by simp
      rw [this, List.take_length]
      simp only [lstOf, shape, asksF]
end
end Lw
end
section
set_option Elab.async false
set_option linter.all false
set_option autoImplicit false
set_option maxRecDepth 100000
set_option maxHeartbeats 1000000
/-! Errands. -/
namespace Lw
open Ab
inductive Wd where
  | done | failed | backed | again
  deriving DecidableEq
def Wd.txt : Wd → Txt
  | .done => [100, 111, 110, 101]
  | .failed => [102, 97, 105, 108, 101, 100]
  | .backed => [98, 97, 99, 107, 101, 100]
  | .again => [97, 103, 97, 105, 110]
/-- what a step is, told a word -/
def ansN (w : Wd) (mk : Mk) (now : Nw) (off : Bool) : Nw := if now = .waits then .waits else match w with
  | .done => if off = true then (if mk = .back then .backing else .gone) else .done
  | .failed => .gone
  | .backed => .gone
  | .again => now
def ansR (w : Wd) (mk : Mk) (nm : Txt) (off : Bool) : List Txt := if w = .done ∧ off = true ∧ mk ≠ .back then [nm] else []
def keptF (w : Wd) (nm : Txt) (ks : List Txt) : List Txt := match w with
  | .done => ks ++ [nm]
  | .backed => ks.erase nm
  | _ => ks
def fitsF (w : Wd) (mk : Mk) (now : Nw) : Bool := match now with
  | .asked => match w with
    | .done => true
    | .again => true
    | .failed => decide (mk ≠ .sure)
    | .backed => false
  | .backing => match w with
    | .backed => true
    | .again => true
    | _ => false
  | _ => false
structure Er where
  el : Nat
  R : Rc
  t : PT
def Er.A (E : Er) : Asn := star [cell E.el (.inst 6 [(5, .loc E.R.r), (10, .loc E.t.l)]), tree E.R.r E.t, E.R.A]
structure Er.Ok (E : Er) : Prop where
  ok : okT 5 E.t
  by_ : E.R.by_ = E.t.steps
  nd : (nms E.t).Nodup
  few : E.t.size ≤ 12
  gone : E.R.rests.length ≤ E.t.gones
/-- an errand is told something -/
def Er.tell (E : Er) (w : Wd) (nm : Txt) : Er := match E.t.at? nm with
  | some (_, m, _, off) => { E with R := { E.R with kept := keptF w nm E.R.kept, rests := E.R.rests ++ (ansR w m nm off ++ (settleF 5 (E.t.alt nm (ansN w))).2) }, t := (settleF 5 (E.t.alt nm (ansN w))).1 }
  | none => E
mutual
theorem alt_fresh {x : Txt} {w : Wd} : ∀ t : PT, fresh t → t.alt x (ansN w) = t
  | .step l mk nm now off, h => by
    simp only [fresh] at h
    simp [PT.alt, h.1, ansN]
  | .join l kd now i ps, h => by simp only [PT.alt, alts_fresh ps (fresh_join.mp h).2.2]
theorem alts_fresh {x : Txt} {w : Wd} : ∀ ps : List PT, (∀ p ∈ ps, fresh p) → PT.alts x (ansN w) ps = ps
  | [], _ => rfl
  | p :: ps, h => by simp only [PT.alts, alt_fresh p (h p List.mem_cons_self), alts_fresh ps fun q hq => h q (List.mem_cons_of_mem _ hq)]
end
mutual
theorem ok_alt {x : Txt} {w : Wd} : ∀ (n : Nat) (t : PT), okT n t → okT n (t.alt x (ansN w))
  | n, .step l mk nm now off, h => by simpa [okT, PT.alt] using h
  | 0, .join l kd now i ps, h => (okT_zero h).elim
  | n + 1, .join l kd now i ps, h => by
    obtain ⟨h1, ⟨h2, h4⟩, h3⟩ := okT_join.mp h
    have e : (PT.alts x (ansN w) ps).length = ps.length := by rw [alts_map, List.length_map]
    simp only [PT.alt]
    refine okT_join.mpr ⟨ne_len e h1, ⟨by rw [e]; exact h2, ⟨fun z => ?_, fun z k j p hj hp => ?_⟩⟩, oks_alt n ps h3⟩
    · rw [alts_fresh ps (h4.1 z).2]
      exact h4.1 z
    · rw [alts_map, List.getElem?_map, Option.map_eq_some_iff] at hp
      obtain ⟨q, hq, rfl⟩ := hp
      have fq := h4.2 z k j q hj hq
      rw [alt_fresh q fq]
      exact fq
theorem oks_alt {x : Txt} {w : Wd} : ∀ (n : Nat) (ps : List PT), (∀ p ∈ ps, okT n p) → ∀ p ∈ PT.alts x (ansN w) ps, okT n p
  | n, [], _ => fun p hp => by cases hp
  | n, q :: ps, h => fun p hp => by
    simp only [PT.alts] at hp
    rcases List.mem_cons.mp hp with z | z
    · rw [z]
      exact ok_alt n q (h q List.mem_cons_self)
    · exact oks_alt n ps (fun q hq => h q (List.mem_cons_of_mem _ hq)) p z
end
mutual
theorem gones_alt {x : Txt} {g : Mk → Nw → Bool → Nw} {l : Nat} {mk : Mk} {now : Nw} {off : Bool} : ∀ t : PT, t.at? x = some (l, mk, now, off) → (nms t).Nodup → now ≠ .gone → (t.alt x g).gones = t.gones + if g mk now off = .gone then 1 else 0
  | .step l' mk' nm now' off', h, _, hn => by
    simp only [PT.at?] at h
    split at h
    · rename_i hx
      cases h
      simp only [PT.alt, PT.gones, if_pos hx, if_neg hn, Nat.zero_add]
    · cases h
  | .join l' kd now' i ps, h, nd, hn => by
    simp only [PT.at?] at h
    simp only [PT.alt, PT.gones]
    exact goness_alt ps h (by simpa only [nms, PT.steps] using nd) hn
theorem goness_alt {x : Txt} {g : Mk → Nw → Bool → Nw} {l : Nat} {mk : Mk} {now : Nw} {off : Bool} : ∀ ps : List PT, PT.ats? x ps = some (l, mk, now, off) → ((PT.stepss ps).map Prod.fst).Nodup → now ≠ .gone → PT.goness (PT.alts x g ps) = PT.goness ps + if g mk now off = .gone then 1 else 0
  | [], h, _, _ => by cases h
  | p :: ps, h, nd, hn => by
    simp only [PT.stepss, List.map_append] at nd
    obtain ⟨nd1, nd2, nd3⟩ := List.nodup_append.mp nd
    simp only [PT.ats?] at h
    simp only [PT.alts, PT.goness]
    cases e : p.at? x with
    | some q =>
      rw [e] at h
      cases h
      have hx : x ∈ p.steps.map Prod.fst := Classical.byContradiction fun z => by rw [(at_none p).mpr z] at e; cases e
      have hx2 : x ∉ (PT.stepss ps).map Prod.fst := fun z => nd3 x hx x z rfl
      rw [alts_none ps hx2, gones_alt p e nd1 hn]
      omega
    | none =>
      rw [e] at h
      rw [alt_none p ((at_none p).mp e), goness_alt ps h nd2 hn]
      omega
end
theorem fits_not_gone {w : Wd} {mk : Mk} {now : Nw} (h : fitsF w mk now = true) : now ≠ .gone ∧ now ≠ .waits := by
  cases now <;> first | (constructor <;> decide) | cases h
theorem nms_sk {t u : PT} (h : u.sk = t.sk) : nms u = nms t := by
  unfold nms
  rw [← steps_sk u, h, steps_sk]
theorem steps_of {t u : PT} (h : u.sk = t.sk) : u.steps = t.steps := by rw [← steps_sk u, h, steps_sk]
theorem l_of {t u : PT} (h : u.sk = t.sk) : u.l = t.l := by rw [← l_sk u, h, l_sk]
theorem tell_ok {E : Er} (O : E.Ok) {w : Wd} {nm : Txt} {l : Nat} {mk : Mk} {now : Nw} {off : Bool} (h : E.t.at? nm = some (l, mk, now, off)) (hf : fitsF w mk now = true) : (E.tell w nm).Ok ∧ (E.tell w nm).t.sk = E.t.sk := by
  obtain ⟨g1, g2⟩ := fits_not_gone hf
  have s1 : (E.t.alt nm (ansN w)).sk = E.t.sk := sk_alt _
  have s2 : (settleF 5 (E.t.alt nm (ansN w))).1.sk = E.t.sk := (sk_settle 5 _).trans s1
  have o1 := ok_alt 5 E.t (x := nm) (w := w) O.ok
  unfold Er.tell
  rw [h]
  refine ⟨⟨(ok_settle 5 _ o1).1, O.by_.trans (steps_of s2).symm, ?_, ?_, ?_⟩, s2⟩
  · show (nms (settleF 5 (E.t.alt nm (ansN w))).1).Nodup
    rw [nms_sk s2]
    exact O.nd
  · show (settleF 5 (E.t.alt nm (ansN w))).1.size ≤ 12
    rw [size_sk s2]
    exact O.few
  · have a := gone_settle 5 _ o1
    have b := gones_alt (g := ansN w) E.t h O.nd g1
    have c := O.gone
    have d : (ansR w mk nm off).length ≤ if ansN w mk now off = .gone then 1 else 0 := by
      cases w <;> cases mk <;> cases off <;> simp [ansR, ansN, g2]
    show (E.R.rests ++ (ansR w mk nm off ++ (settleF 5 (E.t.alt nm (ansN w))).2)).length ≤ _
    simp only [List.length_append]
    show _ ≤ (settleF 5 (E.t.alt nm (ansN w))).1.gones
    omega
/-- the table holds errands -/
structure HasEr (T : Tab) : Prop extends HasMk T where
  c113 : T.code 113 = some ⟨2, 2, Pg.c113⟩
  c114 : T.code 114 = some ⟨1, 1, Pg.c114⟩
  c115 : T.code 115 = some ⟨3, 4, Pg.c115⟩
  c116 : T.code 116 = some ⟨3, 3, Pg.c116⟩
  c117 : T.code 117 = some ⟨1, 1, Pg.c117⟩
  c118 : T.code 118 = some ⟨1, 1, Pg.c118⟩
  c119 : T.code 119 = some ⟨1, 1, Pg.c119⟩
  i6 : T.init 6 = 113
  e7 : T.meth 6 7 = some 116
  e9 : T.meth 6 9 = some 117
  e11 : T.meth 6 11 = some 115
  e15 : T.meth 6 15 = some 114
  e18 : T.meth 6 18 = some 119
  e20 : T.meth 6 20 = some 118
section
variable {T : Tab} {C : Ctx} {k : Nat}
theorem eq_mk' {s : Sto} {w u : Wd} : eqV s (.str w.txt) (.str u.txt) = some (decide (w = u)) := by cases w <;> cases u <;> rfl
theorem res_strs (s : Sto) (n : Nat) : ∀ xs : List Txt, (xs.map Val.str).mapM (res s (n + 1)) = some (xs.map Val.str)
  | [] => rfl
  | x :: xs => by
    rw [List.map_cons, List.mapM_cons, res_strs s n xs]
    rfl
theorem first_erase {x : Txt} : ∀ {ks : List Txt}, x ∈ ks → ∃ j, first (fun z => pyEq z (.str x)) (ks.map Val.str) = some j ∧ (ks.map Val.str).eraseIdx j = (ks.erase x).map Val.str
  | [], h => by cases h
  | y :: ks, h => by
    have hp : pyEq (.str y) (.str x) = (y == x) := rfl
    simp only [List.map_cons, first, hp, List.erase_cons]
    by_cases c : y = x
    · subst c
      exact ⟨0, by simp, by simp⟩
    · obtain ⟨j, h1, h2⟩ := first_erase ((List.mem_cons.mp h).resolve_left (Ne.symm c))
      have : (y == x) = false := by simpa using c
      rw [this]
      refine ⟨j + 1, by simp [h1], by simp [h2]⟩
theorem remove_str {s : Sto} {l : Nat} {ks : List Txt} {x : Txt} (e : s[l]? = some (.list (ks.map .str))) (h : x ∈ ks) : bmR (.loc l) [.str x] s = some (.non, s.set l (.list ((ks.erase x).map .str))) := by
  obtain ⟨j, h1, h2⟩ := first_erase h
  have r : res s DEEP (.str x) = some (.str x) := rfl
  have : (ks.map Val.str).mapM (res s DEEP) = some (ks.map Val.str) := res_strs s 11 ks
  simp only [bmR, e, r, this, h1, Option.map_some, h2]
theorem word_eq {s : Sto} {w : Wd} {i : Nat} {en : Env} (u : Wd) (g : en[i]? = some (some (.str w.txt))) : ev C (.cmp .eq (.var i) (.cst (.str u.txt))) en s = some (.ok (.bl (decide (w = u))), s) := ev_eq (by simp only [ev, g, ok]) eq_mk'
end
end Lw
end
section
set_option Elab.async false
set_option linter.all false
set_option autoImplicit false
set_option maxRecDepth 100000
set_option maxHeartbeats 1000000
/-! Errands: the methods. -/
namespace Lw
open Ab
variable {T : Tab} {C : Ctx} {k : Nat}
theorem answer_ok (N : HasEr T) {l : Nat} {mk : Mk} {nm : Txt} {now : Nw} {off : Bool} {w : Wd} {R : Rc} {s : Sto} {F : List Asn} (hf : fitsF w mk now = true) (hk : R.kept.length < 90000) (hr : R.rests.length < 80000) (hb : w = .backed → nm ∈ R.kept) (H : Sep s (cell l (stepO R.r mk nm now off) :: R.A :: F)) :
    Wp (callN T (k + 2) 97 [.loc l, .str w.txt] s) fun v s' => v = .non ∧ Sep s' (cell l (stepO R.r mk nm (ansN w mk now off) off) :: ({ R with kept := keptF w nm R.kept, rests := R.rests ++ ansR w mk nm off } : Rc).A :: F) := by
  obtain ⟨g1, g2⟩ := fits_not_gone hf
  have e : s[l]? = some (.inst 0 (stepV R.r mk nm now off)) := H.get
  have same : ({ R with kept := R.kept, rests := R.rests ++ [] } : Rc) = R := by simp
  refine wp_run N.c97 rfl (w_ifE (word_eq .done rfl) (fun c => ?_) fun c => ?_)
  · have c := of_decide_eq_true c
    subst c
    refine w_put (v := .str Nw.done.txt) rfl e (by simp only [ev, ok]; rfl) (by rw [stepL]; decide) ?_
    have H1 : Sep (s.set l (stepO R.r mk nm .done off)) (cell l (stepO R.r mk nm .done off) :: R.A :: F) := H.set
    change WpS (execs _ _ _ (s.set l (stepO R.r mk nm .done off))) _
    generalize s.set l (stepO R.r mk nm .done off) = s1 at H1
    have e1 : s1[l]? = some (.inst 0 (stepV R.r mk nm .done off)) := H1.get
    obtain ⟨er, ek, _, _⟩ := rc_get H1
    have hl : (R.kept.map Val.str).length < LIM := by
      rw [List.length_map]
      show _ < 100000
      omega
    have H2 := rc_kept (ks := R.kept ++ [nm]) H1
    refine w_expr ⟨.non, s1.set R.k (.list ((R.kept ++ [nm]).map .str)), ?_, ?_⟩
    · have ty : bmTy .append (.loc R.k) s1 = true := by simp [bmTy, lstOf, ek]
      refine ev_bm1 (ev_fld2 (ev_fld rfl e1 step5) er rfl) ty (ev_fld rfl e1 step4) ?_
      simp only [bmV, bmO, ek, hl, if_true, List.map_append, List.map_cons, List.map_nil]
    generalize s1.set R.k (.list ((R.kept ++ [nm]).map .str)) = s2 at H2
    have e2 : s2[l]? = some (.inst 0 (stepV R.r mk nm .done off)) := H2.get
    refine w_ifE (v := off) (ev_fld rfl e2 step7) (fun c => ?_) fun c => ?_
    · subst c
      have hfew : Few ({ R with kept := R.kept ++ [nm] } : Rc) (leaveF l mk nm true).2 := by
        unfold Few
        have : (leaveF l mk nm true).2.length ≤ 1 := by cases mk <;> simp [leaveF]
        show R.rests.length + _ < 90000
        omega
      obtain ⟨v, s3, e3, rfl, H3⟩ := leave_ok (k := k) N.toHasNd hfew H2
      refine w_expr ⟨.non, s3, ?_, w_nil ⟨rfl, ?_⟩⟩
      · rw [ev_meth (T := T) (k := k + 1) rfl rfl (l := l) rfl, mcall_of e2 N.m00]
        exact e3
      · have en : tree R.r (leaveF l mk nm true).1 = cell l (stepO R.r mk nm (ansN .done mk now true) true) := by
          cases mk <;> simp [leaveF, ansN, g2, tree]
        have er : (({ R with kept := R.kept ++ [nm] } : Rc).more (leaveF l mk nm true).2) = ({ R with kept := keptF .done nm R.kept, rests := R.rests ++ ansR .done mk nm true } : Rc) := by
          cases mk <;> simp [leaveF, ansR, keptF, Rc.more]
        change Sep s3 (tree R.r _ :: _) at H3
        rw [en, er] at H3
        exact H3
    · subst c
      refine w_nil ⟨rfl, ?_⟩
      have en : ansN .done mk now false = .done := by simp [ansN, g2]
      have er : ansR .done mk nm false = [] := by simp [ansR]
      rw [en, er, List.append_nil]
      exact H2
  · have c := of_decide_eq_false c
    refine w_ifE (word_eq .failed rfl) (fun c2 => ?_) fun c2 => ?_
    · have c2 := of_decide_eq_true c2
      subst c2
      refine w_put (v := .str Nw.gone.txt) rfl e (by simp only [ev, ok]; rfl) (by rw [stepL]; decide) (w_nil ⟨rfl, ?_⟩)
      have en : ansN .failed mk now off = .gone := by simp [ansN, g2]
      have er : ansR .failed mk nm off = [] := by simp [ansR]
      rw [en, er, show keptF .failed nm R.kept = R.kept from rfl, same]
      exact H.set
    · have c2 := of_decide_eq_false c2
      refine w_ifE (word_eq .backed rfl) (fun c3 => ?_) fun c3 => ?_
      · have c3 := of_decide_eq_true c3
        subst c3
        refine w_put (v := .str Nw.gone.txt) rfl e (by simp only [ev, ok]; rfl) (by rw [stepL]; decide) ?_
        have H1 : Sep (s.set l (stepO R.r mk nm .gone off)) (cell l (stepO R.r mk nm .gone off) :: R.A :: F) := H.set
        change WpS (execs _ _ _ (s.set l (stepO R.r mk nm .gone off))) _
        generalize s.set l (stepO R.r mk nm .gone off) = s1 at H1
        have e1 : s1[l]? = some (.inst 0 (stepV R.r mk nm .gone off)) := H1.get
        obtain ⟨er, ek, _, _⟩ := rc_get H1
        have H2 := rc_kept (ks := R.kept.erase nm) H1
        refine w_expr ⟨.non, s1.set R.k (.list ((R.kept.erase nm).map .str)), ?_, w_nil ⟨rfl, ?_⟩⟩
        · have ty : bmTy .remove (.loc R.k) s1 = true := by simp [bmTy, lstOf, ek]
          exact ev_bm1 (ev_fld2 (ev_fld rfl e1 step5) er rfl) ty (ev_fld rfl e1 step4) (remove_str ek (hb rfl))
        · have en : ansN .backed mk now off = .gone := by simp [ansN, g2]
          have er : ansR .backed mk nm off = [] := by simp [ansR]
          rw [en, er, List.append_nil]
          exact H2
      · have c3 := of_decide_eq_false c3
        obtain rfl : w = .again := by cases w <;> first | rfl | exact absurd rfl c | exact absurd rfl c2 | exact absurd rfl c3
        refine w_nil ⟨rfl, ?_⟩
        have en : ansN .again mk now off = now := by simp [ansN, g2]
        have er : ansR .again mk nm off = [] := by simp [ansR]
        rw [en, er, show keptF .again nm R.kept = R.kept from rfl, same]
        exact H
theorem in_two {s : Sto} {w : Wd} : cmpV .inn (.str w.txt) (.tup [.str [100, 111, 110, 101], .str [97, 103, 97, 105, 110]]) s = some (decide (w = .done ∨ w = .again)) := by cases w <;> rfl
theorem in_back {s : Sto} {w : Wd} : cmpV .inn (.str w.txt) (.tup [.str [98, 97, 99, 107, 101, 100], .str [97, 103, 97, 105, 110]]) s = some (decide (w = .backed ∨ w = .again)) := by cases w <;> rfl
theorem ne_sure {s : Sto} {mk : Mk} : cmpV .ne (.str mk.txt) (.str [115, 117, 114, 101]) s = some (decide (mk ≠ .sure)) := by cases mk <;> rfl
theorem fits_told (N : HasEr T) {el l r : Nat} {mk : Mk} {nm : Txt} {now : Nw} {off : Bool} {w : Wd} {s : Sto} (e : s[l]? = some (.inst 0 (stepV r mk nm now off))) : callN T (k + 1) 116 [.loc el, .loc l, .str w.txt] s = some (.ok (.bl (fitsF w mk now)), s) := by
  have nowE : ∀ {C : Ctx} {en : Env}, en[1]? = some (some (.loc l)) → ev C (.fld (.var 1) 6) en s = some (.ok (.str now.txt), s) := fun g => ev_fld g e step6
  refine Wp.eq (wp_run N.c116 rfl (w_ifE (ev_eq (nowE rfl) eq_asked) (fun c => ?_) fun c => ?_))
  · have c := of_decide_eq_true c
    subst c
    refine w_ret ⟨.bl (fitsF w mk .asked), s, ?_, rfl, rfl⟩
    have i2 : ∀ {C : Ctx} {en : Env}, en[2]? = some (some (.str w.txt)) → ev C (.cmp .inn (.var 2) (.tup [(.cst (.str [100, 111, 110, 101])), (.cst (.str [97, 103, 97, 105, 110]))])) en s = some (.ok (.bl (decide (w = .done ∨ w = .again))), s) := fun {C en} g => by
      simp only [ev, evs, g, ok, bnd, List.length_cons, List.length_nil, lim_le, Nat.zero_add, Nat.reduceAdd, Nat.reduceLeDiff, if_true, in_two, Option.map_some, pur]
    have i3 : ∀ {C : Ctx} {en : Env}, en[2]? = some (some (.str w.txt)) → ev C (.cmp .eq (.var 2) (.cst (.str [102, 97, 105, 108, 101, 100]))) en s = some (.ok (.bl (decide (w = .failed))), s) := fun g => word_eq .failed g
    have i4 : ∀ {C : Ctx} {en : Env}, en[1]? = some (some (.loc l)) → ev C (.cmp .ne (.fld (.var 1) 3) (.cst (.str [115, 117, 114, 101]))) en s = some (.ok (.bl (decide (mk ≠ .sure))), s) := fun g => ev_cmp (ev_fld g e step3) (by simp only [ev, ok]) ne_sure
    rw [ev, i2 rfl]
    simp only [bnd]
    cases w with
    | done => rfl
    | again => rfl
    | failed =>
      simp only [reduceCtorEq, or_self, decide_false, ok]
      rw [ev, i3 rfl]
      simp only [bnd, decide_true]
      rw [i4 rfl]
      simp only [ok, fitsF]
    | backed =>
      simp only [reduceCtorEq, or_self, decide_false, ok]
      rw [ev, i3 rfl]
      simp only [bnd, reduceCtorEq, decide_false, ok, fitsF]
  · have c := of_decide_eq_false c
    refine w_ifE (ev_eq (nowE rfl) eq_backing) (fun c2 => ?_) fun c2 => ?_
    · have c2 := of_decide_eq_true c2
      subst c2
      refine w_ret ⟨.bl (fitsF w mk .backing), s, ?_, rfl, rfl⟩
      simp only [List.map_cons, List.map_nil, List.cons_append, List.nil_append, ev, evs, List.getElem?_cons_succ, List.getElem?_cons_zero, ok, bnd, List.length_cons, List.length_nil, lim_le, Nat.zero_add, Nat.reduceAdd, Nat.reduceLeDiff, if_true, in_back, Option.map_some, pur]
      cases w <;> rfl
    · have c2 := of_decide_eq_false c2
      refine w_ret ⟨.bl (fitsF w mk now), s, ?_, rfl, rfl⟩
      have : fitsF w mk now = false := by cases now <;> first | rfl | exact absurd rfl c | exact absurd rfl c2
      rw [this]
      rfl
theorem evs_A {es : List Ex} {m f l c : Nat} {fs : List (Nat × Val)} {o : Ex} {en : Env} {s s1 : Sto} {vs : List Val} (ho : ev C o en s = some (.ok (.loc l), s)) (h : s[l]? = some (.inst c fs)) (hm : C.T.meth c m = some f) (he : evs C es en s = some (.ok vs, s1)) : ev C (.meth m o es) en s = C.call f (.loc l :: vs) s1 := by
  rw [ev, ho]
  simp only [bnd, h, hm, he]
/-- an errand's cell -/
theorem er_cell {E : Er} {s : Sto} {F : List Asn} (H : Sep s (E.A :: F)) : s[E.el]? = some (.inst 6 [(5, .loc E.R.r), (10, .loc E.t.l)]) := (Sep.star.mp H).get
theorem er_open {E : Er} {s : Sto} {F : List Asn} (H : Sep s (E.A :: F)) : Sep s (tree E.R.r E.t :: E.R.A :: cell E.el (.inst 6 [(5, .loc E.R.r), (10, .loc E.t.l)]) :: F) := by
  have H1 : Sep s (cell E.el (.inst 6 [(5, .loc E.R.r), (10, .loc E.t.l)]) :: tree E.R.r E.t :: E.R.A :: F) := Sep.star.mp H
  exact H1.perm ((List.Perm.swap ..).trans (List.Perm.cons _ (.swap ..)))
theorem er_close {E : Er} {s : Sto} {F : List Asn} (H : Sep s (tree E.R.r E.t :: E.R.A :: cell E.el (.inst 6 [(5, .loc E.R.r), (10, .loc E.t.l)]) :: F)) : Sep s (E.A :: F) := by
  refine (Sep.star (M := [cell E.el (.inst 6 [(5, .loc E.R.r), (10, .loc E.t.l)]), tree E.R.r E.t, E.R.A])).mpr (H.perm ?_)
  exact (List.Perm.cons _ (.swap ..)).trans (.swap ..)
theorem told_ok (N : HasEr T) {E : Er} (O : E.Ok) {w : Wd} {nm : Txt} {l : Nat} {mk : Mk} {now : Nw} {off : Bool} (h : E.t.at? nm = some (l, mk, now, off)) (hf : fitsF w mk now = true) (hk : E.R.kept.length < 90000) (hb : w = .backed → nm ∈ E.R.kept) {s : Sto} {F : List Asn} (H : Sep s (E.A :: F)) :
    Wp (callN T (k + 17) 115 [.loc E.el, .str w.txt, .str nm] s) fun v s' => v = .non ∧ Sep s' ((E.tell w nm).A :: F) := by
  have ec := er_cell H
  have H1 := er_open H
  obtain ⟨er, ek, eq, ed⟩ := rc_get H1
  have ed : s[E.R.d]? = some (.dS (E.t.steps.map fun p => (p.1, .loc p.2))) := by rw [← O.by_]; exact ed
  obtain ⟨G, gin, gout⟩ := locate (r := E.R.r) E.t h O.nd
  have H2 : Sep s (cell l (stepO E.R.r mk nm now off) :: E.R.A :: (G ++ (cell E.el (.inst 6 [(5, .loc E.R.r), (10, .loc E.t.l)]) :: F))) := (gin H1).perm (List.Perm.cons _ List.perm_middle)
  have e : s[l]? = some (.inst 0 (stepV E.R.r mk nm now off)) := H2.get
  have hr : E.R.rests.length ≤ 12 := Nat.le_trans O.gone (Nat.le_trans (gones_le _) O.few)
  refine wp_run N.c115 rfl (w_asg ⟨.loc l, s, ?_, ?_⟩)
  · refine ev_bm1 (x := .loc E.R.d) (y := .str nm) (s1 := s) (s2 := s) (ev_fld2 (ev_fld (l := E.el) rfl ec rfl) er rfl) (by simp [bmTy, ed]) rfl ?_
    simp only [bmV, bmO, dlook, ed, at_steps E.t h O.nd, Option.map_some, Option.getD_some]
  refine w_ifE (v := false) ?_ (fun c => by cases c) fun _ => ?_
  · rw [ev]
    have i1 : ∀ {C : Ctx} {en : Env}, en[3]? = some (some (.loc l)) → ev C (.isN false (.var 3)) en s = some (.ok (.bl false), s) := fun {C en} g => by simp only [ev, g, ok, bnd]
    rw [i1 rfl]
    simp only [bnd]
    rw [ev, evs_A (l := E.el) (o := .var 0) rfl ec N.e7 (vs := [.loc l, .str w.txt]) (s1 := s) (evs_two rfl rfl)]
    show bnd (bnd (callN T (k + 15 + 1) 116 [.loc E.el, .loc l, .str w.txt] s) _) _ = _
    rw [fits_told N e]
    simp only [bnd, hf, ok, Bool.not_true]
  obtain ⟨v, s1, e1, rfl, H3⟩ := answer_ok (k := k + 14) N hf hk (by omega) hb H2
  refine w_expr ⟨.non, s1, ?_, ?_⟩
  · rw [evs_A (l := l) (o := .var 3) rfl e N.m08 (vs := [.str w.txt]) (s1 := s) (evs_one rfl)]
    exact e1
  have H4 := gout (ansN w) (H3.perm (List.Perm.cons _ List.perm_middle.symm))
  have H5 : Sep s1 (tree E.R.r (E.t.alt nm (ansN w)) :: ({ E.R with kept := keptF w nm E.R.kept, rests := E.R.rests ++ ansR w mk nm off } : Rc).A :: cell E.el (.inst 6 [(5, .loc E.R.r), (10, .loc E.t.l)]) :: F) := H4
  have o1 := ok_alt 5 E.t (x := nm) (w := w) O.ok
  have hfew : Few ({ E.R with kept := keptF w nm E.R.kept, rests := E.R.rests ++ ansR w mk nm off } : Rc) (settleF 5 (E.t.alt nm (ansN w))).2 := by
    have a := gone_settle 5 _ o1
    have b := gones_le (settleF 5 (E.t.alt nm (ansN w))).1
    have c : (settleF 5 (E.t.alt nm (ansN w))).1.size = E.t.size := size_sk ((sk_settle 5 _).trans (sk_alt _))
    have d : (ansR w mk nm off).length ≤ 1 := by unfold ansR; split <;> simp
    have := O.few
    unfold Few
    show (E.R.rests ++ ansR w mk nm off).length + _ < 90000
    simp only [List.length_append]
    omega
  obtain ⟨v, s2, e2, rfl, H6⟩ := settle_ok N.toHasNd 5 k o1 hfew H5
  have el : (E.t.alt nm (ansN w)).l = E.t.l := alt_l _
  have ec1 : s1[E.el]? = some (.inst 6 [(5, .loc E.R.r), (10, .loc E.t.l)]) := H5.at (n := 2) rfl
  refine w_expr ⟨.non, s2, ?_, w_nil ⟨rfl, ?_⟩⟩
  · rw [ev_meth (T := T) (k := k + 16) rfl rfl (l := E.t.l) (ev_fld (l := E.el) rfl ec1 rfl), ← el]
    exact e2
  · have l2 : (settleF 5 (E.t.alt nm (ansN w))).1.l = E.t.l := l_of ((sk_settle 5 _).trans (sk_alt _))
    unfold Er.tell
    rw [h]
    refine er_close ?_
    show Sep s2 (tree E.R.r (settleF 5 (E.t.alt nm (ansN w))).1 :: _ :: cell E.el (.inst 6 [(5, .loc E.R.r), (10, .loc (settleF 5 (E.t.alt nm (ansN w))).1.l)]) :: F)
    rw [l2]
    have er : (({ E.R with kept := keptF w nm E.R.kept, rests := E.R.rests ++ ansR w mk nm off } : Rc).more (settleF 5 (E.t.alt nm (ansN w))).2) = ({ E.R with kept := keptF w nm E.R.kept, rests := E.R.rests ++ (ansR w mk nm off ++ (settleF 5 (E.t.alt nm (ansN w))).2) } : Rc) := by
      simp only [Rc.more, List.append_assoc]
    rw [er] at H6
    exact H6
/-- due -/
theorem due_ok (N : HasEr T) {E : Er} (O : E.Ok) {s : Sto} {F : List Asn} (H : Sep s (E.A :: F)) : Wp (callN T (k + 6) 114 [.loc E.el] s) fun v s' => ∃ u l, s' = s ++ u ∧ v = .loc l ∧ s.length ≤ l ∧ s'[l]? = some (.list (sortV ((asksF E.t).map askV))) := by
  have ec := er_cell H
  have H1 := er_open H
  obtain ⟨v, s1, e1, u, rfl, e2⟩ := asks_ok (k := k) N.toHasNd 5 O.ok (by have := O.few; omega) H1
  have so : sortable ((asksF E.t).map askV) = true := by
    have sh : ∀ a : Bool × Txt, shape (askV a) = 3 := fun a => rfl
    cases h : asksF E.t with
    | nil => rfl
    | cons a r =>
      simp only [List.map_cons, sortable, sh, Bool.and_eq_true, List.all_eq_true, List.mem_map]
      exact ⟨rfl, fun x ⟨b, _, e⟩ => by rw [← e, sh]; rfl⟩
  have ln : ((asksF E.t).map askV).length < 64 := by
    have := asks_len E.t
    have := O.few
    rw [List.length_map]
    omega
  refine wp_run N.c114 rfl (w_ret ⟨.loc (s ++ u).length, s ++ u ++ [.list (sortV ((asksF E.t).map askV))], ?_, u ++ [.list (sortV ((asksF E.t).map askV))], _, by simp, rfl, by simp, by simp⟩)
  refine ev_bi1 ((ev_meth (T := T) (k := k + 5) rfl rfl (l := E.t.l) (ev_fld (l := E.el) rfl ec rfl)).trans e1) ?_
  simp only [biV, e2, Option.bind_some]
  rw [if_pos ⟨so, ln⟩]
  rfl
/-- state -/
def stateF (t : PT) : Txt := if t.now = .done ∨ t.now = .gone then t.now.txt else [114, 117, 110, 115]
theorem state_ok (N : HasEr T) {E : Er} {s : Sto} {F : List Asn} (H : Sep s (E.A :: F)) : callN T (k + 1) 117 [.loc E.el] s = some (.ok (.str (stateF E.t)), s) := by
  have ec := er_cell H
  obtain ⟨c, fs, h1, h2⟩ := now_at (er_open H)
  have nowE : ∀ {C : Ctx} {en : Env}, en[0]? = some (some (.loc E.el)) → ev C (.fld (.fld (.var 0) 10) 6) en s = some (.ok (.str E.t.now.txt), s) := fun g => ev_fld2 (ev_fld g ec rfl) h1 h2
  refine Wp.eq (wp_run N.c117 rfl (w_ifE (v := decide (E.t.now = .done ∨ E.t.now = .gone)) ?_ (fun c => ?_) fun c => ?_))
  · rw [ev, nowE rfl]
    simp only [bnd, ev, evs, ok, List.length_cons, List.length_nil, lim_le, Nat.zero_add, Nat.reduceAdd, Nat.reduceLeDiff, if_true, pur, eq_end, Option.map_some]
  · have c := of_decide_eq_true c
    refine w_ret ⟨_, s, nowE rfl, ?_, rfl⟩
    rw [stateF, if_pos c]
  · have c := of_decide_eq_false c
    refine w_ret ⟨.str (stateF E.t), s, ?_, rfl, rfl⟩
    rw [stateF, if_neg c]
    rfl
/-- kept -/
theorem kept_ok (N : HasEr T) {E : Er} {s : Sto} {F : List Asn} (H : Sep s (E.A :: F)) : callN T (k + 1) 118 [.loc E.el] s = some (.ok (.loc s.length), s ++ [.list (E.R.kept.map .str)]) := by
  have ec := er_cell H
  obtain ⟨er, ek, _, _⟩ := rc_get (er_open H)
  have w : Wp (callN T (k + 1) 118 [.loc E.el] s) fun v s' => v = .loc s.length ∧ s' = s ++ [.list (E.R.kept.map .str)] := by
    refine wp_run N.c118 rfl (w_ret ⟨_, s ++ [.list (E.R.kept.map .str)], ev_bi1 (ev_fld2 (ev_fld (l := E.el) rfl ec rfl) er rfl) ?_, rfl, rfl⟩)
    simp only [biV, seqOf, lstOf, ek, Option.map_some, alloc, if_true]
  obtain ⟨v, s', e, rfl, rfl⟩ := w
  exact e
/-- rests -/
theorem rests_ok (N : HasEr T) {E : Er} (O : E.Ok) {s : Sto} {F : List Asn} (H : Sep s (E.A :: F)) : callN T (k + 1) 119 [.loc E.el] s = some (.ok (.loc s.length), s ++ [.list (sortV (E.R.rests.map .str))]) := by
  have ec := er_cell H
  obtain ⟨er, _, eq, _⟩ := rc_get (er_open H)
  have so : sortable (E.R.rests.map .str) = true := by
    cases h : E.R.rests with
    | nil => rfl
    | cons a r =>
      simp only [List.map_cons, sortable, shape, Bool.and_eq_true, List.all_eq_true, List.mem_map]
      exact ⟨rfl, fun x ⟨b, _, e⟩ => by rw [← e]; rfl⟩
  have ln : (E.R.rests.map Val.str).length < 64 := by
    have := O.gone
    have := gones_le E.t
    have := O.few
    rw [List.length_map]
    omega
  have w : Wp (callN T (k + 1) 119 [.loc E.el] s) fun v s' => v = .loc s.length ∧ s' = s ++ [.list (sortV (E.R.rests.map .str))] := by
    refine wp_run N.c119 rfl (w_ret ⟨_, s ++ [.list (sortV (E.R.rests.map .str))], ev_bi1 (ev_fld2 (ev_fld (l := E.el) rfl ec rfl) er rfl) ?_, rfl, rfl⟩)
    simp only [biV, lstOf, eq, Option.bind_some]
    rw [if_pos ⟨so, ln⟩]
    rfl
  obtain ⟨v, s', e, rfl, rfl⟩ := w
  exact e
end Lw
end
section
set_option Elab.async false
set_option linter.all false
set_option autoImplicit false
set_option maxRecDepth 100000
set_option maxHeartbeats 1000000
/-! A new errand. -/
namespace Lw
open Ab
variable {T : Tab} {C : Ctx} {k : Nat}
theorem size_names (t : PT) : t.size = t.pl.names.length := by rw [← steps_names, List.length_map]
theorem errand_ok (N : HasEr T) {p : Pl} (G : GoodP p) {s : Sto} {F : List Asn} (H : Sep s F) :
    Wp (callN T (k + 17) 113 [.loc s.length, p.v] (s ++ [.inst 6 []])) fun v s' => v = .non ∧ ∃ (E : Er) (t0 : PT), E.el = s.length ∧ E.Ok ∧ t0.pl = p ∧ fresh t0 ∧ E.t = (settleF 5 (beginF 5 t0)).1 ∧ E.R.rests = (settleF 5 (beginF 5 t0)).2 ∧ E.R.kept = [] ∧ Sep s' (E.A :: F) := by
  have H0 : Sep (s ++ [.inst 6 []]) (cell s.length (.inst 6 []) :: F) := H.push
  generalize hl0 : s.length = el at H0
  generalize s ++ [SO.inst 6 []] = s0 at H0
  clear H
  refine wp_run N.c113 rfl (w_expr ⟨.non, s0, ev_call1 rfl (check_ok N.toHasPl (k := k + 9) G), ?_⟩)
  obtain ⟨v, s1, e1, rfl, R, hr, hk, hq, hb, H1⟩ := init_rec (k := k + 14) N.toHasMk H0
  have ec1 : s1[el]? = some (.inst 6 []) := H1.at (n := 1) rfl
  have m4 : ∀ {en : Env}, ev { T := T, call := callN T (k + 16), init := callN T (k + 16 - 1) } (.mk 4 []) en s0 = some (.ok (.loc s0.length), s1) := fun {en} => ev_mk (vs := []) (by simp only [evs, ok]) N.i4 e1
  refine w_put' (l := el) (fs := []) (c := 6) (v := .loc s0.length) rfl m4 ec1 (by decide) ?_
  have H2 := H1.put (n := 1) (o' := .inst 6 [(5, .loc s0.length)]) rfl
  change WpS (execs _ _ _ (s1.set el (.inst 6 [(5, .loc s0.length)]))) _
  generalize s1.set el _ = s2 at H2
  rw [← hr] at H2
  have H2 : Sep s2 (R.A :: cell el (.inst 6 [(5, .loc R.r)]) :: F) := H2
  have ec2 : s2[el]? = some (.inst 6 [(5, .loc R.r)]) := H2.at (n := 1) rfl
  obtain ⟨v, s3, e3, t0, rfl, hp, fr, H3⟩ := node_ok N.toHasMk 5 (k := k + 9) G.ok (by rw [hb]; simpa using G.nd) (by rw [hb]; have := G.few; simp; omega) H2
  have ec3 : s3[el]? = some (.inst 6 [(5, .loc R.r)]) := H3.at (n := 2) rfl
  refine w_put' (l := el) (fs := [(5, .loc R.r)]) (c := 6) (v := .loc t0.l) rfl (s1 := s3) ?_ ec3 (by simp) ?_
  · rw [ev, evs_two (v := p.v) (v2 := .loc R.r) (s1 := s2) (s2 := s2) rfl (ev_fld (l := el) rfl ec2 rfl)]
    exact e3
  have H4 := H3.put (n := 2) (o' := .inst 6 [(5, .loc R.r), (10, .loc t0.l)]) rfl
  change WpS (execs _ _ _ (s3.set el (.inst 6 [(5, .loc R.r), (10, .loc t0.l)]))) _
  generalize s3.set el _ = s4 at H4
  have ec4 : s4[el]? = some (.inst 6 [(5, .loc R.r), (10, .loc t0.l)]) := H4.at (n := 2) rfl
  have H4 : Sep s4 (tree (R.reg t0.steps).r t0 :: (R.reg t0.steps).A :: cell el (.inst 6 [(5, .loc R.r), (10, .loc t0.l)]) :: F) := H4
  have o0 : okT 5 t0 := okT_fresh 5 t0 (by rw [hp]; exact G.ok) fr
  obtain ⟨v, s5, e5, rfl, H5⟩ := begin_ok N.toHasNd 5 (k := k + 11) o0 H4
  have ec5 : s5[el]? = some (.inst 6 [(5, .loc R.r), (10, .loc t0.l)]) := H5.at (n := 2) rfl
  refine w_expr ⟨.non, s5, ?_, ?_⟩
  · rw [ev_meth (T := T) (k := k + 16) rfl rfl (l := t0.l) (ev_fld (l := el) rfl ec4 rfl)]
    exact e5
  have o1 := ok_begin 5 o0 fr
  have sk1 : (beginF 5 t0).sk = t0.sk := sk_begin 5 t0
  have sk2 : (settleF 5 (beginF 5 t0)).1.sk = t0.sk := (sk_settle 5 _).trans sk1
  have sz : t0.size ≤ 12 := by rw [size_names, hp]; exact G.few
  have hg := gone_settle 5 _ o1.1
  have hle := gones_le (settleF 5 (beginF 5 t0)).1
  have hsz : (settleF 5 (beginF 5 t0)).1.size = t0.size := size_sk sk2
  have hrests : (R.reg t0.steps).rests = [] := hq
  obtain ⟨v, s6, e6, rfl, H6⟩ := settle_ok N.toHasNd 5 k o1.1 (by unfold Few; rw [hrests]; simp; omega) H5
  refine w_expr ⟨.non, s6, ?_, w_nil ⟨rfl, ⟨el, (R.reg t0.steps).more (settleF 5 (beginF 5 t0)).2, (settleF 5 (beginF 5 t0)).1⟩, t0, rfl, ⟨(ok_settle 5 _ o1.1).1, ?_, ?_, ?_, ?_⟩, hp, fr, rfl, ?_, ?_, ?_⟩⟩
  · rw [ev_meth (T := T) (k := k + 16) rfl rfl (l := t0.l) (ev_fld (l := el) rfl ec5 rfl), ← o1.2]
    exact e6
  · show R.by_ ++ t0.steps = _
    rw [hb, List.nil_append]
    exact (steps_of sk2).symm
  · show (nms (settleF 5 (beginF 5 t0)).1).Nodup
    rw [nms_sk sk2]
    show (t0.steps.map Prod.fst).Nodup
    rw [steps_names, hp]
    exact G.nd
  · show (settleF 5 (beginF 5 t0)).1.size ≤ 12
    omega
  · show (R.rests ++ (settleF 5 (beginF 5 t0)).2).length ≤ (settleF 5 (beginF 5 t0)).1.gones
    rw [hq, List.nil_append]
    omega
  · show R.rests ++ _ = _
    rw [hq, List.nil_append]
  · exact hk
  · have l2 : (settleF 5 (beginF 5 t0)).1.l = t0.l := l_of sk2
    refine er_close ?_
    show Sep s6 (tree R.r (settleF 5 (beginF 5 t0)).1 :: _ :: cell el (.inst 6 [(5, .loc R.r), (10, .loc (settleF 5 (beginF 5 t0)).1.l)]) :: F)
    rw [l2]
    exact H6
end Lw
end
section
set_option Elab.async false
set_option linter.all false
set_option autoImplicit false
set_option maxRecDepth 100000
set_option maxHeartbeats 1000000
/-! The laws' draws, as assertions. -/
namespace Lw
open Ab
variable {T : Tab} {C : Ctx} {k : Nat}
theorem Sep.frm2 {s s' : Sto} {A B : Asn} {L : List Asn} {fp fq : List Nat} (H : Sep s (A :: L)) (hA : ∀ a, A.P s a → a = fp) (f : Frm fp s s') (hB : B.P s' fq) (hq : fq.Nodup) (hf : ∀ i ∈ fq, i ∈ fp ∨ s.length ≤ i) : Sep s' (B :: L) := by
  obtain ⟨fr, ⟨a, b, rfl, h1, h2⟩, nd⟩ := H
  have := hA a h1
  subst this
  refine ⟨fq ++ b, ⟨fq, b, rfl, hB, h2.loc fun l hl => ?_⟩, ?_⟩
  · have hl2 := h2.dom l hl
    rw [List.getElem?_eq_getElem hl2]
    exact f.2 l _ (List.getElem?_eq_getElem hl2) fun z => (List.nodup_append.mp nd).2.2 l z l hl rfl
  · refine List.nodup_append.mpr ⟨hq, (List.nodup_append.mp nd).2.1, fun x hx y hy e => ?_⟩
    subst e
    rcases hf x hx with z | z
    · exact (List.nodup_append.mp nd).2.2 x z x hy rfl
    · have := h2.dom x hy
      omega
/-- the box of numbers drawn from -/
def boxA (b j : Nat) : Asn := exA fun p : List Int × Int => star [cell b (.list [.loc j, .int p.2]), cell j (.list (p.1.map .int))]
theorem box_P {s : Sto} {b j : Nat} (h : Box s b j) : (boxA b j).P s [b, j] := by
  obtain ⟨xs, st, h1, h2⟩ := h
  exact ⟨(xs, st), [b], [j], rfl, ⟨rfl, h1⟩, [j], [], rfl, ⟨rfl, h2⟩, rfl⟩
theorem box_of {s : Sto} {b j : Nat} {L : List Asn} (H : Sep s (boxA b j :: L)) : Box s b j ∧ ∀ a, (boxA b j).P s a → a = [b, j] := by
  obtain ⟨p, H1⟩ := Sep.ex.mp H
  have H2 := Sep.star.mp H1
  refine ⟨⟨p.1, p.2, H2.at (n := 0) rfl, H2.at (n := 1) rfl⟩, ?_⟩
  rintro a ⟨p, x, y, rfl, ⟨rfl, _⟩, z, w, rfl, ⟨rfl, _⟩, rfl⟩
  rfl
theorem take_S (hc : T.code 19 = some ⟨2, 3, Pg.c19⟩) {b j : Nat} {many : Int} {s : Sto} {F : List Asn} (H : Sep s (boxA b j :: F)) (h0 : 0 < many) (h1 : many < 1073741824) :
    Wp (callN T (k + 1) 19 [.loc b, .int many] s) fun v s' => ∃ r : Int, v = .int r ∧ 0 ≤ r ∧ r < many ∧ Sep s' (boxA b j :: F) := by
  obtain ⟨hb, ha⟩ := box_of H
  refine (take_ok (f := 19) (k := k) hc hb h0 h1).imp ?_
  rintro v s' ⟨r, rfl, r0, r1, hb', f, _⟩
  exact ⟨r, rfl, r0, r1, H.frm ha f (box_P hb')⟩
theorem begun_S (hc : T.code 25 = some ⟨1, 3, Pg.c25⟩) {ns : List Int} {s : Sto} {F : List Asn} (H : Sep s F) : Wp (callN T (k + 1) 25 [.scr ns] s) fun v s' => ∃ b j, v = .loc b ∧ Sep s' (boxA b j :: F) := by
  refine (begun_ok (f := 25) (k := k) hc).imp ?_
  rintro v s' ⟨b, j, rfl, hb, f, h1, h2⟩
  refine ⟨b, j, rfl, ?_⟩
  have H0 : Sep s (star [] :: F) := Sep.star.mpr H
  refine H0.frm2 (fp := []) (fq := [b, j]) (fun a h => h) f (box_P hb) ?_ ?_
  · have := hb.ne
    simp [this]
  · intro i hi
    simp at hi
    rcases hi with rfl | rfl
    · exact .inr h1
    · exact .inr h2
/-- a list of texts -/
def textsA (v : Val) (ws : List Txt) : Asn := match v with
  | .loc l => cell l (.list (ws.map .str))
  | .lst xs => factA (xs = ws.map .str) (star [])
  | _ => factA False (star [])
theorem texts_of {v : Val} {ws : List Txt} {s : Sto} {L : List Asn} (H : Sep s (textsA v ws :: L)) : lstOf s v = some (ws.map .str) := by
  cases v with
  | loc l => simp only [lstOf, show s[l]? = some (.list (ws.map .str)) from H.get]
  | lst xs => rw [(Sep.fact.mp H).1]; rfl
  | _ => exact (Sep.fact.mp H).1.elim
theorem words_S (hc : T.code 26 = some ⟨1, 14, Pg.c26⟩) (ht : T.code 19 = some ⟨2, 3, Pg.c19⟩) {b j : Nat} {s : Sto} {F : List Asn} (H : Sep s (boxA b j :: F)) : Wp (callN T (k + 2) 26 [.loc b] s) fun v s' => ∃ ws, WordsAt ws ∧ Sep s' (textsA v ws :: boxA b j :: F) := by
  obtain ⟨hb, ha⟩ := box_of H
  refine (words_ok (f := 26) (n := 19) (k := k) hc ht hb).imp ?_
  rintro v s' ⟨ws, h1, h2, hb', f, h3⟩
  refine ⟨ws, h2, ?_⟩
  refine Sep.star (M := [textsA v ws, boxA b j]).mp ?_
  have nb := hb'.ne
  have lb : b < s.length := by obtain ⟨_, _, e, _⟩ := hb; exact (List.getElem?_eq_some_iff.mp e).1
  have lj : j < s.length := by obtain ⟨_, _, _, e⟩ := hb; exact (List.getElem?_eq_some_iff.mp e).1
  cases v with
  | loc l =>
    have hl := h3 l rfl
    have el : s'[l]? = some (.list (ws.map .str)) := by
      simp only [lstOf] at h1
      cases e : s'[l]? with
      | none => rw [e] at h1; cases h1
      | some o =>
        rw [e] at h1
        cases o with
        | list xs => simp only [Option.some.injEq] at h1; rw [h1]
        | _ => cases h1
    refine H.frm2 (fp := [b, j]) (fq := [l] ++ ([b, j] ++ [])) ha f ⟨[l], [b, j] ++ [], rfl, ⟨rfl, el⟩, [b, j], [], rfl, box_P hb', rfl⟩ ?_ ?_
    · simp [nb]
      omega
    · intro i hi
      simp at hi
      rcases hi with rfl | rfl | rfl
      · exact .inr hl
      · simp
      · simp
  | lst xs =>
    refine H.frm2 (fp := [b, j]) (fq := [] ++ ([b, j] ++ [])) ha f ⟨[], [b, j] ++ [], rfl, ⟨by simpa [lstOf] using h1, rfl⟩, [b, j], [], rfl, box_P hb', rfl⟩ ?_ ?_
    · simp [nb]
    · intro i hi
      simp at hi
      rcases hi with rfl | rfl <;> simp
  | _ => cases h1
end Lw
end
section
set_option Elab.async false
set_option linter.all false
set_option autoImplicit false
set_option maxRecDepth 100000
set_option maxHeartbeats 1000000
/-! Errands in the laws' hands: what is found is alike. -/
namespace Lw
open Ab
variable {T : Tab} {C : Ctx} {k : Nat}
theorem wp_call {f : Nat} {es : List Ex} {vs : List Val} {en : Env} {s s1 : Sto} {Q : Val → Sto → Prop} (he : evs C es en s = some (.ok vs, s1)) (h : Wp (C.call f vs s1) Q) : Wp (ev C (.call f es) en s) Q := by
  rw [ev, he]
  exact h
theorem wp_meth {m l c f : Nat} {fs : List (Nat × Val)} {o : Ex} {es : List Ex} {vs : List Val} {en : Env} {s s1 : Sto} {Q : Val → Sto → Prop} (ho : ev C o en s = some (.ok (.loc l), s)) (h : s[l]? = some (.inst c fs)) (hm : C.T.meth c m = some f) (he : evs C es en s = some (.ok vs, s1)) (hq : Wp (C.call f (.loc l :: vs) s1) Q) : Wp (ev C (.meth m o es) en s) Q := by
  rw [evs_A ho h hm he]
  exact hq
theorem ev_var {i : Nat} {v : Val} {en : Env} {s : Sto} (g : en[i]? = some (some v)) : ev C (.var i) en s = some (.ok v, s) := by simp only [ev, g, ok]
theorem ev_cst {v : Val} {en : Env} {s : Sto} : ev C (.cst v) en s = some (.ok v, s) := by simp only [ev, ok]
theorem ev_lst2 {a b : Ex} {x y : Val} {en : Env} {s s1 s2 : Sto} (h1 : ev C a en s = some (.ok x, s1)) (h2 : ev C b en s1 = some (.ok y, s2)) : ev C (.lst false [a, b]) en s = some (.ok (.lst [x, y]), s2) := by
  rw [ev, evs_two h1 h2]
  simp only [bnd, List.length_cons, List.length_nil, lim_le, Nat.zero_add, Nat.reduceAdd, Nat.reduceLeDiff, if_true, lift, alloc, Bool.false_eq_true, if_false, ok]
theorem ev_lst1 {a : Ex} {x : Val} {en : Env} {s s1 : Sto} (h1 : ev C a en s = some (.ok x, s1)) : ev C (.lst false [a]) en s = some (.ok (.lst [x]), s1) := by
  rw [ev, evs_one h1]
  simp only [bnd, List.length_cons, List.length_nil, lim_le, Nat.zero_add, Nat.reduceAdd, Nat.reduceLeDiff, if_true, lift, alloc, Bool.false_eq_true, if_false, ok]
theorem ev_tup2 {a b : Ex} {x y : Val} {en : Env} {s s1 s2 : Sto} (h1 : ev C a en s = some (.ok x, s1)) (h2 : ev C b en s1 = some (.ok y, s2)) : ev C (.tup [a, b]) en s = some (.ok (.tup [x, y]), s2) := by
  rw [ev, evs_two h1 h2]
  simp only [bnd, List.length_cons, List.length_nil, lim_le, Nat.zero_add, Nat.reduceAdd, Nat.reduceLeDiff, if_true, ok]
theorem ev_tup1 {a : Ex} {x : Val} {en : Env} {s s1 : Sto} (h1 : ev C a en s = some (.ok x, s1)) : ev C (.tup [a]) en s = some (.ok (.tup [x]), s1) := by
  rw [ev, evs_one h1]
  simp only [bnd, List.length_cons, List.length_nil, lim_le, Nat.zero_add, Nat.reduceAdd, Nat.reduceLeDiff, if_true, ok]
theorem ev_item {a i : Ex} {x y u : Val} {en : Env} {s s1 s2 : Sto} (h1 : ev C a en s = some (.ok x, s1)) (h2 : ev C i en s1 = some (.ok y, s2)) (h3 : itemV x y s2 = some u) : ev C (.item a i) en s = some (.ok u, s2) := by
  rw [ev, h1]
  simp only [bnd, h2, h3, pur, ok]
theorem ev_andT {a b : Ex} {c : Bool} {en : Env} {s s1 s2 : Sto} (h1 : ev C a en s = some (.ok (.bl true), s1)) (h2 : ev C b en s1 = some (.ok (.bl c), s2)) : ev C (.andE a b) en s = some (.ok (.bl c), s2) := by
  rw [ev, h1]
  simp only [bnd, h2, ok]
theorem ev_andF {a b : Ex} {en : Env} {s s1 : Sto} (h1 : ev C a en s = some (.ok (.bl false), s1)) : ev C (.andE a b) en s = some (.ok (.bl false), s1) := by
  rw [ev, h1]
  simp only [bnd, ok]
theorem ev_orT {a b : Ex} {en : Env} {s s1 : Sto} (h1 : ev C a en s = some (.ok (.bl true), s1)) : ev C (.orE a b) en s = some (.ok (.bl true), s1) := by
  rw [ev, h1]
  simp only [bnd, ok]
theorem ev_orF {a b : Ex} {c : Bool} {en : Env} {s s1 s2 : Sto} (h1 : ev C a en s = some (.ok (.bl false), s1)) (h2 : ev C b en s1 = some (.ok (.bl c), s2)) : ev C (.orE a b) en s = some (.ok (.bl c), s2) := by
  rw [ev, h1]
  simp only [bnd, h2, ok]
theorem ev_isN {a : Ex} {neg : Bool} {en : Env} {s s1 : Sto} (h1 : ev C a en s = some (.ok .non, s1)) : ev C (.isN neg a) en s = some (.ok (.bl (!neg)), s1) := by
  rw [ev, h1]
  simp only [bnd, ok]
theorem Wp.of {α : Type} {m : R α} {a : α} {s : Sto} {Q : α → Sto → Prop} (e : m = some (.ok a, s)) (q : Q a s) : Wp m Q := ⟨a, s, e, q⟩
/-! ### what resolves to itself -/
theorem res_all {s : Sto} {n : Nat} : ∀ {xs : List Val}, (∀ x ∈ xs, res s n x = some x) → xs.mapM (res s n) = some xs
  | [], _ => rfl
  | x :: xs, h => by
    rw [List.mapM_cons, h x List.mem_cons_self, res_all fun y hy => h y (List.mem_cons_of_mem _ hy)]
    rfl
theorem res_ask {s : Sto} {n : Nat} (a : Bool × Txt) : res s (n + 2) (askV a) = some (askV a) := rfl
theorem sort_mem {x : Val} {xs : List Val} (h : x ∈ sortV xs) : x ∈ xs := by
  unfold sortV at h
  exact List.mem_mergeSort.mp h
theorem sort_len {xs : List Val} : (sortV xs).length = xs.length := by
  unfold sortV
  exact List.length_mergeSort _
theorem res_lstOf {s : Sto} {n : Nat} {v : Val} {xs : List Val} (h : lstOf s v = some xs) : res s (n + 1) v = (xs.mapM (res s n)).map Val.lst := by
  cases v with
  | loc l =>
    simp only [lstOf] at h
    show (match s[l]? with
      | some (.list vs) => (vs.mapM (res s n)).map Val.lst
      | _ => none) = _
    cases e : s[l]? with
    | none => rw [e] at h; cases h
    | some o =>
      rw [e] at h
      cases o with
      | list ys =>
        simp only [Option.some.injEq] at h
        rw [h]
      | _ => cases h
  | lst ys =>
    simp only [lstOf, Option.some.injEq] at h
    rw [← h]
    rfl
  | _ => simp [lstOf] at h
/-- a list of texts found, one that is due -/
theorem res_texts {s : Sto} {n : Nat} {v : Val} {ws : List Txt} (h : lstOf s v = some (ws.map .str)) : res s (n + 2) v = some (.lst (ws.map .str)) := by
  rw [res_lstOf h, res_strs]
  rfl
theorem small_texts {n : Nat} {ws : List Txt} (h : ws.length ≤ 1000000) : smallV (n + 2) (.lst (ws.map .str)) = true := by
  simp only [smallV, List.length_map, Bool.and_eq_true, decide_eq_true_eq, List.all_eq_true]
  refine ⟨h, fun x hx => ?_⟩
  obtain ⟨w, _, rfl⟩ := List.mem_map.mp hx
  rfl
/-- asks in a list, sorted -/
theorem res_asks {s : Sto} {n : Nat} {v : Val} {as : List (Bool × Txt)} (h : lstOf s v = some (sortV (as.map askV))) : res s (n + 3) v = some (.lst (sortV (as.map askV))) := by
  have key : (sortV (as.map askV)).mapM (res s (n + 2)) = some (sortV (as.map askV)) := res_all fun x hx => by
    obtain ⟨a, _, rfl⟩ := List.mem_map.mp (sort_mem hx)
    exact res_ask a
  rw [res_lstOf h, key]
  rfl
theorem small_asks {n : Nat} {as : List (Bool × Txt)} (h : as.length ≤ 1000000) : smallV (n + 3) (.lst (sortV (as.map askV))) = true := by
  simp only [smallV, sort_len, List.length_map, Bool.and_eq_true, decide_eq_true_eq, List.all_eq_true]
  refine ⟨h, fun x hx => ?_⟩
  obtain ⟨w, _, rfl⟩ := List.mem_map.mp (sort_mem hx)
  simp [smallV, askV]
/-- what is due is what should be -/
theorem due_like (N : HasEr T) (h18 : T.code 18 = some ⟨2, 3, Pg.c18⟩) (hT : C.T = T) (hc : C.call = callN T (k + 8)) {E : Er} (O : E.Ok) {i d : Nat} {v : Val} {en : Env} {s : Sto} {F : List Asn} (g1 : en[i]? = some (some (.loc E.el))) (g2 : en[d]? = some (some v)) (hv : lstOf s v = some (sortV ((asksF E.t).map askV))) (H : Sep s (E.A :: F)) :
    Wp (ev C (.call 18 [(.meth 15 (.var i) []), (.var d)]) en s) fun v s' => v = .bl true ∧ ∃ u, s' = s ++ u := by
  obtain ⟨v1, s1, e1, u, l, rfl, rfl, hl, e2⟩ := due_ok (k := k + 2) N O H
  have a1 : ev C (.meth 15 (.var i) []) en s = some (.ok (.loc l), s ++ u) := by
    rw [evs_A (vs := []) (s1 := s) (ev_var g1) (er_cell H) (by rw [hT]; exact N.e15) (by simp only [evs, ok]), hc]
    exact e1
  refine wp_call (evs_two a1 (ev_var g2)) ?_
  rw [hc]
  have len : (asksF E.t).length ≤ 1000000 := by
    have := asks_len E.t
    have := O.few
    omega
  refine (alike_ok (f := 18) h18 3 (k + 5) (d := .lst (sortV ((asksF E.t).map askV))) (res_asks (n := 0) (by simp only [lstOf, e2])) (res_asks (n := 0) (lst_more hv)) (small_asks (n := 0) len)).imp ?_
  rintro v s' ⟨rfl, rfl⟩
  exact ⟨rfl, u, rfl⟩
/-- told -/
theorem told_w (N : HasEr T) (hT : C.T = T) (hc : C.call = callN T (k + 17)) {E : Er} (O : E.Ok) {i : Nat} {w : Wd} {nm : Txt} {l : Nat} {mk : Mk} {now : Nw} {off : Bool} {ew en2 : Ex} {en : Env} {s : Sto} {F : List Asn} (h : E.t.at? nm = some (l, mk, now, off)) (hf : fitsF w mk now = true) (hk : E.R.kept.length < 90000) (hb : w = .backed → nm ∈ E.R.kept)
    (g1 : en[i]? = some (some (.loc E.el))) (g2 : ev C ew en s = some (.ok (.str w.txt), s)) (g3 : ev C en2 en s = some (.ok (.str nm), s)) (H : Sep s (E.A :: F)) :
    Wp (ev C (.meth 11 (.var i) [ew, en2]) en s) fun v s' => v = .non ∧ Sep s' ((E.tell w nm).A :: F) := by
  refine wp_meth (ev_var g1) (er_cell H) (by rw [hT]; exact N.e11) (evs_two g2 g3) ?_
  rw [hc]
  exact told_ok N O h hf hk hb H
/-- state and kept, found -/
theorem found_w (N : HasEr T) (hT : C.T = T) (hc : C.call = callN T (k + 1)) {E : Er} {i : Nat} {en : Env} {s : Sto} {F : List Asn} (g1 : en[i]? = some (some (.loc E.el))) (H : Sep s (E.A :: F)) :
    ev C (.lst false [(.meth 9 (.var i) []), (.meth 20 (.var i) [])]) en s = some (.ok (.lst [.str (stateF E.t), .loc s.length]), s ++ [.list (E.R.kept.map .str)]) := by
  refine ev_lst2 (s1 := s) ?_ ?_
  · rw [evs_A (vs := []) (s1 := s) (ev_var g1) (er_cell H) (by rw [hT]; exact N.e9) (by simp only [evs, ok]), hc]
    exact state_ok N H
  · rw [evs_A (vs := []) (s1 := s) (ev_var g1) (er_cell H) (by rw [hT]; exact N.e20) (by simp only [evs, ok]), hc]
    exact kept_ok N H
theorem res_pair {s : Sto} {n : Nat} {x y dx dy : Val} (h1 : res s n x = some dx) (h2 : res s n y = some dy) : res s (n + 1) (.lst [x, y]) = some (.lst [dx, dy]) := by
  simp only [res, List.mapM_cons, List.mapM_nil, h1, h2]
  rfl
theorem small_pair {n : Nat} {x y : Val} (h1 : smallV n x = true) (h2 : smallV n y = true) : smallV (n + 1) (.lst [x, y]) = true := by
  simp [smallV, h1, h2]
/-- state and kept are what they should be -/
theorem found_like (N : HasEr T) (h18 : T.code 18 = some ⟨2, 3, Pg.c18⟩) (hT : C.T = T) (hc : C.call = callN T (k + 8)) {E : Er} {i : Nat} {e : Ex} {y : Val} {ks : List Txt} {en : Env} {s : Sto} {F : List Asn} (g1 : en[i]? = some (some (.loc E.el))) (hk : E.R.kept = ks) (hl : ks.length < 90000)
    (he : ∀ s', ev C e en s' = some (.ok (.lst [.str (stateF E.t), y]), s')) (hy : ∀ s', lstOf s' y = some (ks.map .str)) (H : Sep s (E.A :: F)) :
    Wp (ev C (.call 18 [(.lst false [(.meth 9 (.var i) []), (.meth 20 (.var i) [])]), e]) en s) fun v s' => v = .bl true ∧ ∃ u, s' = s ++ u := by
  refine wp_call (evs_two (found_w (k := k + 7) N hT hc g1 H) (he _)) ?_
  rw [hc, hk]
  have a := alike_ok (f := 18) h18 3 (k + 5) (s := s ++ [.list (ks.map .str)]) (x := .lst [.str (stateF E.t), .loc s.length]) (y := .lst [.str (stateF E.t), y]) (d := .lst [.str (stateF E.t), .lst (ks.map .str)]) (res_pair (n := 2) rfl (res_texts (n := 0) (by simp [lstOf]))) (res_pair (n := 2) rfl (res_texts (n := 0) (hy _))) (small_pair (n := 2) rfl (small_texts (n := 0) (by omega)))
  refine a.imp ?_
  rintro v s' ⟨rfl, rfl⟩
  exact ⟨rfl, _, rfl⟩
/-- a new errand -/
theorem mk_w (N : HasEr T) (hT : C.T = T) (hc : C.init = callN T (k + 17)) {p : Pl} (G : GoodP p) {e : Ex} {en : Env} {s : Sto} {F : List Asn} (he : ev C e en s = some (.ok p.v, s)) (H : Sep s F) :
    Wp (ev C (.mk 6 [e]) en s) fun v s' => ∃ (E : Er) (t0 : PT), v = .loc E.el ∧ E.Ok ∧ t0.pl = p ∧ fresh t0 ∧ E.t = (settleF 5 (beginF 5 t0)).1 ∧ E.R.rests = (settleF 5 (beginF 5 t0)).2 ∧ E.R.kept = [] ∧ Sep s' (E.A :: F) := by
  obtain ⟨v, s1, e1, rfl, E, t0, h0, h1, h2, h3, h4, h5, h6, h7⟩ := errand_ok (k := k) N G H
  refine Wp.of (ev_mk (evs_one he) (f := 113) (by rw [hT]; exact N.i6) (by rw [hc]; exact e1)) ⟨E, t0, by rw [h0], h1, h2, h3, h4, h5, h6, h7⟩
/-- names as they are drawn -/
structure Nms (m : Nat) (ws : List Txt) : Prop where
  pos : 0 < ws.length
  few : ws.length ≤ m
  nd : ws.Nodup
  ok : ∀ w ∈ ws, nameOk w
theorem words_cut (h26 : T.code 26 = some ⟨1, 14, Pg.c26⟩) (h19 : T.code 19 = some ⟨2, 3, Pg.c19⟩) (hc : C.call = callN T (k + 2)) {i b j m : Nat} (hm : 0 < m ∧ m ≤ 13) {en : Env} {s : Sto} {F : List Asn} (g : en[i]? = some (some (.loc b))) (H : Sep s (boxA b j :: F)) :
    Wp (ev C (.slice false (.call 26 [(.var i)]) none (some (.bin .add false (.cst (.int 1)) (.call 19 [(.var i), (.cst (.int m))])))) en s) fun v s' => ∃ ws, v = .lst (ws.map .str) ∧ Nms m ws ∧ Sep s' (boxA b j :: F) := by
  have e1 : Wp (ev C (.call 26 [.var i]) en s) fun v s' => ∃ ws, WordsAt ws ∧ Sep s' (textsA v ws :: boxA b j :: F) := wp_call (evs_one (ev_var g)) (by rw [hc]; exact words_S h26 h19 H)
  obtain ⟨v, s1, e1, ws, hw, H1⟩ := e1
  have e2 : Wp (ev C (.call 19 [(.var i), (.cst (.int m))]) en s1) fun x s' => ∃ r : Int, x = .int r ∧ 0 ≤ r ∧ r < m ∧ Sep s' (boxA b j :: textsA v ws :: F) := wp_call (evs_two (ev_var g) ev_cst) (by
    rw [hc]
    exact take_S (T := T) (k := k + 1) (many := m) h19 (H1.perm (.swap ..)) (by omega) (by omega))
  obtain ⟨x, s2, e2, r, rfl, r0, r1, H2⟩ := e2
  obtain ⟨n, rfl⟩ : ∃ n : Nat, r = n := ⟨r.toNat, by omega⟩
  have hl := texts_of (H2.perm (.swap ..))
  refine Wp.of (a := .lst ((ws.take (n + 1)).map .str)) (s := s2) ?_ ⟨ws.take (n + 1), rfl, ⟨?_, ?_, ?_, ?_⟩, H2.tail |> fun h => ?_⟩
  · have e3 : ev C (.bin .add false (.cst (.int 1)) (.call 19 [(.var i), (.cst (.int m))])) en s1 = some (.ok (.int ((n + 1 : Nat) : Int)), s2) := ev_bin ev_cst e2 (by simp only [binV]; congr 3; omega)
    rw [ev, e1]
    simp only [bnd, evo, e3, ok, sliceV]
    have e4 : sliceV false v none (some ((n + 1 : Nat) : Int)) s2 = some (.lst ((ws.take (n + 1)).map .str), s2) := by
      have : ∀ xs : List Val, lstOf s2 v = some xs → sliceV false v none (some ((n + 1 : Nat) : Int)) s2 = some (.lst (cut xs none (some ((n + 1 : Nat) : Int))), s2) := fun xs h => by
        cases v with
        | loc l => simp only [sliceV, h, Option.map_some, alloc, Bool.false_eq_true, if_false]
        | lst l => simp only [sliceV, h, Option.map_some, alloc, Bool.false_eq_true, if_false]
        | _ => simp [lstOf] at h
      rw [this _ hl, cut_to (by rw [List.length_map, hw.len]; omega), List.map_take]
    simp only [sliceV] at e4
    rw [e4]
    rfl
  · rw [List.length_take, hw.len]
    omega
  · rw [List.length_take]
    omega
  · exact hw.nd.sublist (List.take_sublist _ _)
  · exact fun w h => hw.ok w (List.mem_of_mem_take h)
  · exact ((H2.perm (.swap ..)).tail)
/-- nothing is due, nothing is left -/
theorem end_like (N : HasEr T) (h18 : T.code 18 = some ⟨2, 3, Pg.c18⟩) (hT : C.T = T) (hc : C.call = callN T (k + 8)) {E : Er} (O : E.Ok) {i : Nat} {en : Env} {s : Sto} {F : List Asn} (g1 : en[i]? = some (some (.loc E.el))) (ha : asksF E.t = []) (hr : E.R.rests = []) (H : Sep s (E.A :: F)) :
    Wp (ev C (.call 18 [(.lst false [(.meth 15 (.var i) []), (.meth 18 (.var i) [])]), (.lst false [(.lst false []), (.lst false [])])]) en s) fun v s' => v = .bl true := by
  obtain ⟨v1, s1, e1, u, l, rfl, rfl, hl, e2⟩ := due_ok (k := k + 2) N O H
  have H1 : Sep (s ++ u) (E.A :: F) := H.more
  have a1 : ev C (.meth 15 (.var i) []) en s = some (.ok (.loc l), s ++ u) := by
    rw [evs_A (vs := []) (s1 := s) (ev_var g1) (er_cell H) (by rw [hT]; exact N.e15) (by simp only [evs, ok]), hc]
    exact e1
  have a2 : ev C (.meth 18 (.var i) []) en (s ++ u) = some (.ok (.loc (s ++ u).length), s ++ u ++ [.list (sortV (E.R.rests.map .str))]) := by
    rw [evs_A (vs := []) (s1 := s ++ u) (ev_var g1) (er_cell H1) (by rw [hT]; exact N.e18) (by simp only [evs, ok]), hc]
    exact rests_ok N O H1
  have sn : sortV [] = [] := by simp [sortV]
  rw [ha] at e2
  rw [hr] at a2
  simp only [List.map_nil, sn] at e2 a2
  have nil : ∀ s', ev C (.lst false []) en s' = some (.ok (.lst []), s') := fun s' => by simp only [ev, evs, evo, evc, evi, bnd, ok, pur, lift, List.map_cons, List.map_nil, List.cons_append, List.nil_append, List.getElem?_cons_zero, List.getElem?_cons_succ, List.set_cons_zero, List.set_cons_succ, List.replicate_succ, List.replicate_zero, Nat.reduceSub, itemV, seqOf, lstOf, Option.bind_some, Option.bind_none, cmpV, binV, biV, bmV, bmO, bmR, bmC, bmI, bmTy, alloc, Option.map_some, Option.map_none, Bool.false_eq_true, if_false, if_true, optI, walkV, List.length_cons, List.length_nil, lim_le, lim_lt, Nat.zero_add, Nat.reduceAdd, Nat.reduceLeDiff, Nat.zero_le, Nat.reduceLT, Option.isSome_some]
  refine wp_call (evs_two (ev_lst2 a1 a2) (ev_lst2 (nil _) (nil _))) ?_
  rw [hc]
  have b1 : (s ++ u ++ [SO.list []])[l]? = some (.list []) := by
    rw [List.getElem?_append_left (List.getElem?_eq_some_iff.mp e2).1, e2]
  have a := alike_ok (f := 18) h18 2 (k + 6) (s := s ++ u ++ [.list []]) (x := .lst [.loc l, .loc (s ++ u).length]) (y := .lst [.lst [], .lst []]) (d := .lst [.lst [], .lst []]) (res_pair (n := 1) (res_lstOf (n := 0) (xs := []) (by simp only [lstOf, b1])) (res_lstOf (n := 0) (xs := []) (by simp [lstOf]))) rfl rfl
  exact a.imp fun v s' h => h.1
end Lw
end
section
set_option Elab.async false
set_option linter.all false
set_option autoImplicit false
set_option maxRecDepth 100000
set_option maxHeartbeats 1000000
/-! Plain: rows of back steps, and plans of one around them. -/
namespace Lw
open Ab
abbrev Ss := Nat → Nw × Bool
def upd (st : Ss) (i : Nat) (x : Nw × Bool) : Ss := fun j => if j = i then x else st j
theorem upd_at {st : Ss} {i : Nat} {x : Nw × Bool} : upd st i x i = x := if_pos rfl
theorem upd_ne {st : Ss} {i j : Nat} {x : Nw × Bool} (h : j ≠ i) : upd st i x j = st j := if_neg h
section
variable {ls : Nat → Nat} {ns : Nat → Txt} {n : Nat}
/-- back steps one after the other -/
def steps_ (ls : Nat → Nat) (ns : Nat → Txt) (n : Nat) (st : Ss) : List PT := (List.range n).map fun i => .step (ls i) .back (ns i) (st i).1 (st i).2
theorem st_len {st : Ss} : (steps_ ls ns n st).length = n := by simp [steps_]
theorem st_at {st : Ss} {i : Nat} (h : i < n) : (steps_ ls ns n st)[i]? = some (.step (ls i) .back (ns i) (st i).1 (st i).2) := by
  simp [steps_, h]
theorem st_out {st : Ss} {i : Nat} (h : n ≤ i) : (steps_ ls ns n st)[i]? = none := List.getElem?_eq_none (by rw [st_len]; exact h)
theorem st_ext {st st' : Ss} (h : ∀ i, i < n → st i = st' i) : steps_ ls ns n st = steps_ ls ns n st' := by
  unfold steps_
  refine List.map_congr_left fun i hi => ?_
  rw [h i (List.mem_range.mp hi)]
theorem st_set {st : Ss} {i : Nat} {a : Nw} {b : Bool} (h : i < n) : (steps_ ls ns n st).set i (.step (ls i) .back (ns i) a b) = steps_ ls ns n (upd st i (a, b)) := by
  apply List.ext_getElem?
  intro j
  by_cases c : i = j
  · subst c
    rw [List.getElem?_set_self (by rw [st_len]; exact h), st_at h, upd_at]
  · rw [List.getElem?_set_ne c]
    by_cases hj : j < n
    · rw [st_at hj, st_at hj, upd_ne (Ne.symm c)]
    · rw [st_out (by omega), st_out (by omega)]
theorem st_settle {st : Ss} {m : Nat} : eachF (settleF m) (steps_ ls ns n st) = (steps_ ls ns n st, []) := by
  have e : ∀ p ∈ steps_ ls ns n st, settleF m p = (p, []) := fun p hp => by
    obtain ⟨i, _, rfl⟩ := List.mem_map.mp hp
    cases m <;> rfl
  unfold eachF
  rw [map_same fun p hp => by rw [e p hp]]
  congr 1
  rw [List.flatten_eq_nil_iff]
  intro l hl
  obtain ⟨p, hp, rfl⟩ := List.mem_map.mp hl
  rw [e p hp]
theorem st_alt {st : Ss} {j : Nat} {g : Mk → Nw → Bool → Nw} (hj : j < n) (inj : ∀ a b, a < n → b < n → ns a = ns b → a = b) : PT.alts (ns j) g (steps_ ls ns n st) = steps_ ls ns n (upd st j (g .back (st j).1 (st j).2, (st j).2)) := by
  rw [alts_map]
  unfold steps_
  rw [List.map_map]
  refine List.map_congr_left fun i hi => ?_
  have hi := List.mem_range.mp hi
  simp only [Function.comp, PT.alt]
  by_cases c : i = j
  · subst c
    rw [if_pos rfl, upd_at]
  · rw [if_neg fun z => c (inj i j hi hj z), upd_ne c]
theorem st_ats {st : Ss} {j : Nat} (hj : j < n) (inj : ∀ a b, a < n → b < n → ns a = ns b → a = b) : PT.ats? (ns j) (steps_ ls ns n st) = some (ls j, .back, (st j).1, (st j).2) := by
  have key : ∀ (l : List Nat), j ∈ l → (∀ i ∈ l, i < n) → PT.ats? (ns j) (l.map fun i => .step (ls i) .back (ns i) (st i).1 (st i).2) = some (ls j, .back, (st j).1, (st j).2) := by
    intro l
    induction l with
    | nil => intro h; cases h
    | cons i l ih =>
      intro h hl
      simp only [List.map_cons, PT.ats?, PT.at?]
      by_cases c : i = j
      · subst c
        rw [if_pos rfl]
      · rw [if_neg fun z => c (inj i j (hl i List.mem_cons_self) hj z)]
        exact ih ((List.mem_cons.mp h).resolve_left (Ne.symm c)) fun i hi => hl i (List.mem_cons_of_mem _ hi)
  exact key _ (List.mem_range.mpr hj) fun i hi => List.mem_range.mp hi
/-- asked: those one of which alone is asked -/
theorem st_asks_one {st : Ss} {j : Nat} (hj : j < n) (b : Bool) (h1 : (st j).1 = if b = true then .asked else .backing) (h2 : ∀ i, i < n → i ≠ j → (st i).1 ≠ .asked ∧ (st i).1 ≠ .backing) : askss (steps_ ls ns n st) = [(b, ns j)] := by
  have none : ∀ l : List Nat, (∀ i ∈ l, i < n ∧ i ≠ j) → askss (l.map fun i => .step (ls i) .back (ns i) (st i).1 (st i).2) = [] := by
    intro l
    induction l with
    | nil => exact fun _ => rfl
    | cons i l ih =>
      intro h
      have hi := h2 i (h i List.mem_cons_self).1 (h i List.mem_cons_self).2
      simp only [List.map_cons, askss, asksF, if_neg hi.1, if_neg hi.2, List.nil_append]
      exact ih fun i hi => h i (List.mem_cons_of_mem _ hi)
  have e : List.range n = List.range j ++ j :: (List.range n).drop (j + 1) := by
    have : (List.range n).drop j = j :: (List.range n).drop (j + 1) := by
      rw [List.drop_eq_getElem_cons (by simpa using hj)]
      simp
    have t : (List.range n).take j = List.range j := by
      rw [List.take_range]
      congr 1
      omega
    conv => lhs; rw [← List.take_append_drop j (List.range n), t, this]
  have app : ∀ a b : List PT, askss (a ++ b) = askss a ++ askss b := fun a b => by simp [askss_map]
  unfold steps_
  rw [e, List.map_append, List.map_cons, app]
  rw [none (List.range j) fun i hi => by have := List.mem_range.mp hi; omega]
  have hr : ∀ i ∈ (List.range n).drop (j + 1), i < n ∧ i ≠ j := fun i hi => by
    rw [List.mem_drop_iff_getElem] at hi
    obtain ⟨m, hm, rfl⟩ := hi
    simp at hm ⊢
    omega
  simp only [askss, asksF, none _ hr, List.append_nil, List.nil_append]
  cases b with
  | true => simp [h1]
  | false => simp [h1]
theorem st_asks_none {st : Ss} (h2 : ∀ i, i < n → (st i).1 ≠ .asked ∧ (st i).1 ≠ .backing) : askss (steps_ ls ns n st) = [] := by
  have none : ∀ l : List Nat, (∀ i ∈ l, i < n) → askss (l.map fun i => .step (ls i) .back (ns i) (st i).1 (st i).2) = [] := by
    intro l
    induction l with
    | nil => exact fun _ => rfl
    | cons i l ih =>
      intro h
      have hi := h2 i (h i List.mem_cons_self)
      simp only [List.map_cons, askss, asksF, if_neg hi.1, if_neg hi.2, List.nil_append]
      exact ih fun i hi => h i (List.mem_cons_of_mem _ hi)
  exact none _ fun i hi => List.mem_range.mp hi
/-! ### a row -/
/-- j of them are done, the next one is asked -/
def fwd (j : Nat) : Ss := fun i => if i < j then (.done, false) else if i = j then (.asked, false) else (.waits, false)
inductive Ph where
  | fwd (j : Nat)
  | fin
  | bck (i : Nat)
  | gone
  deriving DecidableEq
/-- where a row of n back steps is -/
def RowIs (ls : Nat → Nat) (ns : Nat → Txt) (n l : Nat) (ph : Ph) (t : PT) : Prop := match ph with
  | .fwd j => j < n ∧ t = .join l .row .runs (j : Nat) (steps_ ls ns n (fwd j))
  | .fin => ∃ st : Ss, t = .join l .row .done ((n - 1 : Nat) : Int) (steps_ ls ns n st) ∧ ∀ i, i < n → (st i).1 ≠ .asked ∧ (st i).1 ≠ .backing
  | .bck i => i < n ∧ ∃ st : Ss, t = .join l .row .leaves (i : Nat) (steps_ ls ns n st) ∧ st i = (.backing, true) ∧ (∀ k, k < i → st k = (.done, false)) ∧ ∀ k, i < k → k < n → (st k).1 = .gone ∨ (st k).1 = .waits
  | .gone => ∃ st : Ss, t = .join l .row .gone (-1) (steps_ ls ns n st) ∧ ∀ k, k < n → (st k).1 = .gone ∨ (st k).1 = .waits
/-- a row goes back from a step that is gone -/
theorem row_goes {m j : Nat} {st : Ss} (hj : j < n) (h1 : (st j).1 = .gone) (h2 : ∀ k, k < j → st k = (.done, false)) (h3 : ∀ k, j < k → k < n → (st k).1 = .gone ∨ (st k).1 = .waits) {l : Nat} :
    (rowBack (offF (settleF m)) (j + 1) (steps_ ls ns n st)).2.2.2 = [] ∧ RowIs ls ns n l (if j = 0 then .gone else .bck (j - 1)) (.join l .row (rowBack (offF (settleF m)) (j + 1) (steps_ ls ns n st)).1 (rowBack (offF (settleF m)) (j + 1) (steps_ ls ns n st)).2.1 (rowBack (offF (settleF m)) (j + 1) (steps_ ls ns n st)).2.2.1) := by
  have e1 : offF (settleF m) (.step (ls j) .back (ns j) (st j).1 (st j).2) = (.step (ls j) .back (ns j) .gone true, []) := by rw [h1]; rfl
  have n1 : ∀ a b c d e, PT.now (.step a b c d e) = d := fun _ _ _ _ _ => rfl
  cases j with
  | zero =>
    simp only [rowBack, st_at hj, e1, n1, if_true, st_set hj, List.append_nil]
    refine ⟨trivial, upd st 0 (.gone, true), rfl, fun k hk => ?_⟩
    by_cases c : k = 0
    · subst c
      exact .inl rfl
    · rw [upd_ne c]
      exact h3 k (by omega) hk
  | succ j =>
    have hj' : j < n := by omega
    have ej : upd st (j + 1) (.gone, true) j = (.done, false) := by rw [upd_ne (by omega)]; exact h2 j (by omega)
    have e2 : offF (settleF m) (.step (ls j) .back (ns j) .done false) = (.step (ls j) .back (ns j) .backing true, []) := rfl
    simp only [rowBack, st_at hj, e1, n1, if_true, st_set hj, List.nil_append, st_at hj', ej, e2, reduceCtorEq, if_false, st_set hj']
    refine ⟨trivial, hj', upd (upd st (j + 1) (.gone, true)) j (.backing, true), rfl, upd_at, fun k hk => ?_, fun k hk hn => ?_⟩
    · have hk : k < j := hk
      rw [upd_ne (by omega), upd_ne (by omega)]
      exact h2 k (by omega)
    · have hk : j < k := hk
      rw [upd_ne (by omega)]
      by_cases c : k = j + 1
      · subst c
        rw [upd_at]
        exact .inl rfl
      · rw [upd_ne c]
        exact h3 k (by omega) hn
theorem settle_steps {m l : Nat} {kd : Kd} {now : Nw} {i : Int} {st : Ss} : settleF (m + 1) (.join l kd now i (steps_ ls ns n st)) = (.join l kd (back1 (offF (settleF m)) kd (on1 (beginF m) kd now i (steps_ ls ns n st)).1 (on1 (beginF m) kd now i (steps_ ls ns n st)).2.1 (on1 (beginF m) kd now i (steps_ ls ns n st)).2.2).1 (back1 (offF (settleF m)) kd (on1 (beginF m) kd now i (steps_ ls ns n st)).1 (on1 (beginF m) kd now i (steps_ ls ns n st)).2.1 (on1 (beginF m) kd now i (steps_ ls ns n st)).2.2).2.1 (back1 (offF (settleF m)) kd (on1 (beginF m) kd now i (steps_ ls ns n st)).1 (on1 (beginF m) kd now i (steps_ ls ns n st)).2.1 (on1 (beginF m) kd now i (steps_ ls ns n st)).2.2).2.2.1,
    (back1 (offF (settleF m)) kd (on1 (beginF m) kd now i (steps_ ls ns n st)).1 (on1 (beginF m) kd now i (steps_ ls ns n st)).2.1 (on1 (beginF m) kd now i (steps_ ls ns n st)).2.2).2.2.2) := by
  simp only [settleF, st_settle, List.nil_append]
theorem fwd_lt {i j : Nat} (h : i < j) : fwd j i = (.done, false) := if_pos h
theorem fwd_at {j : Nat} : fwd j j = (.asked, false) := by simp [fwd]
theorem fwd_gt {i j : Nat} (h : j < i) : fwd j i = (.waits, false) := by
  unfold fwd
  rw [if_neg (by omega), if_neg (by omega)]
/-- the row goes on from a step that is done -/
theorem rowOn_done {m j : Nat} (hj : j < n) : rowOn (beginF m) n j (steps_ ls ns n (upd (fwd j) j (.done, false))) = if j + 1 < n then (j + 1, steps_ ls ns n (fwd (j + 1))) else (j, steps_ ls ns n (upd (fwd j) j (.done, false))) := by
  obtain ⟨n', rfl⟩ : ∃ n', n = n' + 1 := ⟨n - 1, by omega⟩
  simp only [rowOn, st_at hj, upd_at]
  split
  · rename_i p q e1 e2
    cases e1
    have hq : j + 1 < n' + 1 := by
      have := (List.getElem?_eq_some_iff.mp e2).1
      rwa [st_len] at this
    rw [st_at hq] at e2
    cases e2
    rw [if_pos (show (PT.step (ls j) Mk.back (ns j) Nw.done false).now = Nw.done from rfl), if_pos hq]
    have eb : beginF m (.step (ls (j + 1)) .back (ns (j + 1)) (upd (fwd j) j (Nw.done, false) (j + 1)).1 (upd (fwd j) j (Nw.done, false) (j + 1)).2) = .step (ls (j + 1)) .back (ns (j + 1)) .asked false := by
      rw [upd_ne (by omega), fwd_gt (by omega)]
      cases m <;> rfl
    rw [eb, st_set hq]
    have es : steps_ ls ns (n' + 1) (upd (upd (fwd j) j (.done, false)) (j + 1) (.asked, false)) = steps_ ls ns (n' + 1) (fwd (j + 1)) := st_ext fun i _ => by
      by_cases c : i = j + 1
      · subst c
        rw [upd_at, fwd_at]
      · rw [upd_ne c]
        by_cases c2 : i = j
        · subst c2
          rw [upd_at, fwd_lt (by omega)]
        · rw [upd_ne c2]
          by_cases c3 : i < j
          · rw [fwd_lt c3, fwd_lt (by omega)]
          · rw [fwd_gt (by omega), fwd_gt (by omega)]
    rw [es]
    cases n' with
    | zero => omega
    | succ n' =>
      simp only [rowOn, st_at hq, fwd_at]
      split
      · rename_i e1 e2
        cases e1
        rfl
      · rfl
  · rename_i h
    rw [if_neg]
    intro hq
    exact h _ _ rfl (st_at hq)
theorem rowOn_not {m j k : Nat} {st : Ss} (h : (st j).1 ≠ .done) : rowOn (beginF m) k j (steps_ ls ns n st) = (j, steps_ ls ns n st) := by
  cases k with
  | zero => rfl
  | succ k =>
    simp only [rowOn]
    split
    · rename_i p q e1 e2
      have hj : j < n := by
        have := (List.getElem?_eq_some_iff.mp e1).1
        rwa [st_len] at this
      rw [st_at hj] at e1
      cases e1
      rw [if_neg (show ¬ (PT.step (ls j) Mk.back (ns j) (st j).fst (st j).snd).now = Nw.done from h)]
    · rfl
theorem nowAt_st {st : Ss} {j : Nat} (hj : j < n) : nowAt (steps_ ls ns n st) j = (st j).1 := by
  unfold nowAt
  rw [st_at hj]
  rfl
/-- whose step is due in a phase -/
def Ph.at (ph : Ph) : Nat := match ph with
  | .fwd j => j
  | .bck i => i
  | _ => 0
def Ph.does (ph : Ph) : Bool := match ph with
  | .fwd _ => true
  | _ => false
def Ph.open (ph : Ph) : Prop := match ph with
  | .fwd _ => True
  | .bck _ => True
  | _ => False
/-- the next phase -/
def Ph.next (n : Nat) (ph : Ph) (w : Wd) : Ph := match ph with
  | .fwd j => match w with
    | .done => if j + 1 < n then .fwd (j + 1) else .fin
    | .failed => if j = 0 then .gone else .bck (j - 1)
    | _ => .fwd j
  | .bck i => match w with
    | .backed => if i = 0 then .gone else .bck (i - 1)
    | _ => .bck i
  | p => p
def Ph.fits (ph : Ph) (w : Wd) : Prop := match ph with
  | .fwd _ => w ≠ .backed
  | .bck _ => w = .backed ∨ w = .again
  | _ => False
/-- what the row is then -/
def Ph.now (ph : Ph) : Nw := match ph with
  | .fwd _ => .runs
  | .fin => .done
  | .bck _ => .leaves
  | .gone => .gone
theorem row_now {l : Nat} {ph : Ph} {t : PT} (h : RowIs ls ns n l ph t) : t.now = ph.now := by
  cases ph with
  | fwd j => rw [h.2]; rfl
  | fin => obtain ⟨st, rfl, _⟩ := h; rfl
  | bck i => obtain ⟨_, st, rfl, _⟩ := h; rfl
  | gone => obtain ⟨st, rfl, _⟩ := h; rfl
theorem row_at (inj : ∀ a b, a < n → b < n → ns a = ns b → a = b) {l : Nat} {ph : Ph} {t : PT} (h : RowIs ls ns n l ph t) (o : ph.open) : ∃ off, t.at? (ns ph.at) = some (ls ph.at, .back, if ph.does = true then .asked else .backing, off) := by
  cases ph with
  | fwd j =>
    rw [h.2]
    exact ⟨_, by simp only [PT.at?]; rw [show Ph.at (.fwd j) = j from rfl, st_ats h.1 inj, fwd_at]; rfl⟩
  | bck i =>
    obtain ⟨hi, st, rfl, e, _⟩ := h
    exact ⟨_, by simp only [PT.at?]; rw [show Ph.at (.bck i) = i from rfl, st_ats hi inj, e]; rfl⟩
  | fin => exact o.elim
  | gone => exact o.elim
def Ph.asks (ns : Nat → Txt) (ph : Ph) : List (Bool × Txt) := match ph with
  | .fwd j => [(true, ns j)]
  | .bck i => [(false, ns i)]
  | _ => []
theorem row_asks {l : Nat} {ph : Ph} {t : PT} (h : RowIs ls ns n l ph t) : asksF t = ph.asks ns := by
  cases ph with
  | fwd j =>
    rw [h.2]
    simp only [asksF]
    refine st_asks_one h.1 true (by rw [fwd_at]; rfl) fun i hi hn => ?_
    by_cases c : i < j
    · rw [fwd_lt c]
      exact ⟨by decide, by decide⟩
    · rw [fwd_gt (by omega)]
      exact ⟨by decide, by decide⟩
  | fin =>
    obtain ⟨st, rfl, h2⟩ := h
    simp only [asksF]
    exact st_asks_none h2
  | bck i =>
    obtain ⟨hi, st, rfl, e, h1, h2⟩ := h
    simp only [asksF]
    refine st_asks_one hi false (by rw [e]; rfl) fun k hk hn => ?_
    by_cases c : k < i
    · rw [h1 k c]
      exact ⟨by decide, by decide⟩
    · rcases h2 k (by omega) hk with z | z <;> (rw [z]; exact ⟨by decide, by decide⟩)
  | gone =>
    obtain ⟨st, rfl, h2⟩ := h
    simp only [asksF]
    exact st_asks_none fun k hk => by rcases h2 k hk with z | z <;> (rw [z]; exact ⟨by decide, by decide⟩)
/-- a row is told something -/
theorem row_tell (inj : ∀ a b, a < n → b < n → ns a = ns b → a = b) {l m : Nat} {ph : Ph} {t : PT} {w : Wd} (h : RowIs ls ns n l ph t) (hf : ph.fits w) :
    (settleF (m + 1) (t.alt (ns ph.at) (ansN w))).2 = [] ∧ RowIs ls ns n l (ph.next n w) (settleF (m + 1) (t.alt (ns ph.at) (ansN w))).1 ∧ (w = .again → (settleF (m + 1) (t.alt (ns ph.at) (ansN w))).1 = t) := by
  cases ph with
  | fin => exact hf.elim
  | gone => exact hf.elim
  | fwd j =>
    obtain ⟨hj, rfl⟩ := h
    have ea : ∀ x, upd (fwd j) j x = fun i => if i < j then (.done, false) else if i = j then x else (.waits, false) := fun x => by
      funext i
      by_cases c : i = j
      · subst c
        rw [upd_at]
        simp
      · rw [upd_ne c]
        simp [fwd, c]
    simp only [PT.alt, show Ph.at (.fwd j) = j from rfl, st_alt hj inj, settle_steps, fwd_at]
    cases w with
    | backed => exact absurd rfl hf
    | again =>
      have e : upd (fwd j) j (ansN .again .back .asked false, false) = fwd j := by
        rw [ea]
        rfl
      have hn : (fwd j j).1 ≠ .done := by rw [fwd_at]; decide
      have o : on1 (beginF m) .row .runs (j : Nat) (steps_ ls ns n (fwd j)) = (Nw.runs, ((j : Nat) : Int), steps_ ls ns n (fwd j)) := by
        have z : nowAt (steps_ ls ns n (fwd j)) j = .asked := by rw [nowAt_st hj, fwd_at]
        simp only [on1, if_true, goOn, Int.toNat_natCast, rowOn_not hn, z, reduceCtorEq, if_false]
      rw [e, o]
      exact ⟨rfl, ⟨hj, rfl⟩, fun _ => rfl⟩
    | done =>
      have e : upd (fwd j) j (ansN .done .back .asked false, false) = upd (fwd j) j (.done, false) := rfl
      rw [e]
      have hne : Wd.done ≠ Wd.again := by decide
      by_cases c : j + 1 < n
      · have o : on1 (beginF m) .row .runs (j : Nat) (steps_ ls ns n (upd (fwd j) j (.done, false))) = (Nw.runs, ((j + 1 : Nat) : Int), steps_ ls ns n (fwd (j + 1))) := by
          have z : nowAt (steps_ ls ns n (fwd (j + 1))) (j + 1) = .asked := by rw [nowAt_st c, fwd_at]
          simp only [on1, if_true, goOn, Int.toNat_natCast, st_len, rowOn_done hj, if_pos c, z, reduceCtorEq, if_false]
        rw [o]
        refine ⟨rfl, ?_, fun z => absurd z hne⟩
        have : Ph.next n (.fwd j) .done = .fwd (j + 1) := if_pos c
        rw [this]
        exact ⟨c, rfl⟩
      · have o : on1 (beginF m) .row .runs (j : Nat) (steps_ ls ns n (upd (fwd j) j (.done, false))) = (Nw.done, ((j : Nat) : Int), steps_ ls ns n (upd (fwd j) j (.done, false))) := by
          have z : nowAt (steps_ ls ns n (upd (fwd j) j (.done, false))) j = .done := by rw [nowAt_st hj, upd_at]
          simp only [on1, if_true, goOn, Int.toNat_natCast, st_len, rowOn_done hj, if_neg c, z]
        rw [o]
        refine ⟨rfl, ?_, fun z => absurd z hne⟩
        have : Ph.next n (.fwd j) .done = .fin := if_neg c
        rw [this]
        refine ⟨upd (fwd j) j (.done, false), ?_, fun i hi => ?_⟩
        · have : n - 1 = j := by omega
          rw [this]
          rfl
        · by_cases c2 : i = j
          · subst c2
            rw [upd_at]
            exact ⟨by decide, by decide⟩
          · rw [upd_ne c2, fwd_lt (by omega)]
            exact ⟨by decide, by decide⟩
    | failed =>
      have e : upd (fwd j) j (ansN .failed .back .asked false, false) = upd (fwd j) j (.gone, false) := rfl
      rw [e]
      have hn : (upd (fwd j) j (Nw.gone, false) j).1 ≠ .done := by rw [upd_at]; decide
      have o : on1 (beginF m) .row .runs (j : Nat) (steps_ ls ns n (upd (fwd j) j (.gone, false))) = (Nw.leaves, ((j : Nat) : Int), steps_ ls ns n (upd (fwd j) j (.gone, false))) := by
        have z : nowAt (steps_ ls ns n (upd (fwd j) j (.gone, false))) j = .gone := by rw [nowAt_st hj, upd_at]
        simp only [on1, if_true, goOn, Int.toNat_natCast, rowOn_not hn, z, reduceCtorEq, if_false]
      rw [o]
      obtain ⟨g1, g2⟩ := row_goes (ls := ls) (ns := ns) (n := n) (m := m) (j := j) (st := upd (fwd j) j (.gone, false)) (l := l) hj (by rw [upd_at]) (fun k hk => by rw [upd_ne (by omega), fwd_lt hk]) fun k hk _ => by
        rw [upd_ne (by omega), fwd_gt hk]
        exact .inr rfl
      simp only [back1, if_true, goBack, Int.toNat_natCast]
      exact ⟨g1, g2, fun z => by cases z⟩
  | bck i =>
    obtain ⟨hi, st, rfl, e, h1, h2⟩ := h
    simp only [PT.alt, show Ph.at (.bck i) = i from rfl, st_alt hi inj, settle_steps, e]
    have o : ∀ qs : List PT, on1 (beginF m) .row .leaves (i : Nat) qs = (Nw.leaves, ((i : Nat) : Int), qs) := fun qs => rfl
    rw [o]
    simp only [back1, if_true, goBack, Int.toNat_natCast]
    rcases hf with rfl | rfl
    · have e2 : upd st i (ansN .backed .back .backing true, true) = upd st i (.gone, true) := rfl
      rw [e2]
      obtain ⟨g1, g2⟩ := row_goes (ls := ls) (ns := ns) (n := n) (m := m) (j := i) (st := upd st i (.gone, true)) (l := l) hi (by rw [upd_at]) (fun k hk => by rw [upd_ne (by omega), h1 k hk]) fun k hk hn => by
        rw [upd_ne (by omega)]
        exact h2 k hk hn
      exact ⟨g1, g2, fun z => by cases z⟩
    · have e2 : steps_ ls ns n (upd st i (ansN .again .back .backing true, true)) = steps_ ls ns n st := st_ext fun k _ => by
        by_cases c : k = i
        · subst c
          rw [upd_at, e]
          rfl
        · rw [upd_ne c]
      have e3 : offF (settleF m) (.step (ls i) .back (ns i) .backing true) = (.step (ls i) .back (ns i) .backing true, []) := rfl
      have n1 : ∀ a b c d e, PT.now (.step a b c d e) = d := fun _ _ _ _ _ => rfl
      have e4 : steps_ ls ns n (upd st i (.backing, true)) = steps_ ls ns n st := e2
      rw [e2]
      simp only [rowBack, st_at hi, e, e3, n1, reduceCtorEq, if_false, st_set hi, e4]
      exact ⟨trivial, ⟨hi, st, rfl, e, h1, h2⟩, fun _ => trivial⟩
end
end Lw
end
section
set_option Elab.async false
set_option linter.all false
set_option autoImplicit false
set_option maxRecDepth 100000
set_option maxHeartbeats 1000000
/-! Plain: plans of one part around a plan. -/
namespace Lw
open Ab
/-- what a plan of one is, its part being that -/
def wn : Nw → Nw
  | .leaves => .runs
  | x => x
def live : Nw → Prop
  | .runs => True
  | .leaves => True
  | .done => True
  | .gone => True
  | _ => False
def wPlace (kd : Kd) (now : Nw) : Int := if now = .gone ∧ kd = .row then -1 else 0
def isJ : PT → Prop
  | .join _ _ _ _ _ => True
  | _ => False
def Wr : List Kd → PT → PT → Prop
  | [], t, row => t = row
  | kd :: ks, t, row => ∃ l t', t = .join l kd (wn t'.now) (wPlace kd t'.now) [t'] ∧ Wr ks t' row
theorem wn_wn (x : Nw) : wn (wn x) = wn x := by cases x <;> rfl
theorem wn_live {x : Nw} (h : live x) : live (wn x) := by cases x <;> first | exact h | trivial
theorem wr_now : ∀ {ks : List Kd} {t row : PT}, Wr ks t row → wn t.now = wn row.now
  | [], t, row, h => by rw [show t = row from h]
  | kd :: ks, t, row, h => by
    obtain ⟨l, t', rfl, h⟩ := h
    show wn (wn t'.now) = _
    rw [wn_wn]
    exact wr_now h
theorem wr_live : ∀ {ks : List Kd} {t row : PT}, Wr ks t row → live row.now → live t.now
  | [], t, row, h, hl => by rw [show t = row from h]; exact hl
  | kd :: ks, t, row, h, hl => by
    obtain ⟨l, t', rfl, h⟩ := h
    exact wn_live (wr_live h hl)
theorem wr_J : ∀ {ks : List Kd} {t row : PT}, Wr ks t row → isJ row → isJ t
  | [], t, row, h, hl => by rw [show t = row from h]; exact hl
  | kd :: ks, t, row, h, hl => by
    obtain ⟨l, t', rfl, h⟩ := h
    trivial
theorem wr_at {x : Txt} : ∀ {ks : List Kd} {t row : PT}, Wr ks t row → t.at? x = row.at? x
  | [], t, row, h => by rw [show t = row from h]
  | kd :: ks, t, row, h => by
    obtain ⟨l, t', rfl, h⟩ := h
    simp only [PT.at?, PT.ats?, wr_at h]
    cases row.at? x <;> rfl
theorem wr_asks : ∀ {ks : List Kd} {t row : PT}, Wr ks t row → asksF t = asksF row
  | [], t, row, h => by rw [show t = row from h]
  | kd :: ks, t, row, h => by
    obtain ⟨l, t', rfl, h⟩ := h
    simp only [asksF, askss, List.append_nil, wr_asks h]
/-- a plan of one settles behind its part -/
theorem wrap_settle {m l : Nat} {kd : Kd} {t1 t2 : PT} (h : settleF m t1 = (t2, [])) (hl : live t2.now) (hj : isJ t2) : settleF (m + 1) (.join l kd .runs 0 [t1]) = (.join l kd (wn t2.now) (wPlace kd t2.now) [t2], []) := by
  have e1 : eachF (settleF m) [t1] = ([t2], []) := by simp [eachF, h]
  cases t2 with
  | step => exact hj.elim
  | join l2 kd2 now2 i2 ps2 =>
    have og : offF (settleF m) (.join l2 kd2 .gone i2 ps2) = (.join l2 kd2 .gone i2 ps2, []) := rfl
    simp only [settleF, e1]
    cases kd with
    | row => cases now2 <;> first | exact hl.elim | simp [on1, goOn, rowOn, nowAt, PT.now, back1, goBack, rowBack, wn, wPlace, og]
    | side => cases now2 <;> first | exact hl.elim | simp [on1, goOn, nowAt, PT.now, back1, goBack, eachF, wn, wPlace, og]
    | els => cases now2 <;> first | exact hl.elim | simp [on1, goOn, elsOn, nowAt, PT.now, back1, goBack, wn, wPlace, og]
/-- a plan within plans of one is told something -/
theorem wr_tell {x : Txt} {g : Mk → Nw → Bool → Nw} {m : Nat} {row row' : PT} (h : settleF m (row.alt x g) = (row', [])) (hl : live row'.now) (hj : isJ row') (ho : wn row.now = .runs) : ∀ {ks : List Kd} {t : PT}, Wr ks t row → ∃ t', settleF (m + ks.length) (t.alt x g) = (t', []) ∧ Wr ks t' row' ∧ (row' = row → t' = t)
  | [], t, hw => by
    rw [show t = row from hw]
    exact ⟨row', h, rfl, fun e => e⟩
  | kd :: ks, t, hw => by
    obtain ⟨l, t1, rfl, hw⟩ := hw
    obtain ⟨t2, e1, w2, s2⟩ := wr_tell h hl hj ho hw
    have hn : wn t1.now = .runs := (wr_now hw).trans ho
    have hg : t1.now ≠ .gone := fun z => by rw [z] at hn; cases hn
    have hp : wPlace kd t1.now = 0 := by simp [wPlace, hg]
    rw [hn, hp]
    refine ⟨_, wrap_settle (l := l) (kd := kd) e1 (wr_live w2 hl) (wr_J w2 hj), ⟨l, t2, rfl, w2⟩, fun e => ?_⟩
    rw [s2 e, hn, hp]
/-! ### rows in plans of one -/
def wrapP : List Kd → Pl → Pl
  | [], p => p
  | kd :: ks, p => .join kd [wrapP ks p]
def backs (kd : Kd) (names : List Txt) : Pl := .join kd (names.map (.step .back))
def nth (names : List Txt) (i : Nat) : Txt := names[i]?.getD []
theorem nth_at {names : List Txt} {i : Nat} (h : i < names.length) : names[i]? = some (nth names i) := by
  simp [nth, h]
theorem nth_inj {names : List Txt} (nd : names.Nodup) : ∀ a b, a < names.length → b < names.length → nth names a = nth names b → a = b := fun a b ha hb e => by
  simp only [nth, List.getElem?_eq_getElem ha, List.getElem?_eq_getElem hb, Option.getD_some] at e
  exact (List.getElem_inj nd).mp e
/-- steps that wait -/
theorem fresh_steps {names : List Txt} {ts : List PT} (h : ts.map PT.pl = names.map (.step .back)) (hf : ∀ t ∈ ts, fresh t) : ∃ ls : Nat → Nat, ts = steps_ ls (nth names) names.length fun _ => (.waits, false) := by
  refine ⟨fun i => (ts[i]?.map PT.l).getD 0, ?_⟩
  have hl : ts.length = names.length := by have := congrArg List.length h; simpa using this
  apply List.ext_getElem?
  intro i
  by_cases hi : i < names.length
  · have hi' : i < ts.length := by omega
    rw [st_at hi]
    have e : ts[i]? = some ts[i] := List.getElem?_eq_getElem hi'
    have := congrArg (·[i]?) h
    simp only [List.getElem?_map, e, nth_at hi, Option.map_some, Option.some.injEq] at this
    have fr := hf _ (List.getElem_mem hi')
    rw [e]
    generalize ts[i] = t at this fr
    cases t with
    | step l mk nm now off =>
      simp only [PT.pl, Pl.step.injEq] at this
      obtain ⟨rfl, rfl⟩ := this
      simp only [fresh] at fr
      obtain ⟨rfl, rfl⟩ := fr
      rfl
    | join => simp [PT.pl] at this
  · rw [List.getElem?_eq_none (by omega), st_out (by omega)]
theorem wrap_begin : ∀ {ks : List Kd} {p : Pl} {t : PT} {n : Nat}, fresh t → t.pl = wrapP ks p → ks.length ≤ n → ∃ t1, fresh t1 ∧ t1.pl = p ∧ ∀ {m : Nat} {row' : PT}, settleF m (beginF (n - ks.length) t1) = (row', []) → live row'.now → isJ row' → ∃ t', settleF (m + ks.length) (beginF n t) = (t', []) ∧ Wr ks t' row'
  | [], p, t, n, hf, hp, hn => ⟨t, hf, hp, fun h _ _ => ⟨_, h, rfl⟩⟩
  | kd :: ks, p, t, n, hf, hp, hn => by
    obtain ⟨n, rfl⟩ : ∃ n', n = n' + 1 := ⟨n - 1, by simp at hn; omega⟩
    cases t with
    | step => simp [PT.pl, wrapP] at hp
    | join l kd' now i ps =>
      obtain ⟨rfl, rfl, fps⟩ := fresh_join.mp hf
      simp only [PT.pl, pls_map, wrapP, Pl.join.injEq] at hp
      obtain ⟨rfl, hp⟩ := hp
      have h1 : ps.length = 1 := by have := congrArg List.length hp; simpa using this
      obtain ⟨u, rfl⟩ := List.length_eq_one_iff.mp h1
      simp only [List.map_cons, List.map_nil, List.cons.injEq, and_true] at hp
      obtain ⟨t1, f1, e1, k1⟩ := wrap_begin (ks := ks) (p := p) (n := n) (fps u List.mem_cons_self) hp (by simp at hn; omega)
      refine ⟨t1, f1, e1, fun {m row'} h hl hj => ?_⟩
      obtain ⟨t2, e2, w2⟩ := k1 (m := m) (row' := row') (by
        have : n + 1 - (kd' :: ks).length = n - ks.length := by simp
        rw [this] at h
        exact h) hl hj
      have eb : beginF (n + 1) (.join l kd' .waits 0 [u]) = .join l kd' .runs 0 [beginF n u] := by cases kd' <;> rfl
      rw [eb]
      exact ⟨_, wrap_settle (l := l) (kd := kd') e2 (wr_live w2 hl) (wr_J w2 hj), l, t2, rfl, w2⟩
/-- a row begins -/
theorem row_begin {names : List Txt} {t : PT} {m m2 : Nat} (nd : names.Nodup) (hn : 0 < names.length) (hf : fresh t) (hp : t.pl = backs .row names) : ∃ l ls, settleF (m + 1) (beginF (m2 + 1) t) = (beginF (m2 + 1) t, []) ∧ RowIs ls (nth names) names.length l (.fwd 0) (beginF (m2 + 1) t) := by
  cases t with
  | step => simp [PT.pl, backs] at hp
  | join l kd now i ps =>
    obtain ⟨rfl, rfl, fps⟩ := fresh_join.mp hf
    simp only [PT.pl, pls_map, backs, Pl.join.injEq] at hp
    obtain ⟨rfl, hp⟩ := hp
    obtain ⟨ls, rfl⟩ := fresh_steps hp fps
    have eb : beginF (m2 + 1) (.join l .row .waits 0 (steps_ ls (nth names) names.length fun _ => (.waits, false))) = .join l .row .runs ((0 : Nat) : Int) (steps_ ls (nth names) names.length (fwd 0)) := by
      have hs : steps_ ls (nth names) names.length (fwd 0) = (steps_ ls (nth names) names.length fun _ => (.waits, false)).set 0 (.step (ls 0) .back (nth names 0) .asked false) := by
        rw [st_set hn]
        refine st_ext fun i _ => ?_
        by_cases c : i = 0
        · subst c
          rw [upd_at, fwd_at]
        · rw [upd_ne c, fwd_gt (by omega)]
      rw [hs]
      have e0 := st_at (ls := ls) (ns := nth names) (st := fun _ => (Nw.waits, false)) hn
      generalize steps_ ls (nth names) names.length (fun _ => (Nw.waits, false)) = ps at e0
      cases ps with
      | nil => simp at e0
      | cons p ps =>
        simp at e0
        subst e0
        cases m2 <;> rfl
    rw [eb]
    have ri : RowIs ls (nth names) names.length l (.fwd 0) (.join l .row .runs ((0 : Nat) : Int) (steps_ ls (nth names) names.length (fwd 0))) := ⟨hn, rfl⟩
    have rt := row_tell (nth_inj nd) (m := m) (w := .again) ri (by simp [Ph.fits])
    have ea : (PT.join l .row .runs ((0 : Nat) : Int) (steps_ ls (nth names) names.length (fwd 0))).alt (nth names (Ph.at (.fwd 0))) (ansN .again) = .join l .row .runs ((0 : Nat) : Int) (steps_ ls (nth names) names.length (fwd 0)) := by
      simp only [PT.alt, show Ph.at (.fwd 0) = 0 from rfl, st_alt hn (nth_inj nd)]
      congr 1
      refine st_ext fun i _ => ?_
      by_cases c : i = 0
      · subst c
        rw [upd_at, fwd_at]
        rfl
      · rw [upd_ne c]
    rw [ea] at rt
    exact ⟨l, ls, Prod.ext (rt.2.2 rfl) rt.1, ri⟩
theorem row_live {ls : Nat → Nat} {ns : Nat → Txt} {n l : Nat} {ph : Ph} {t : PT} (h : RowIs ls ns n l ph t) : live t.now ∧ isJ t := by
  cases ph with
  | fwd j => rw [h.2]; exact ⟨trivial, trivial⟩
  | fin => obtain ⟨st, rfl, _⟩ := h; exact ⟨trivial, trivial⟩
  | bck i => obtain ⟨_, st, rfl, _⟩ := h; exact ⟨trivial, trivial⟩
  | gone => obtain ⟨st, rfl, _⟩ := h; exact ⟨trivial, trivial⟩
/-- an errand of a row, within plans of one -/
structure RowE (names : List Txt) (ks : List Kd) (ph : Ph) (kept : List Txt) (E : Er) : Prop where
  ok : E.Ok
  rests : E.R.rests = []
  kept : E.R.kept = kept
  tree : ∃ ls l row, Wr ks E.t row ∧ RowIs ls (nth names) names.length l ph row
section
variable {names : List Txt} {ks : List Kd} {ph : Ph} {kept : List Txt} {E : Er}
theorem RowE.asks (R : RowE names ks ph kept E) : asksF E.t = ph.asks (nth names) := by
  obtain ⟨ls, l, row, w, r⟩ := R.tree
  rw [wr_asks w]
  exact row_asks r
def Ph.state (ph : Ph) : Txt := match ph with
  | .fin => [100, 111, 110, 101]
  | .gone => [103, 111, 110, 101]
  | _ => [114, 117, 110, 115]
theorem RowE.state (R : RowE names ks ph kept E) : stateF E.t = ph.state := by
  obtain ⟨ls, l, row, w, r⟩ := R.tree
  have a := wr_now w
  rw [row_now r] at a
  have b : stateF E.t = if wn E.t.now = .done ∨ wn E.t.now = .gone then (wn E.t.now).txt else [114, 117, 110, 115] := by
    unfold stateF
    cases E.t.now <;> rfl
  rw [b, a]
  cases ph <;> rfl
theorem RowE.tell (nd : names.Nodup) (hk : ks.length ≤ 4) (R : RowE names ks ph kept E) {w : Wd} (hf : ph.fits w) (ho : ph.open) : (∃ l now off, E.t.at? (nth names ph.at) = some (l, .back, now, off) ∧ fitsF w .back now = true) ∧ RowE names ks (ph.next names.length w) (keptF w (nth names ph.at) kept) (E.tell w (nth names ph.at)) ∧ (w = .again → E.tell w (nth names ph.at) = E) := by
  obtain ⟨ls, l, row, wr, r⟩ := R.tree
  obtain ⟨off, ea⟩ := row_at (nth_inj nd) r ho
  rw [← wr_at wr] at ea
  have hfit : fitsF w .back (if ph.does = true then .asked else .backing) = true := by
    cases ph with
    | fwd j => cases w <;> first | rfl | exact absurd rfl hf
    | bck i => rcases hf with rfl | rfl <;> rfl
    | fin => exact ho.elim
    | gone => exact ho.elim
  obtain ⟨m, hm⟩ : ∃ m, 5 = (m + 1) + ks.length := ⟨4 - ks.length, by omega⟩
  obtain ⟨t1, t2, t3⟩ := row_tell (nth_inj nd) (m := m) r hf
  have rn : wn row.now = .runs := by
    rw [row_now r]
    cases ph <;> first | rfl | exact ho.elim
  obtain ⟨t', s1, s2, s3⟩ := wr_tell (Prod.ext rfl t1) (row_live t2).1 (row_live t2).2 rn wr
  rw [← hm] at s1
  have et : E.tell w (nth names ph.at) = { E with R := { E.R with kept := keptF w (nth names ph.at) E.R.kept, rests := [] }, t := t' } := by
    unfold Er.tell
    rw [ea]
    have er : ansR w .back (nth names ph.at) off = [] := by simp [ansR]
    simp only [er, s1, R.rests, List.nil_append]
  have ok := (tell_ok R.ok ea hfit).1
  refine ⟨⟨_, _, _, ea, hfit⟩, ⟨ok, by rw [et], by rw [et]; show keptF _ _ _ = _; rw [R.kept], ls, l, _, by rw [et]; exact s2, t2⟩, fun hw => ?_⟩
  rw [et, s3 (t3 hw), hw]
  have : ({ E.R with kept := E.R.kept, rests := [] } : Rc) = E.R := by
    rw [← R.rests]
  show Er.mk E.el { E.R with kept := E.R.kept, rests := [] } E.t = E
  rw [this]
/-- at first -/
theorem RowE.new (nd : names.Nodup) (hn : 0 < names.length) (hk : ks.length ≤ 4) {t0 : PT} (ok : E.Ok) (hp : t0.pl = wrapP ks (backs .row names)) (hf : fresh t0) (ht : E.t = (settleF 5 (beginF 5 t0)).1) (hr : E.R.rests = (settleF 5 (beginF 5 t0)).2) (h0 : E.R.kept = []) : RowE names ks (.fwd 0) [] E := by
  obtain ⟨t1, f1, p1, k1⟩ := wrap_begin (n := 5) hf hp (by omega)
  obtain ⟨m, hm⟩ : ∃ m, 5 = (m + 1) + ks.length := ⟨4 - ks.length, by omega⟩
  have hm2 : 5 - ks.length = m + 1 := by omega
  obtain ⟨l, ls, e1, r⟩ := row_begin (m := m) (m2 := m) nd hn f1 p1
  rw [hm2] at k1
  obtain ⟨t', e2, w2⟩ := k1 e1 (row_live r).1 (row_live r).2
  rw [← hm] at e2
  rw [e2] at ht hr
  exact ⟨ok, hr, h0, ls, l, _, by rw [ht]; exact w2, r⟩
end
end Lw
end
section
set_option maxRecDepth 100000
set_option maxHeartbeats 4000000
/-! ### printed by gen2.py -/
namespace K02
/-- _law_tell: 0 _law_box, 1 _law_errand, 2 _law_word, 3 _law_name, 4 _law_due, 5 _law_turn -/
def c30b0 : List Ab.Stm := [(.ifS (.notE (.call 18 [(.meth 15 (.var 1) []), (.var 4)])) [(.ret (.cst (.bl false)))] []), (.ifS (.andE (.cmp .gt (.var 5) (.cst (.int 0))) (.isN true (.meth 11 (.var 1) [(.cst (.str [97, 103, 97, 105, 110])), (.var 3)]))) [(.ret (.cst (.bl false)))] [])]
def c30 : List Ab.Stm := [(.asg (.name 4) (.lst false [(.tup [(.item (.lst false [(.cst (.str [100, 111])), (.cst (.str [98, 97, 99, 107]))]) (.bi .int false [(.cmp .eq (.var 2) (.cst (.str [98, 97, 99, 107, 101, 100])))])), (.var 3)])])), (.forS (.name 5) (.rng1 (.bin .add false (.cst (.int 1)) (.call 19 [(.var 0), (.cst (.int 3))]))) c30b0), (.ret (.andE (.call 18 [(.meth 15 (.var 1) []), (.var 4)]) (.isN false (.meth 11 (.var 1) [(.var 2), (.var 3)]))))]
/-- law: 0 _law_script, 1 _law_box, 2 _law_names, 3 _law_plan, 4 _law_turn, 5 _law_errand, 6 _law_fails, 7 _law_k, 8 _law_due, 9 _law_name -/
def c155b0 : List Ab.Stm := [(.asg (.name 3) (.tup [(.item (.lst false [(.cst (.str [114, 111, 119])), (.cst (.str [115, 105, 100, 101])), (.cst (.str [101, 108, 115, 101]))]) (.call 19 [(.var 1), (.cst (.int 3))])), (.tup [(.var 3)])]))]
def c155b1 : List Ab.Stm := [(.ifS (.cmp .lt (.var 7) (.var 6)) [(.ifS (.notE (.call 30 [(.var 1), (.var 5), (.cst (.str [100, 111, 110, 101])), (.item (.var 2) (.var 7))])) [(.ret (.cst (.bl false)))] []), (.asg (.name 8) (.item (.lst false [(.cst (.str [114, 117, 110, 115])), (.cst (.str [100, 111, 110, 101]))]) (.bi .int false [(.cmp .eq (.var 7) (.bin .sub false (.bi .len false [(.var 2)]) (.cst (.int 1))))]))), (.ifS (.notE (.call 18 [(.lst false [(.meth 9 (.var 5) []), (.meth 20 (.var 5) [])]), (.lst false [(.var 8), (.slice false (.var 2) none (some (.bin .add false (.var 7) (.cst (.int 1)))))])])) [(.ret (.cst (.bl false)))] [])] [])]
def c155b2 : List Ab.Stm := [(.ifS (.notE (.call 18 [(.lst false [(.meth 9 (.var 5) []), (.meth 20 (.var 5) [])]), (.lst false [(.cst (.str [114, 117, 110, 115])), (.slice false (.var 2) none (some (.bin .add false (.var 7) (.cst (.int 1)))))])])) [(.ret (.cst (.bl false)))] []), (.ifS (.notE (.call 30 [(.var 1), (.var 5), (.cst (.str [98, 97, 99, 107, 101, 100])), (.item (.var 2) (.var 7))])) [(.ret (.cst (.bl false)))] [])]
def c155 : List Ab.Stm := [(.asg (.name 1) (.call 25 [(.var 0)])), (.asg (.name 2) (.slice false (.call 26 [(.var 1)]) none (some (.bin .add false (.cst (.int 1)) (.call 19 [(.var 1), (.cst (.int 5))]))))), (.asg (.name 3) (.tup [(.cst (.str [114, 111, 119])), (.bi .tuple false [(.comp false (.tup [(.cst (.str [98, 97, 99, 107])), (.var 9)]) (.name 9) (.val (.var 2)) none [9])])])), (.forS (.name 4) (.rng1 (.call 19 [(.var 1), (.cst (.int 3))])) c155b0), (.asg (.name 5) (.mk 6 [(.var 3)])), (.asg (.name 6) (.call 19 [(.var 1), (.bin .add false (.bi .len false [(.var 2)]) (.cst (.int 1)))])), (.forS (.name 7) (.rng1 (.bi .len false [(.var 2)])) c155b1), (.ifS (.cmp .lt (.var 6) (.bi .len false [(.var 2)])) [(.ifS (.notE (.call 30 [(.var 1), (.var 5), (.cst (.str [102, 97, 105, 108, 101, 100])), (.item (.var 2) (.var 6))])) [(.ret (.cst (.bl false)))] []), (.forS (.name 7) (.rrng (.var 6)) c155b2), (.ifS (.notE (.call 18 [(.lst false [(.meth 9 (.var 5) []), (.meth 20 (.var 5) [])]), (.lst false [(.cst (.str [103, 111, 110, 101])), (.lst false [])])])) [(.ret (.cst (.bl false)))] [])] []), (.ret (.call 18 [(.lst false [(.meth 15 (.var 5) []), (.meth 18 (.var 5) [])]), (.lst false [(.lst false []), (.lst false [])])]))]
def tab : Ab.Tab where
  code := fun
    | 0 => some ⟨1, 1, Pg.c0⟩
    | 1 => some ⟨1, 3, Pg.c1⟩
    | 2 => some ⟨1, 2, Pg.c2⟩
    | 3 => some ⟨1, 2, Pg.c3⟩
    | 4 => some ⟨1, 2, Pg.c4⟩
    | 5 => some ⟨2, 4, Pg.c5⟩
    | 6 => some ⟨1, 3, Pg.c6⟩
    | 7 => some ⟨1, 1, Pg.c7⟩
    | 18 => some ⟨2, 3, Pg.c18⟩
    | 19 => some ⟨2, 3, Pg.c19⟩
    | 25 => some ⟨1, 3, Pg.c25⟩
    | 26 => some ⟨1, 14, Pg.c26⟩
    | 30 => some ⟨4, 6, c30⟩
    | 91 => some ⟨1, 1, Pg.c91⟩
    | 92 => some ⟨4, 4, Pg.c92⟩
    | 93 => some ⟨1, 1, Pg.c93⟩
    | 94 => some ⟨1, 1, Pg.c94⟩
    | 95 => some ⟨1, 1, Pg.c95⟩
    | 96 => some ⟨1, 1, Pg.c96⟩
    | 97 => some ⟨2, 2, Pg.c97⟩
    | 98 => some ⟨1, 1, Pg.c98⟩
    | 99 => some ⟨2, 2, Pg.c99⟩
    | 100 => some ⟨1, 3, Pg.c100⟩
    | 101 => some ⟨1, 1, Pg.c101⟩
    | 102 => some ⟨1, 1, Pg.c102⟩
    | 103 => some ⟨1, 2, Pg.c103⟩
    | 104 => some ⟨1, 1, Pg.c104⟩
    | 105 => some ⟨1, 1, Pg.c105⟩
    | 106 => some ⟨1, 1, Pg.c106⟩
    | 107 => some ⟨1, 1, Pg.c107⟩
    | 108 => some ⟨1, 2, Pg.c108⟩
    | 109 => some ⟨1, 2, Pg.c109⟩
    | 110 => some ⟨1, 2, Pg.c110⟩
    | 111 => some ⟨1, 1, Pg.c111⟩
    | 112 => some ⟨1, 1, Pg.c112⟩
    | 113 => some ⟨2, 2, Pg.c113⟩
    | 114 => some ⟨1, 1, Pg.c114⟩
    | 115 => some ⟨3, 4, Pg.c115⟩
    | 116 => some ⟨3, 3, Pg.c116⟩
    | 117 => some ⟨1, 1, Pg.c117⟩
    | 118 => some ⟨1, 1, Pg.c118⟩
    | 119 => some ⟨1, 1, Pg.c119⟩
    | 120 => some ⟨1, 1, Pg.c120b⟩
    | 155 => some ⟨1, 10, c155⟩
    | _ => none
  init := fun
    | 0 => 92
    | 1 => 99
    | 2 => 99
    | 3 => 99
    | 4 => 91
    | 6 => 113
    | _ => 0
  meth := fun
    | 0, 0 => some 95
    | 0, 1 => some 96
    | 0, 2 => some 93
    | 0, 3 => some 98
    | 0, 6 => some 94
    | 0, 8 => some 97
    | 1, 1 => some 100
    | 1, 2 => some 101
    | 1, 3 => some 103
    | 1, 4 => some 106
    | 1, 5 => some 107
    | 1, 6 => some 102
    | 2, 1 => some 100
    | 2, 2 => some 108
    | 2, 3 => some 103
    | 2, 4 => some 109
    | 2, 5 => some 110
    | 2, 6 => some 102
    | 3, 1 => some 100
    | 3, 2 => some 101
    | 3, 3 => some 103
    | 3, 4 => some 111
    | 3, 5 => some 112
    | 3, 6 => some 102
    | 6, 7 => some 116
    | 6, 9 => some 117
    | 6, 10 => some 120
    | 6, 11 => some 115
    | 6, 15 => some 114
    | 6, 18 => some 119
    | 6, 20 => some 118
    | _, _ => none
  gv := fun
    | 1 => [(.str [97, 98, 99, 100, 101, 102, 103, 104, 105, 106, 107, 108, 109, 110, 111, 112, 113, 114, 115, 116, 117, 118, 119, 120, 121, 122])]
    | 0 => [(.str [98, 97, 99, 107]), (.str [102, 105, 114, 109]), (.str [115, 117, 114, 101])]
    | 2 => [(.int 5)]
    | 3 => [(.int 5)]
    | 4 => [(.int 12)]
    | _ => []
end K02
end
section
set_option Elab.async false
set_option linter.all false
set_option autoImplicit false
set_option maxRecDepth 100000
set_option maxHeartbeats 1000000
/-! k02: the law's run. -/
namespace K02
open Ab Lw
theorem hasEr : HasEr tab where
  c93 := rfl
  c94 := rfl
  c95 := rfl
  c96 := rfl
  c97 := rfl
  c98 := rfl
  c100 := rfl
  c101 := rfl
  c102 := rfl
  c103 := rfl
  c106 := rfl
  c107 := rfl
  c108 := rfl
  c109 := rfl
  c110 := rfl
  c111 := rfl
  c112 := rfl
  m00 := rfl
  m01 := rfl
  m02 := rfl
  m03 := rfl
  m06 := rfl
  m08 := rfl
  j1 := fun kd => by cases kd <;> rfl
  j2 := fun kd => by cases kd <;> rfl
  j3 := fun kd => by cases kd <;> rfl
  j4 := fun kd => by cases kd <;> rfl
  j5 := fun kd => by cases kd <;> rfl
  j6 := fun kd => by cases kd <;> rfl
  c0 := rfl
  c1 := rfl
  c2 := rfl
  c3 := rfl
  c4 := rfl
  c6 := rfl
  g0 := rfl
  g1 := rfl
  g2 := rfl
  g3 := rfl
  g4 := rfl
  c5 := rfl
  c91 := rfl
  c92 := rfl
  c99 := rfl
  i0 := rfl
  ij := fun kd => by cases kd <;> rfl
  i4 := rfl
  c113 := rfl
  c114 := rfl
  c115 := rfl
  c116 := rfl
  c117 := rfl
  c118 := rfl
  c119 := rfl
  i6 := rfl
  e7 := rfl
  e9 := rfl
  e11 := rfl
  e15 := rfl
  e18 := rfl
  e20 := rfl
theorem sort_one (v : Val) : sortV [v] = [v] := by simp [sortV]
theorem sort_nil : sortV [] = [] := by simp [sortV]
section
variable {k : Nat} {names : List Txt} {ks : List Kd} {ph : Ph} {kept : List Txt} {E : Er}
theorem does_of {w : Wd} (hf : ph.fits w) (hw : w ≠ .again) (ho : ph.open) : ph.does = decide (w ≠ .backed) ∧ ph.asks (nth names) = [(ph.does, nth names ph.at)] := by
  cases ph with
  | fwd j => exact ⟨(decide_eq_true (show w ≠ .backed from hf)).symm, rfl⟩
  | bck i =>
    rcases hf with rfl | rfl
    · exact ⟨rfl, rfl⟩
    · exact absurd rfl hw
  | fin => exact ho.elim
  | gone => exact ho.elim
theorem fits_again (ho : ph.open) : ph.fits .again := by
  cases ph with
  | fwd j => exact (by decide : Wd.again ≠ Wd.backed)
  | bck i => exact .inr rfl
  | fin => exact ho.elim
  | gone => exact ho.elim
/-- _law_tell -/
theorem tell_w {b j : Nat} {w : Wd} (nd : names.Nodup) (hk : ks.length ≤ 4) (R : RowE names ks ph kept E) (hf : ph.fits w) (hw : w ≠ .again) (ho : ph.open) (hl : kept.length < 80000) (hin : w = .backed → nth names ph.at ∈ kept) {s : Sto} {F : List Asn} (H : Sep s (boxA b j :: E.A :: F)) :
    Wp (callN tab (k + 18) 30 [.loc b, .loc E.el, .str w.txt, .str (nth names ph.at)] s) fun v s' => v = .bl true ∧ Sep s' (boxA b j :: (E.tell w (nth names ph.at)).A :: F) := by
  obtain ⟨d1, d2⟩ := does_of (names := names) hf hw ho
  have N := hasEr
  obtain ⟨⟨l0, now, off, ea, fit⟩, _, _⟩ := R.tell nd hk hf ho
  obtain ⟨⟨l1, now1, off1, ea1, fit1⟩, _, same⟩ := R.tell nd hk (fits_again ho) ho
  have same := same rfl
  have hkE : E.R.kept.length < 90000 := by rw [R.kept]; omega
  have hds : sortV ((asksF E.t).map askV) = [askV (ph.does, nth names ph.at)] := by
    rw [R.asks, d2]
    exact sort_one _
  refine wp_run (c := ⟨4, 6, c30⟩) rfl rfl ?_
  show WpS (execs _ c30 [some (.loc b), some (.loc E.el), some (.str w.txt), some (.str (nth names ph.at)), none, none] s) _
  have e0 : ∀ {C : Ctx}, ev C (.lst false [(.tup [(.item (.lst false [(.cst (.str [100, 111])), (.cst (.str [98, 97, 99, 107]))]) (.bi .int false [(.cmp .eq (.var 2) (.cst (.str [98, 97, 99, 107, 101, 100])))])), (.var 3)])]) [some (.loc b), some (.loc E.el), some (.str w.txt), some (.str (nth names ph.at)), none, none] s = some (.ok (.lst [askV (ph.does, nth names ph.at)]), s) := fun {C} => by
    refine ev_lst1 (ev_tup2 (s1 := s) (x := .str (if ph.does = true then [100, 111] else [98, 97, 99, 107])) ?_ (ev_var rfl))
    rw [ev, ev_lst2 (ev_cst (s := s)) (ev_cst (s := s))]
    simp only [bnd]
    have : ev C (.bi .int false [(.cmp .eq (.var 2) (.cst (.str [98, 97, 99, 107, 101, 100])))]) [some (.loc b), some (.loc E.el), some (.str w.txt), some (.str (nth names ph.at)), none, none] s = some (.ok (.int (if decide (w = .backed) = true then 1 else 0)), s) := ev_bi1 (word_eq .backed rfl) rfl
    rw [this, d1]
    cases w <;> rfl
  refine w_asg (Wp.of e0 ?_)
  have due : ∀ {C : Ctx} {o : Option Val} {s : Sto}, C.T = tab → C.call = callN tab (k + 17) → Sep s (boxA b j :: E.A :: F) → Wp (ev C (.call 18 [(.meth 15 (.var 1) []), (.var 4)]) [some (.loc b), some (.loc E.el), some (.str w.txt), some (.str (nth names ph.at)), some (.lst [askV (ph.does, nth names ph.at)]), o] s) fun v s' => v = .bl true ∧ ∃ u, s' = s ++ u := fun {C o s} hT hc H =>
    due_like (k := k + 9) N rfl hT hc R.ok (v := .lst [askV (ph.does, nth names ph.at)]) rfl rfl (by rw [hds]; rfl) (H.perm (.swap ..))
  refine w_for (fun i en s' => ∃ o, en = [some (.loc b), some (.loc E.el), some (.str w.txt), some (.str (nth names ph.at)), some (.lst [askV (ph.does, nth names ph.at)]), o] ∧ Sep s' (boxA b j :: E.A :: F)) ?_
  have tk : Wp (ev { T := tab, call := callN tab (k + 17), init := callN tab (k + 17 - 1) } (.call 19 [(.var 0), (.cst (.int 3))]) [some (.loc b), some (.loc E.el), some (.str w.txt), some (.str (nth names ph.at)), some (.lst [askV (ph.does, nth names ph.at)]), none] s) fun v s' => ∃ r : Int, v = .int r ∧ 0 ≤ r ∧ r < 3 ∧ Sep s' (boxA b j :: E.A :: F) :=
    wp_call (evs_two (ev_var rfl) ev_cst) (take_S (T := tab) (k := k + 16) (many := 3) rfl H (by decide) (by decide))
  obtain ⟨v, s1, e1, r, rfl, r0, r1, H1⟩ := tk
  refine ⟨(rngV 0 (1 + r).toNat, none), s1, ?_, ⟨none, rfl, H1⟩, (fun _ _ _ _ => rfl), ?_, ?_⟩
  · show evi _ _ [some (.loc b), some (.loc E.el), some (.str w.txt), some (.str (nth names ph.at)), some (.lst [askV (ph.does, nth names ph.at)]), none] s = _
    rw [evi, ev_bin (x := .int 1) (y := .int r) (u := .int (1 + r)) (s1 := s) (s2 := s1) (s3 := s1) ev_cst e1 rfl]
    have : rngOk 0 (1 + r) = true := decide_eq_true (by omega)
    simp only [bnd, this, if_true, ok]
  · rintro i v en s2 hv ⟨o, rfl, H2⟩
    obtain ⟨rfl, hi⟩ := rng_at hv
    refine ⟨_, rfl, ?_⟩
    obtain ⟨v, s3, e3, rfl, u, rfl⟩ := due (C := { T := tab, call := callN tab (k + 17), init := callN tab (k + 17 - 1) }) (o := some (.int (i : Nat))) rfl rfl H2
    refine w_if (Wp.of (ev_not e3) ⟨false, rfl, fun c => (by cases c), fun _ => ?_⟩)
    have H3 : Sep (s2 ++ u) (boxA b j :: E.A :: F) := H2.more
    have e6 : ev { T := tab, call := callN tab (k + 17), init := callN tab (k + 17 - 1) } (.cmp .gt (.var 5) (.cst (.int 0))) [some (.loc b), some (.loc E.el), some (.str w.txt), some (.str (nth names ph.at)), some (.lst [askV (ph.does, nth names ph.at)]), some (.int (i : Nat))] (s2 ++ u) = some (.ok (.bl (decide ((0 : Int) < (i : Nat)))), s2 ++ u) := ev_cmp (ev_var rfl) ev_cst rfl
    by_cases c : (0 : Int) < (i : Nat)
    · rw [decide_eq_true c] at e6
      have t := told_w (k := k) (C := { T := tab, call := callN tab (k + 17), init := callN tab (k + 17 - 1) }) N rfl rfl R.ok (i := 1) (w := .again) (nm := nth names ph.at) (ew := .cst (.str [97, 103, 97, 105, 110])) (en2 := .var 3) (en := [some (.loc b), some (.loc E.el), some (.str w.txt), some (.str (nth names ph.at)), some (.lst [askV (ph.does, nth names ph.at)]), some (.int (i : Nat))]) ea1 fit1 hkE (fun z => by cases z) rfl ev_cst (ev_var rfl) (H3.perm (.swap ..))
      obtain ⟨v, s4, e4, rfl, H4⟩ := t
      rw [same] at H4
      refine w_if (Wp.of (a := .bl false) (s := s4) (ev_andT e6 (ev_isN e4)) ⟨false, rfl, fun c => (by cases c), fun _ => w_nil ⟨_, rfl, H4.perm (.swap ..)⟩⟩)
    · rw [decide_eq_false c] at e6
      exact w_if (Wp.of (ev_andF e6) ⟨false, rfl, fun c => (by cases c), fun _ => w_nil ⟨_, rfl, H3⟩⟩)
  · rintro en s2 ⟨o, rfl, H2⟩
    obtain ⟨v, s3, e3, rfl, u, rfl⟩ := due (C := { T := tab, call := callN tab (k + 17), init := callN tab (k + 17 - 1) }) (o := o) rfl rfl H2
    have H3 : Sep (s2 ++ u) (boxA b j :: E.A :: F) := H2.more
    have t := told_w (k := k) (C := { T := tab, call := callN tab (k + 17), init := callN tab (k + 17 - 1) }) N rfl rfl R.ok (i := 1) (w := w) (nm := nth names ph.at) (ew := .var 2) (en2 := .var 3) (en := [some (.loc b), some (.loc E.el), some (.str w.txt), some (.str (nth names ph.at)), some (.lst [askV (ph.does, nth names ph.at)]), o]) ea fit hkE (fun z => by rw [R.kept]; exact hin z) rfl (ev_var rfl) (ev_var rfl) (H3.perm (.swap ..))
    obtain ⟨v, s4, e4, rfl, H4⟩ := t
    exact w_ret (Wp.of (ev_andT e3 (ev_isN e4)) ⟨rfl, H4.perm (.swap ..)⟩)
end
end K02
end
section
set_option Elab.async false
set_option linter.all false
set_option autoImplicit false
set_option maxRecDepth 100000
set_option maxHeartbeats 1000000
/-! k02: the law's run. -/
namespace K02
open Ab Lw
variable {k : Nat} {names : List Txt} {ks : List Kd} {ph : Ph} {kept : List Txt} {E : Er}
theorem el_tell {w : Wd} {nm : Txt} : (E.tell w nm).el = E.el := by
  unfold Er.tell
  split <;> rfl
theorem okP_wrap {kd : Kd} (h : 1 ≤ names.length ∧ names.length ≤ 5) : ∀ (ks : List Kd) (n : Nat), ks.length + 2 ≤ n → okP n (wrapP ks (backs kd names))
  | [], n, hn => by
    obtain ⟨n, rfl⟩ : ∃ m, n = m + 1 := ⟨n - 1, by simp at hn; omega⟩
    refine okP_join.mpr ⟨by simpa using h, fun p hp => ?_⟩
    obtain ⟨w, _, rfl⟩ := List.mem_map.mp hp
    simp only [okP]
    simp at hn
    omega
  | kd' :: ks, n, hn => by
    obtain ⟨n, rfl⟩ : ∃ m, n = m + 1 := ⟨n - 1, by simp at hn; omega⟩
    refine okP_join.mpr ⟨by simp, fun p hp => ?_⟩
    rw [List.mem_singleton.mp hp]
    exact okP_wrap h ks n (by simp at hn; omega)
theorem names_wrap {kd : Kd} : ∀ ks : List Kd, (wrapP ks (backs kd names)).names = names
  | [] => by
    simp only [wrapP, backs, Pl.names, namess_map, List.map_map]
    induction names with
    | nil => rfl
    | cons w ws ih => simp only [List.map_cons, List.flatten_cons, ih]; rfl
  | kd' :: ks => by simp [wrapP, Pl.names, Pl.namess, names_wrap ks]
theorem good_wrap {kd : Kd} (h : Nms 5 names) (hk : ks.length ≤ 3) : GoodP (wrapP ks (backs kd names)) where
  ok := okP_wrap ⟨h.pos, h.few⟩ ks 5 (by omega)
  nm := by rw [names_wrap]; exact h.ok
  few := by rw [names_wrap]; have := h.few; omega
  nd := by rw [names_wrap]; exact h.nd
/-- j done ahead -/
def phF (n j : Nat) : Ph := if j < n then .fwd j else .fin
def phB (m : Nat) : Ph := if m = 0 then .gone else .bck (m - 1)
theorem take_erase {names : List Txt} (nd : names.Nodup) {j : Nat} (hj : j < names.length) : (names.take (j + 1)).erase (nth names j) = names.take j := by
  have e : names.take (j + 1) = names.take j ++ [nth names j] := by
    rw [List.take_add_one, nth_at hj]
    rfl
  have : nth names j ∉ names.take j := fun z => by
    have n2 : (names.take j ++ [nth names j]).Nodup := by rw [← e]; exact nd.sublist (List.take_sublist _ _)
    exact (List.nodup_append.mp n2).2.2 _ z _ (List.mem_singleton.mpr rfl) rfl
  rw [e, List.erase_append_right _ this]
  simp
theorem take_next {names : List Txt} {j : Nat} (hj : j < names.length) : names.take (j + 1) = names.take j ++ [nth names j] := by
  rw [List.take_add_one, nth_at hj]
  rfl
/-- the plan as the law writes it -/
theorem backs_v (kd : Kd) (names : List Txt) : (backs kd names).v = .tup [.str kd.txt, .tup (names.map fun w => .tup [.str [98, 97, 99, 107], .str w])] := by
  have : (names.map (Pl.step .back)).map Pl.v = names.map fun w => .tup [.str [98, 97, 99, 107], .str w] := by
    rw [List.map_map]
    exact List.map_congr_left fun w _ => v_step .back w
  rw [backs, v_join, this]
abbrev en0 (ns : List Int) (b : Nat) (names : List Txt) (v : Val) (o4 o5 o6 o7 o8 : Option Val) : Env := [some (.scr ns), some (.loc b), some (.lst (names.map .str)), some v, o4, o5, o6, o7, o8, none]
theorem name_at {C : Ctx} {i j : Nat} {en : Env} {s : Sto} (g : en[2]? = some (some (.lst (names.map .str)))) (g2 : en[i]? = some (some (.int (j : Nat)))) (hj : j < names.length) : ev C (.item (.var 2) (.var i)) en s = some (.ok (.str (nth names j)), s) := by
  have : L2.atI (names.map Val.str) (j : Nat) = some (.str (nth names j)) := atI_of (by rw [List.getElem?_map, nth_at hj]; rfl)
  rw [ev, ev_var g]
  simp only [bnd, ev, g2, ok, itemV, seqOf, lstOf, Option.bind_some, this, pur]
theorem names_len {C : Ctx} {en : Env} {s : Sto} (g : en[2]? = some (some (.lst (names.map .str)))) : ev C (.bi .len false [(.var 2)]) en s = some (.ok (.int names.length), s) := ev_bi1 (ev_var g) (by simp only [biV, seqOf, lstOf, Option.map_some, List.length_map])
theorem names_to {C : Ctx} {en : Env} {s : Sto} {j : Nat} (g : en[2]? = some (some (.lst (names.map .str)))) (g2 : en[7]? = some (some (.int (j : Nat)))) (hj : j < names.length) : ev C (.slice false (.var 2) none (some (.bin .add false (.var 7) (.cst (.int 1))))) en s = some (.ok (.lst ((names.take (j + 1)).map .str)), s) := by
  have e3 : ev C (.bin .add false (.var 7) (.cst (.int 1))) en s = some (.ok (.int ((j + 1 : Nat) : Int)), s) := ev_bin (ev_var g2) ev_cst rfl
  have e4 : sliceV false (.lst (names.map .str)) none (some ((j + 1 : Nat) : Int)) s = some (.lst ((names.take (j + 1)).map .str), s) := by
    simp only [sliceV, lstOf, Option.map_some, alloc, Bool.false_eq_true, if_false]
    rw [cut_to (by rw [List.length_map]; omega), List.map_take]
  rw [ev, ev_var g]
  simp only [bnd, evo, e3, ok, e4, lift]
/-- the walk ahead -/
theorem ahead {C : Ctx} {ns : List Int} {b j el f : Nat} {v : Val} {o4 : Option Val} {rest : List Stm} {Q : SR → Env → Sto → Prop} (hT : C.T = tab) (hc : C.call = callN tab (k + 18)) (M : Nms 5 names) (hk : ks.length ≤ 4) (hf : f ≤ names.length) (hel : E.el = el) (R : RowE names ks (phF names.length 0) [] E) {s : Sto} (H : Sep s [boxA b j, E.A])
    (q : ∀ s' (E' : Er) o7 o8, E'.el = el → RowE names ks (phF names.length f) (names.take f) E' → Sep s' [boxA b j, E'.A] → WpS (execs C rest (en0 ns b names v o4 (some (.loc el)) (some (.int (f : Nat))) o7 o8) s') Q) :
    WpS (execs C (.forS (.name 7) (.rng1 (.bi .len false [(.var 2)])) c155b1 :: rest) (en0 ns b names v o4 (some (.loc el)) (some (.int (f : Nat))) none none) s) Q := by
  refine w_forE (fun i en s' => ∃ (E' : Er) (o7 o8 : Option Val), en = en0 ns b names v o4 (some (.loc el)) (some (.int (f : Nat))) o7 o8 ∧ E'.el = el ∧ RowE names ks (phF names.length (min i f)) (names.take (min i f)) E' ∧ Sep s' [boxA b j, E'.A]) (w := (rngV 0 names.length, none)) (s1 := s) ?_ ⟨E, none, none, rfl, hel, by simpa using R, H⟩ (fun _ _ _ _ => rfl) ?_ ?_
  · rw [evi, names_len rfl]
    have : rngOk 0 names.length = true := decide_eq_true (by have := M.few; omega)
    simp only [bnd, this, if_true, ok, Int.toNat_natCast]
  · rintro i v' en s1 hv ⟨E1, o7, o8, rfl, he, R1, H1⟩
    obtain ⟨rfl, hi⟩ := rng_at hv
    refine ⟨_, rfl, ?_⟩
    show WpS (execs C c155b1 (en0 ns b names v o4 (some (.loc el)) (some (.int (f : Nat))) (some (.int (i : Nat))) o8) s1) _
    refine w_ifE (v := decide ((i : Int) < (f : Nat))) (ev_cmp (ev_var rfl) (ev_var rfl) rfl) (fun c => ?_) fun c => ?_
    · have c : i < f := by have := of_decide_eq_true c; omega
      have hin : i < names.length := by omega
      rw [show min i f = i by omega] at R1
      have hph : phF names.length i = .fwd i := if_pos hin
      rw [hph] at R1
      have t := tell_w (k := k) (b := b) (j := j) (w := .done) M.nd hk R1 (by decide : Wd.done ≠ .backed) (by decide) trivial (by have := M.few; simp; omega) (fun z => by cases z) H1
      obtain ⟨v2, s2, e2, rfl, H2⟩ := t
      have R2 := (R1.tell M.nd hk (w := .done) (by decide : Wd.done ≠ .backed) trivial).2.1
      have e3 : Wp (ev C (.call 30 [(.var 1), (.var 5), (.cst (.str [100, 111, 110, 101])), (.item (.var 2) (.var 7))]) (en0 ns b names v o4 (some (.loc el)) (some (.int (f : Nat))) (some (.int (i : Nat))) o8) s1) fun v s' => v = .bl true ∧ s' = s2 := by
        have ev4 : evs C [(.var 1), (.var 5), (.cst (.str [100, 111, 110, 101])), (.item (.var 2) (.var 7))] (en0 ns b names v o4 (some (.loc el)) (some (.int (f : Nat))) (some (.int (i : Nat))) o8) s1 = some (.ok [.loc b, .loc el, .str Wd.done.txt, .str (nth names i)], s1) := by
          rw [evs, ev_var rfl]
          simp only [bnd]
          rw [evs, ev_var rfl]
          simp only [bnd]
          rw [evs_two ev_cst (name_at rfl rfl hin)]
          rfl
        refine wp_call ev4 ?_
        rw [hc, ← he]
        exact Wp.of e2 ⟨rfl, rfl⟩
      obtain ⟨v3, s3, e3, rfl, rfl⟩ := e3
      refine w_if (Wp.of (ev_not e3) ⟨false, rfl, fun c => (by cases c), fun _ => ?_⟩)
      have hnext : Ph.next names.length (.fwd i) .done = phF names.length (i + 1) := rfl
      rw [hnext] at R2
      have hkept : keptF .done (nth names i) (names.take i) = names.take (i + 1) := (take_next hin).symm
      change RowE names ks (phF names.length (i + 1)) (keptF .done (nth names i) (names.take i)) (E1.tell .done (nth names i)) at R2
      rw [hkept] at R2
      have hst : (if decide ((i : Int) = names.length - 1) = true then ([100, 111, 110, 101] : Txt) else [114, 117, 110, 115]) = stateF (E1.tell .done (nth names i)).t := by
        rw [R2.state]
        unfold phF
        by_cases c2 : i + 1 < names.length
        · rw [if_pos c2, decide_eq_false (by omega)]
          rfl
        · rw [if_neg c2, decide_eq_true (by omega)]
          rfl
      have e8 : ev C (.item (.lst false [(.cst (.str [114, 117, 110, 115])), (.cst (.str [100, 111, 110, 101]))]) (.bi .int false [(.cmp .eq (.var 7) (.bin .sub false (.bi .len false [(.var 2)]) (.cst (.int 1))))])) (en0 ns b names v o4 (some (.loc el)) (some (.int (f : Nat))) (some (.int (i : Nat))) o8) s3 = some (.ok (.str (stateF (E1.tell .done (nth names i)).t)), s3) := by
        rw [ev, ev_lst2 (ev_cst (s := s3)) (ev_cst (s := s3))]
        simp only [bnd]
        have e9 : ev C (.cmp .eq (.var 7) (.bin .sub false (.bi .len false [(.var 2)]) (.cst (.int 1)))) (en0 ns b names v o4 (some (.loc el)) (some (.int (f : Nat))) (some (.int (i : Nat))) o8) s3 = some (.ok (.bl (decide ((i : Int) = names.length - 1))), s3) := ev_cmp (x := .int (i : Nat)) (y := .int (names.length - 1)) (ev_var rfl) (ev_bin (names_len rfl) ev_cst rfl) (by
          simp only [cmpV, eq_ints]
          congr 1)
        rw [ev_bi1 e9 (u := .int (if decide ((i : Int) = names.length - 1) = true then 1 else 0)) rfl, ← hst]
        cases decide ((i : Int) = names.length - 1) <;> rfl
      refine w_asg (Wp.of e8 ?_)
      have fl := found_like (k := k + 10) hasEr rfl hT hc (E := E1.tell .done (nth names i)) (i := 5) (e := .lst false [(.var 8), (.slice false (.var 2) none (some (.bin .add false (.var 7) (.cst (.int 1)))))]) (y := .lst ((names.take (i + 1)).map .str)) (ks := names.take (i + 1)) (en := en0 ns b names v o4 (some (.loc el)) (some (.int (f : Nat))) (some (.int (i : Nat))) (some (.str (stateF (E1.tell .done (nth names i)).t)))) (s := s3) (F := [boxA b j]) (by rw [el_tell, he]; rfl) R2.kept (by have := M.few; simp; omega) (fun s' => ev_lst2 (ev_var rfl) (names_to rfl rfl hin)) (fun s' => rfl) (H2.perm (.swap ..))
      obtain ⟨v5, s5, e5, rfl, u, rfl⟩ := fl
      refine w_if (Wp.of (ev_not e5) ⟨false, rfl, fun c => (by cases c), fun _ => w_nil ⟨E1.tell .done (nth names i), _, _, rfl, by rw [el_tell, he], ?_, H2.more⟩⟩)
      rw [show min (i + 1) f = i + 1 by omega]
      exact R2
    · have c : ¬ i < f := by have := of_decide_eq_false c; omega
      refine w_nil ⟨E1, _, _, rfl, he, ?_, H1⟩
      rw [show min (i + 1) f = f by omega]
      rw [show min i f = f by omega] at R1
      exact R1
  · rintro en s1 ⟨E1, o7, o8, rfl, he, R1, H1⟩
    have : ((rngV 0 names.length, none) : Walk).1.length = names.length := by simp [rngV]
    rw [this, show min names.length f = f by omega] at R1
    exact q s1 E1 o7 o8 he R1 H1
end K02
end
section
set_option Elab.async false
set_option linter.all false
set_option autoImplicit false
set_option maxRecDepth 100000
set_option maxHeartbeats 1000000
/-! k02: the law's run, its end. -/
namespace K02
open Ab Lw
variable {k : Nat} {names : List Txt} {ks : List Kd} {ph : Ph} {kept : List Txt} {E : Er}
theorem rrng_at {n i : Nat} {v : Val} (h : ((rngV 0 n).reverse)[i]? = some v) : v = .int ((n - 1 - i : Nat) : Int) ∧ i < n := by
  have hl : (rngV 0 n).length = n := by simp [rngV]
  have hi : i < n := by
    have := (List.getElem?_eq_some_iff.mp h).1
    simpa [hl] using this
  rw [List.getElem?_reverse (by rw [hl]; exact hi), hl] at h
  exact ⟨(rng_at h).1, hi⟩
/-- told by the law -/
theorem told_call {C : Ctx} {ns : List Int} {b j el f : Nat} {v : Val} {o4 o6 o7 o8 : Option Val} {w : Wd} {e : Ex} (hc : C.call = callN tab (k + 18)) (nd : names.Nodup) (hk : ks.length ≤ 4) (he : E.el = el) (R : RowE names ks ph kept E) (hf : ph.fits w) (hw : w ≠ .again) (ho : ph.open) (hl : kept.length < 80000) (hin : w = .backed → nth names ph.at ∈ kept) {s : Sto}
    (e4 : ev C e (en0 ns b names v o4 (some (.loc el)) o6 o7 o8) s = some (.ok (.str (nth names ph.at)), s)) (H : Sep s [boxA b j, E.A]) :
    Wp (ev C (.call 30 [(.var 1), (.var 5), (.cst (.str w.txt)), e]) (en0 ns b names v o4 (some (.loc el)) o6 o7 o8) s) fun v s' => v = .bl true ∧ Sep s' [boxA b j, (E.tell w (nth names ph.at)).A] := by
  have ev4 : evs C [(.var 1), (.var 5), (.cst (.str w.txt)), e] (en0 ns b names v o4 (some (.loc el)) o6 o7 o8) s = some (.ok [.loc b, .loc el, .str w.txt, .str (nth names ph.at)], s) := by
    rw [evs, ev_var rfl]
    simp only [bnd]
    rw [evs, ev_var rfl]
    simp only [bnd]
    rw [evs_two ev_cst e4]
    rfl
  refine wp_call ev4 ?_
  rw [hc, ← he]
  exact tell_w nd hk R hf hw ho hl hin H
/-- the walk back -/
theorem behind {C : Ctx} {ns : List Int} {b j el f : Nat} {v : Val} {o4 o7 o8 : Option Val} {rest : List Stm} {Q : SR → Env → Sto → Prop} (hT : C.T = tab) (hc : C.call = callN tab (k + 18)) (M : Nms 5 names) (hk : ks.length ≤ 4) (hf : f < names.length) (hel : E.el = el) (R : RowE names ks (phB f) (names.take f) E) {s : Sto} (H : Sep s [boxA b j, E.A])
    (q : ∀ s' (E' : Er) o7 o8, E'.el = el → RowE names ks .gone [] E' → Sep s' [boxA b j, E'.A] → WpS (execs C rest (en0 ns b names v o4 (some (.loc el)) (some (.int (f : Nat))) o7 o8) s') Q) :
    WpS (execs C (.forS (.name 7) (.rrng (.var 6)) c155b2 :: rest) (en0 ns b names v o4 (some (.loc el)) (some (.int (f : Nat))) o7 o8) s) Q := by
  refine w_forE (fun i en s' => ∃ (E' : Er) (o7 o8 : Option Val), en = en0 ns b names v o4 (some (.loc el)) (some (.int (f : Nat))) o7 o8 ∧ E'.el = el ∧ RowE names ks (phB (f - i)) (names.take (f - i)) E' ∧ Sep s' [boxA b j, E'.A]) (w := ((rngV 0 f).reverse, none)) (s1 := s) ?_ ⟨E, o7, o8, rfl, hel, R, H⟩ (fun _ _ _ _ => rfl) ?_ ?_
  · rw [evi, ev_var rfl]
    have : rngOk 0 f = true := decide_eq_true (by have := M.few; omega)
    simp only [bnd, this, if_true, ok, Int.toNat_natCast]
  · rintro i v' en s1 hv ⟨E1, o7, o8, rfl, he, R1, H1⟩
    obtain ⟨rfl, hi⟩ := rrng_at hv
    refine ⟨_, rfl, ?_⟩
    show WpS (execs C c155b2 (en0 ns b names v o4 (some (.loc el)) (some (.int (f : Nat))) (some (.int ((f - 1 - i : Nat) : Int))) o8) s1) _
    obtain ⟨g, hg⟩ : ∃ g, g = f - 1 - i := ⟨_, rfl⟩
    rw [← hg]
    have hfi : f - i = g + 1 := by omega
    rw [hfi] at R1
    have hph : phB (g + 1) = .bck g := rfl
    rw [hph] at R1
    have hgn : g < names.length := by omega
    have fl := found_like (k := k + 10) hasEr rfl hT hc (E := E1) (i := 5) (e := .lst false [(.cst (.str [114, 117, 110, 115])), (.slice false (.var 2) none (some (.bin .add false (.var 7) (.cst (.int 1)))))]) (y := .lst ((names.take (g + 1)).map .str)) (ks := names.take (g + 1)) (en := en0 ns b names v o4 (some (.loc el)) (some (.int (f : Nat))) (some (.int (g : Nat))) o8) (s := s1) (F := [boxA b j]) (by rw [he]; rfl) R1.kept (by have := M.few; simp; omega) (fun s' => by rw [R1.state]; exact ev_lst2 ev_cst (names_to rfl rfl hgn)) (fun s' => rfl) (H1.perm (.swap ..))
    obtain ⟨v5, s5, e5, rfl, u, rfl⟩ := fl
    refine w_if (Wp.of (ev_not e5) ⟨false, rfl, fun c => (by cases c), fun _ => ?_⟩)
    have H2 : Sep (s1 ++ u) [boxA b j, E1.A] := H1.more
    have hin : nth names g ∈ names.take (g + 1) := by rw [take_next hgn]; simp
    obtain ⟨v6, s6, e6, rfl, H6⟩ := told_call (C := C) (ns := ns) (el := el) (v := v) (o4 := o4) (o6 := some (.int (f : Nat))) (o7 := some (.int (g : Nat))) (o8 := o8) (w := .backed) (f := f) (e := .item (.var 2) (.var 7)) hc M.nd hk he R1 (.inl rfl) (by decide) trivial (by have := M.few; simp; omega) (fun _ => hin) (name_at rfl rfl hgn) H2
    have R2 := (R1.tell M.nd hk (w := .backed) (.inl rfl) trivial).2.1
    have hnext : Ph.next names.length (.bck g) .backed = phB g := rfl
    change RowE names ks (phB g) ((names.take (g + 1)).erase (nth names g)) (E1.tell .backed (nth names g)) at R2
    rw [take_erase M.nd hgn] at R2
    refine w_if (Wp.of (ev_not e6) ⟨false, rfl, fun c => (by cases c), fun _ => w_nil ⟨E1.tell .backed (nth names g), _, _, rfl, by rw [el_tell, he], ?_, H6⟩⟩)
    rw [show f - (i + 1) = g by omega]
    exact R2
  · rintro en s1 ⟨E1, o7, o8, rfl, he, R1, H1⟩
    have : (((rngV 0 f).reverse, none) : Walk).1.length = f := by simp [rngV]
    rw [this, show f - f = 0 by omega] at R1
    exact q s1 E1 o7 o8 he (by simpa [phB] using R1) H1
theorem take_w {C : Ctx} {b j i : Nat} {e : Ex} {m : Int} {en : Env} {s s1 : Sto} {F : List Asn} (hc : C.call = callN tab (k + 1)) (g : en[i]? = some (some (.loc b))) (he : ev C e en s = some (.ok (.int m), s)) (h0 : 0 < m) (h1 : m < 1073741824) (H : Sep s (boxA b j :: F)) : Wp (ev C (.call 19 [(.var i), e]) en s) fun v s' => ∃ r : Int, v = .int r ∧ 0 ≤ r ∧ r < m ∧ Sep s' (boxA b j :: F) :=
  wp_call (evs_two (ev_var g) he) (by rw [hc]; exact take_S (T := tab) rfl H h0 h1)
theorem run_ (ns : List Int) : ∃ s, callN tab 19 155 [.scr ns] [] = some (.ok (.bl true), s) := by
  have key : Wp (callN tab (0 + 18 + 1) 155 [.scr ns] []) fun v s' => v = .bl true := by
    refine wp_run (c := ⟨1, 10, c155⟩) rfl rfl ?_
    show WpS (execs { T := tab, call := callN tab (0 + 18), init := callN tab (0 + 17) } c155 [some (.scr ns), none, none, none, none, none, none, none, none, none] []) _
    generalize hC : ({ T := tab, call := callN tab (0 + 18), init := callN tab (0 + 17) } : Ctx) = C
    have hT : C.T = tab := by rw [← hC]
    have hc : C.call = callN tab (0 + 18) := by rw [← hC]
    have hi : C.init = callN tab (0 + 17) := by rw [← hC]
    clear hC
    have b0 : Wp (ev C (.call 25 [(.var 0)]) [some (.scr ns), none, none, none, none, none, none, none, none, none] []) fun v s' => ∃ b j, v = .loc b ∧ Sep s' [boxA b j] := wp_call (evs_one (ev_var rfl)) (by rw [hc]; exact begun_S (T := tab) (k := 17) rfl Sep.nil)
    obtain ⟨v, s1, e1, b, j, rfl, H1⟩ := b0
    refine w_asg (Wp.of e1 ?_)
    obtain ⟨v, s2, e2, names, rfl, M, H2⟩ := words_cut (T := tab) (k := 16) (C := C) (i := 1) (m := 5) rfl rfl hc (by decide) (en := [some (.scr ns), some (.loc b), none, none, none, none, none, none, none, none]) rfl H1
    refine w_asg (Wp.of e2 ?_)
    have e3 : ev C (.tup [(.cst (.str [114, 111, 119])), (.bi .tuple false [(.comp false (.tup [(.cst (.str [98, 97, 99, 107])), (.var 9)]) (.name 9) (.val (.var 2)) none [9])])]) [some (.scr ns), some (.loc b), some (.lst (names.map .str)), none, none, none, none, none, none, none] s2 = some (.ok (wrapP [] (backs .row names)).v, s2) := by
      rw [wrapP, backs_v]
      refine ev_tup2 ev_cst (ev_bi1 (ev_compP (g := fun v => .tup [.str [98, 97, 99, 107], v]) (ws := names.map .str) ?_ ?_ fun v hv => ev_tup2 ev_cst (ev_var rfl)) ?_)
      · rw [evi, ev_var rfl]
        rfl
      · have := M.few
        show _ ≤ 100000
        simp
        omega
      · simp only [biV, seqOf, lstOf, Option.map_some, List.map_map]
        rfl
    refine w_asg (Wp.of e3 ?_)
    show WpS (execs C _ (en0 ns b names (wrapP [] (backs .row names)).v none none none none none) s2) _
    refine w_for (fun i en s' => ∃ (ks : List Kd) (o4 : Option Val), ks.length = i ∧ en = en0 ns b names (wrapP ks (backs .row names)).v o4 none none none none ∧ Sep s' [boxA b j]) ?_
    obtain ⟨v, s3, e4, r, rfl, r0, r1, H3⟩ := take_w (C := C) (k := 17) (i := 1) (e := .cst (.int 3)) (m := 3) (en := en0 ns b names (wrapP [] (backs .row names)).v none none none none none) (s := s2) (s1 := s2) (b := b) (j := j) (F := []) hc rfl ev_cst (by decide) (by decide) H2
    refine ⟨(rngV 0 r.toNat, none), s3, ?_, ⟨[], none, rfl, rfl, H3⟩, (fun _ _ _ _ => rfl), ?_, ?_⟩
    · rw [evi, e4]
      have : rngOk 0 r = true := decide_eq_true (by omega)
      simp only [bnd, this, if_true, ok]
    · rintro i v' en s4 hv ⟨ks, o4, hk, rfl, H4⟩
      refine ⟨_, rfl, ?_⟩
      obtain ⟨v, s5, e5, q, rfl, q0, q1, H5⟩ := take_w (C := C) (k := 17) (i := 1) (e := .cst (.int 3)) (m := 3) (en := en0 ns b names (wrapP ks (backs .row names)).v (some v') none none none none) (s := s4) (s1 := s4) (b := b) (j := j) (F := []) hc rfl ev_cst (by decide) (by decide) H4
      obtain ⟨kd, hkd⟩ : ∃ kd : Kd, L2.atI [Val.str [114, 111, 119], .str [115, 105, 100, 101], .str [101, 108, 115, 101]] q = some (.str kd.txt) := by
        have : q = 0 ∨ q = 1 ∨ q = 2 := by omega
        rcases this with rfl | rfl | rfl
        · exact ⟨.row, rfl⟩
        · exact ⟨.side, rfl⟩
        · exact ⟨.els, rfl⟩
      refine w_asg (Wp.of (a := (wrapP (kd :: ks) (backs .row names)).v) (s := s5) ?_ (w_nil ⟨kd :: ks, some v', by simp [hk], rfl, H5⟩))
      rw [wrapP, v_join]
      refine ev_tup2 (x := .str kd.txt) (s1 := s5) ?_ (ev_tup1 (ev_var rfl))
      have e6 : ev C (.lst false [(.cst (.str [114, 111, 119])), (.cst (.str [115, 105, 100, 101])), (.cst (.str [101, 108, 115, 101]))]) (en0 ns b names (wrapP ks (backs .row names)).v (some v') none none none none) s4 = some (.ok (.lst [.str [114, 111, 119], .str [115, 105, 100, 101], .str [101, 108, 115, 101]]), s4) := by
        simp only [ev, evs, evo, evc, evi, bnd, ok, pur, lift, List.map_cons, List.map_nil, List.cons_append, List.nil_append, List.getElem?_cons_zero, List.getElem?_cons_succ, List.set_cons_zero, List.set_cons_succ, List.replicate_succ, List.replicate_zero, Nat.reduceSub, itemV, seqOf, lstOf, Option.bind_some, Option.bind_none, cmpV, binV, biV, bmV, bmO, bmR, bmC, bmI, bmTy, alloc, Option.map_some, Option.map_none, Bool.false_eq_true, if_false, if_true, optI, walkV, List.length_cons, List.length_nil, lim_le, lim_lt, Nat.zero_add, Nat.reduceAdd, Nat.reduceLeDiff, Nat.zero_le, Nat.reduceLT, Option.isSome_some]
      exact ev_item e6 e5 (by simp only [itemV, seqOf, lstOf, Option.bind_some, hkd])
    · rintro en s4 ⟨ks, o4, hk, rfl, H4⟩
      have hk3 : ks.length ≤ 2 := by
        rw [hk]
        show (rngV 0 r.toNat).length ≤ 2
        simp [rngV]
        omega
      have G : GoodP (wrapP ks (backs .row names)) := good_wrap M (by omega)
      obtain ⟨v, s5, e5, E, t0, rfl, O, hp, fr, ht, hr, h0, H5⟩ := mk_w (k := 0) hasEr hT hi G (e := .var 3) (en := en0 ns b names (wrapP ks (backs .row names)).v o4 none none none none) (s := s4) (ev_var rfl) H4
      refine w_asg (Wp.of e5 ?_)
      have R := RowE.new M.nd M.pos (by omega) O hp fr ht hr h0
      have e6 : ∀ s, ev C (.bin .add false (.bi .len false [(.var 2)]) (.cst (.int 1))) (en0 ns b names (wrapP ks (backs .row names)).v o4 (some (.loc E.el)) none none none) s = some (.ok (.int (names.length + 1)), s) := fun s => ev_bin (names_len rfl) ev_cst rfl
      obtain ⟨v, s6, e7, f, rfl, f0, f1, H6⟩ := take_w (C := C) (k := 17) (i := 1) (m := names.length + 1) (en := en0 ns b names (wrapP ks (backs .row names)).v o4 (some (.loc E.el)) none none none) (s := s5) (s1 := s5) (b := b) (j := j) (F := [E.A]) hc rfl (e6 s5) (by omega) (by have := M.few; omega) (H5.perm (.swap ..))
      obtain ⟨f, rfl⟩ : ∃ g : Nat, f = g := ⟨f.toNat, by omega⟩
      refine w_asg (Wp.of e7 ?_)
      have hf : f ≤ names.length := by omega
      have R0 : RowE names ks (phF names.length 0) [] E := by
        rw [phF, if_pos M.pos]
        exact R
      refine ahead (k := 0) hT hc M (by omega) hf rfl R0 H6 fun s7 E1 o7 o8 he R1 H7 => ?_
      have fin : ∀ {s : Sto} {E' : Er} {o7 o8 : Option Val} {ph : Ph} {kept : List Txt}, E'.el = E.el → RowE names ks ph kept E' → ph.asks (nth names) = [] → Sep s [boxA b j, E'.A] → Wp (ev C (.call 18 [(.lst false [(.meth 15 (.var 5) []), (.meth 18 (.var 5) [])]), (.lst false [(.lst false []), (.lst false [])])]) (en0 ns b names (wrapP ks (backs .row names)).v o4 (some (.loc E.el)) (some (.int (f : Nat))) o7 o8) s) fun v s' => v = .bl true := fun {s E' o7 o8 ph kept} he R ha H =>
        end_like (k := 10) hasEr rfl hT hc R.ok (i := 5) (by rw [he]; rfl) (R.asks.trans ha) R.rests (H.perm (.swap ..))
      refine w_ifE (v := decide ((f : Int) < names.length)) (ev_cmp (ev_var rfl) (names_len rfl) rfl) (fun c => ?_) fun c => ?_
      · have c : f < names.length := by have := of_decide_eq_true c; omega
        have hph : phF names.length f = .fwd f := if_pos c
        rw [hph] at R1
        obtain ⟨v8, s8, e8, rfl, H8⟩ := told_call (k := 0) (C := C) (ns := ns) (el := E.el) (v := (wrapP ks (backs .row names)).v) (o4 := o4) (o6 := some (.int (f : Nat))) (o7 := o7) (o8 := o8) (w := .failed) (f := f) (e := .item (.var 2) (.var 6)) hc M.nd (by omega) he R1 (by decide : Wd.failed ≠ .backed) (by decide) trivial (by have := M.few; simp; omega) (fun z => by cases z) (name_at rfl rfl c) H7
        refine w_if (Wp.of (ev_not e8) ⟨false, rfl, fun c => (by cases c), fun _ => ?_⟩)
        have R2 := (R1.tell M.nd (by omega) (w := .failed) (by decide : Wd.failed ≠ .backed) trivial).2.1
        change RowE names ks (phB f) (names.take f) (E1.tell .failed (nth names f)) at R2
        refine behind (k := 0) hT hc M (by omega) c (by rw [el_tell, he]) R2 H8 fun s9 E2 o7 o8 he2 R3 H9 => ?_
        have fl := found_like (k := 10) hasEr rfl hT hc (E := E2) (i := 5) (e := .lst false [(.cst (.str [103, 111, 110, 101])), (.lst false [])]) (y := .lst []) (ks := []) (en := en0 ns b names (wrapP ks (backs .row names)).v o4 (some (.loc E.el)) (some (.int (f : Nat))) o7 o8) (s := s9) (F := [boxA b j]) (by rw [he2]; rfl) R3.kept (by simp) (fun s' => by rw [R3.state]; exact ev_lst2 ev_cst (by simp only [ev, evs, evo, evc, evi, bnd, ok, pur, lift, List.map_cons, List.map_nil, List.cons_append, List.nil_append, List.getElem?_cons_zero, List.getElem?_cons_succ, List.set_cons_zero, List.set_cons_succ, List.replicate_succ, List.replicate_zero, Nat.reduceSub, itemV, seqOf, lstOf, Option.bind_some, Option.bind_none, cmpV, binV, biV, bmV, bmO, bmR, bmC, bmI, bmTy, alloc, Option.map_some, Option.map_none, Bool.false_eq_true, if_false, if_true, optI, walkV, List.length_cons, List.length_nil, lim_le, lim_lt, Nat.zero_add, Nat.reduceAdd, Nat.reduceLeDiff, Nat.zero_le, Nat.reduceLT, Option.isSome_some])) (fun s' => rfl) (H9.perm (.swap ..))
        obtain ⟨v10, s10, e10, rfl, u, rfl⟩ := fl
        refine w_if (Wp.of (ev_not e10) ⟨false, rfl, fun c => (by cases c), fun _ => w_ret ((fin he2 R3 rfl H9.more).imp fun v s' h => h)⟩)
      · have c : f = names.length := by have := of_decide_eq_false c; omega
        have hph : phF names.length f = .fin := if_neg (by omega)
        rw [hph] at R1
        exact w_ret ((fin he R1 rfl H7).imp fun v s' h => h)
  obtain ⟨v, s, e, rfl⟩ := key
  exact ⟨s, e⟩
theorem math : ∀ ns : List Int, ns.length ≤ 63 → ∃ s, callN tab (18 + 1) 155 [.scr ns] [] = some (.ok (.bl true), s) := fun ns _ => run_ ns
end K02
end
section
set_option maxRecDepth 100000
set_option maxHeartbeats 4000000
/-! ### printed by gen2.py: the machine's tables of this program -/
namespace K02
open PySem L2 Sn
def top (i : Nat) : Stmt := PySem.Challenge.pw_errandback_k02_rows_of_steps.main.body.getD i (.Pass ⟨0, 0, 0, 0⟩)
def sta : Sta where
  fns := [some ("is_step" : Str), some ("names_of" : Str), some ("depth_of" : Str), some ("fits_many" : Str), some ("is_name" : Str), some ("node_of" : Str), some ("check_plan" : Str), some ("_wall" : Str), (none : Option Str), (none : Option Str), (none : Option Str), (none : Option Str), (none : Option Str), (none : Option Str), (none : Option Str), (none : Option Str), (none : Option Str), (none : Option Str), some ("_law_alike" : Str), some ("_law_take" : Str), (none : Option Str), (none : Option Str), (none : Option Str), (none : Option Str), (none : Option Str), some ("_law_begun" : Str), some ("_law_words" : Str), (none : Option Str), (none : Option Str), (none : Option Str), some ("_law_tell" : Str), (none : Option Str), (none : Option Str), (none : Option Str), (none : Option Str), (none : Option Str), (none : Option Str), (none : Option Str), (none : Option Str), (none : Option Str), (none : Option Str), (none : Option Str), (none : Option Str), (none : Option Str), (none : Option Str), (none : Option Str), (none : Option Str), (none : Option Str), (none : Option Str), (none : Option Str), (none : Option Str), (none : Option Str), (none : Option Str), (none : Option Str), (none : Option Str), (none : Option Str), (none : Option Str), (none : Option Str), (none : Option Str), (none : Option Str), (none : Option Str), (none : Option Str), (none : Option Str), (none : Option Str), (none : Option Str), (none : Option Str), (none : Option Str), (none : Option Str), (none : Option Str), (none : Option Str), (none : Option Str), (none : Option Str), (none : Option Str), (none : Option Str), (none : Option Str), (none : Option Str), (none : Option Str), (none : Option Str), (none : Option Str), (none : Option Str), (none : Option Str), (none : Option Str), (none : Option Str), (none : Option Str), (none : Option Str), (none : Option Str), (none : Option Str), (none : Option Str), (none : Option Str), (none : Option Str), (none : Option Str), (none : Option Str), (none : Option Str), (none : Option Str), (none : Option Str), (none : Option Str), (none : Option Str), (none : Option Str), (none : Option Str), (none : Option Str), (none : Option Str), (none : Option Str), (none : Option Str), (none : Option Str), (none : Option Str), (none : Option Str), (none : Option Str), (none : Option Str), (none : Option Str), (none : Option Str), (none : Option Str), (none : Option Str), (none : Option Str), (none : Option Str), (none : Option Str), (none : Option Str), (none : Option Str), (none : Option Str), (none : Option Str), (none : Option Str), (none : Option Str), (none : Option Str), (none : Option Str), (none : Option Str), (none : Option Str), (none : Option Str), (none : Option Str), (none : Option Str), (none : Option Str), (none : Option Str), (none : Option Str), (none : Option Str), (none : Option Str), (none : Option Str), (none : Option Str), (none : Option Str), (none : Option Str), (none : Option Str), (none : Option Str), (none : Option Str), (none : Option Str), (none : Option Str), (none : Option Str), (none : Option Str), (none : Option Str), (none : Option Str), (none : Option Str), (none : Option Str), (none : Option Str), (none : Option Str), (none : Option Str), (none : Option Str), (none : Option Str), (none : Option Str), (none : Option Str), some ("law" : Str)]
  cls := [some ("Step" : Str), some ("Row" : Str), some ("Side" : Str), some ("Else" : Str), some ("Record" : Str), (none : Option Str), some ("Errand" : Str)]
  mts := [some ("leave" : Str), some ("asks" : Str), some ("begin" : Str), some ("settle" : Str), some ("go_on" : Str), some ("go_back" : Str), some ("call_off" : Str), some ("fits" : Str), some ("answer" : Str), some ("state" : Str), some ("stop" : Str), some ("told" : Str), (none : Option Str), (none : Option Str), (none : Option Str), some ("due" : Str), (none : Option Str), (none : Option Str), some ("rests" : Str), (none : Option Str), some ("kept" : Str)]
  flds := [some ("kept_names" : Str), some ("rest_names" : Str), some ("by_name" : Str), some ("make" : Str), some ("name" : Str), some ("record" : Str), some ("now" : Str), some ("off" : Str), some ("parts" : Str), some ("at" : Str), some ("root" : Str)]
  mds := []
  gls := [(none : Option Str), some ("LETTERS" : Str), some ("MOST_PARTS" : Str), some ("MOST_DEEP" : Str), some ("MOST_STEPS" : Str)]
  gts := [some ("STEPS" : Str)]
abbrev s0 : Stmt := top 11
def t0 : Txt := ⟨"is_step", "is_step", defArgs s0, defBody s0, defScope s0, ["plan"], ["plan"], Pg.c0⟩
theorem o0 : t0.ok sta = true := by decide +kernel
abbrev s1 : Stmt := top 13
def t1 : Txt := ⟨"names_of", "names_of", defArgs s1, defBody s1, defScope s1, ["plan", "found", "part"], ["plan"], Pg.c1⟩
theorem o1 : t1.ok sta = true := by decide +kernel
abbrev s2 : Stmt := top 14
def t2 : Txt := ⟨"depth_of", "depth_of", defArgs s2, defBody s2, defScope s2, ["plan", "part"], ["plan"], Pg.c2⟩
theorem o2 : t2.ok sta = true := by decide +kernel
abbrev s3 : Stmt := top 15
def t3 : Txt := ⟨"fits_many", "fits_many", defArgs s3, defBody s3, defScope s3, ["plan", "part"], ["plan"], Pg.c3⟩
theorem o3 : t3.ok sta = true := by decide +kernel
abbrev s4 : Stmt := top 12
def t4 : Txt := ⟨"is_name", "is_name", defArgs s4, defBody s4, defScope s4, ["text", "sign"], ["text"], Pg.c4⟩
theorem o4 : t4.ok sta = true := by decide +kernel
abbrev s5 : Stmt := top 24
def t5 : Txt := ⟨"node_of", "node_of", defArgs s5, defBody s5, defScope s5, ["plan", "record", "parts", "part"], ["plan", "record"], Pg.c5⟩
theorem o5 : t5.ok sta = true := by decide +kernel
abbrev s6 : Stmt := top 16
def t6 : Txt := ⟨"check_plan", "check_plan", defArgs s6, defBody s6, defScope s6, ["plan", "names", "name"], ["plan"], Pg.c6⟩
theorem o6 : t6.ok sta = true := by decide +kernel
abbrev s7 : Stmt := top 0
def t7 : Txt := ⟨"_wall", "_wall", defArgs s7, defBody s7, defScope s7, ["k"], ["k"], Pg.c7⟩
theorem o7 : t7.ok sta = true := by decide +kernel
abbrev s18 : Stmt := top 30
def t18 : Txt := ⟨"_law_alike", "_law_alike", defArgs s18, defBody s18, defScope s18, ["_law_found", "_law_due", "_law_k"], ["_law_found", "_law_due"], Pg.c18⟩
theorem o18 : t18.ok sta = true := by decide +kernel
abbrev s19 : Stmt := top 29
def t19 : Txt := ⟨"_law_take", "_law_take", defArgs s19, defBody s19, defScope s19, ["_law_box", "_law_many", "_law_number"], ["_law_box", "_law_many"], Pg.c19⟩
theorem o19 : t19.ok sta = true := by decide +kernel
abbrev s25 : Stmt := top 28
def t25 : Txt := ⟨"_law_begun", "_law_begun", defArgs s25, defBody s25, defScope s25, ["_law_script", "_law_stirred", "_law_cell"], ["_law_script"], Pg.c25⟩
theorem o25 : t25.ok sta = true := by decide +kernel
abbrev s26 : Stmt := top 31
def t26 : Txt := ⟨"_law_words", "_law_words", defArgs s26, defBody s26, defScope s26, ["_law_box", "_law_letters", "_law_base", "_law_first", "_law_sort", "_law_words_here", "_law_k", "_law_place", "_law_size", "_law_step", "_law_others", "_law_word", "_law_number", "_law_letter"], ["_law_box"], Pg.c26⟩
theorem o26 : t26.ok sta = true := by decide +kernel
abbrev s30 : Stmt := top 32
def t30 : Txt := ⟨"_law_tell", "_law_tell", defArgs s30, defBody s30, defScope s30, ["_law_box", "_law_errand", "_law_word", "_law_name", "_law_due", "_law_turn"], ["_law_box", "_law_errand", "_law_word", "_law_name"], c30⟩
theorem o30 : t30.ok sta = true := by decide +kernel
abbrev s91 : Stmt := inClass (top 18) 0
def t91 : Txt := ⟨"__init__", "Record.__init__", defArgs s91, defBody s91, defScope s91, ["self"], ["self"], Pg.c91⟩
theorem o91 : t91.ok sta = true := by decide +kernel
abbrev s92 : Stmt := inClass (top 19) 0
def t92 : Txt := ⟨"__init__", "Step.__init__", defArgs s92, defBody s92, defScope s92, ["self", "make", "name", "record"], ["self", "make", "name", "record"], Pg.c92⟩
theorem o92 : t92.ok sta = true := by decide +kernel
abbrev s93 : Stmt := inClass (top 19) 1
def t93 : Txt := ⟨"begin", "Step.begin", defArgs s93, defBody s93, defScope s93, ["self"], ["self"], Pg.c93⟩
theorem o93 : t93.ok sta = true := by decide +kernel
abbrev s94 : Stmt := inClass (top 19) 2
def t94 : Txt := ⟨"call_off", "Step.call_off", defArgs s94, defBody s94, defScope s94, ["self"], ["self"], Pg.c94⟩
theorem o94 : t94.ok sta = true := by decide +kernel
abbrev s95 : Stmt := inClass (top 19) 3
def t95 : Txt := ⟨"leave", "Step.leave", defArgs s95, defBody s95, defScope s95, ["self"], ["self"], Pg.c95⟩
theorem o95 : t95.ok sta = true := by decide +kernel
abbrev s96 : Stmt := inClass (top 19) 4
def t96 : Txt := ⟨"asks", "Step.asks", defArgs s96, defBody s96, defScope s96, ["self"], ["self"], Pg.c96⟩
theorem o96 : t96.ok sta = true := by decide +kernel
abbrev s97 : Stmt := inClass (top 19) 5
def t97 : Txt := ⟨"answer", "Step.answer", defArgs s97, defBody s97, defScope s97, ["self", "word"], ["self", "word"], Pg.c97⟩
theorem o97 : t97.ok sta = true := by decide +kernel
abbrev s98 : Stmt := inClass (top 19) 6
def t98 : Txt := ⟨"settle", "Step.settle", defArgs s98, defBody s98, defScope s98, ["self"], ["self"], Pg.c98⟩
theorem o98 : t98.ok sta = true := by decide +kernel
abbrev s99 : Stmt := inClass (top 20) 0
def t99 : Txt := ⟨"__init__", "Join.__init__", defArgs s99, defBody s99, defScope s99, ["self", "parts"], ["self", "parts"], Pg.c99⟩
theorem o99 : t99.ok sta = true := by decide +kernel
abbrev s100 : Stmt := inClass (top 20) 1
def t100 : Txt := ⟨"asks", "Join.asks", defArgs s100, defBody s100, defScope s100, ["self", "found", "part"], ["self"], Pg.c100⟩
theorem o100 : t100.ok sta = true := by decide +kernel
abbrev s101 : Stmt := inClass (top 20) 2
def t101 : Txt := ⟨"begin", "Join.begin", defArgs s101, defBody s101, defScope s101, ["self"], ["self"], Pg.c101⟩
theorem o101 : t101.ok sta = true := by decide +kernel
abbrev s102 : Stmt := inClass (top 20) 3
def t102 : Txt := ⟨"call_off", "Join.call_off", defArgs s102, defBody s102, defScope s102, ["self"], ["self"], Pg.c102⟩
theorem o102 : t102.ok sta = true := by decide +kernel
abbrev s103 : Stmt := inClass (top 20) 4
def t103 : Txt := ⟨"settle", "Join.settle", defArgs s103, defBody s103, defScope s103, ["self", "part"], ["self"], Pg.c103⟩
theorem o103 : t103.ok sta = true := by decide +kernel
abbrev s104 : Stmt := inClass (top 20) 5
def t104 : Txt := ⟨"go_on", "Join.go_on", defArgs s104, defBody s104, defScope s104, ["self"], ["self"], Pg.c104⟩
theorem o104 : t104.ok sta = true := by decide +kernel
abbrev s105 : Stmt := inClass (top 20) 6
def t105 : Txt := ⟨"go_back", "Join.go_back", defArgs s105, defBody s105, defScope s105, ["self"], ["self"], Pg.c105⟩
theorem o105 : t105.ok sta = true := by decide +kernel
abbrev s106 : Stmt := inClass (top 21) 0
def t106 : Txt := ⟨"go_on", "Row.go_on", defArgs s106, defBody s106, defScope s106, ["self"], ["self"], Pg.c106⟩
theorem o106 : t106.ok sta = true := by decide +kernel
abbrev s107 : Stmt := inClass (top 21) 1
def t107 : Txt := ⟨"go_back", "Row.go_back", defArgs s107, defBody s107, defScope s107, ["self"], ["self"], Pg.c107⟩
theorem o107 : t107.ok sta = true := by decide +kernel
abbrev s108 : Stmt := inClass (top 22) 0
def t108 : Txt := ⟨"begin", "Side.begin", defArgs s108, defBody s108, defScope s108, ["self", "part"], ["self"], Pg.c108⟩
theorem o108 : t108.ok sta = true := by decide +kernel
abbrev s109 : Stmt := inClass (top 22) 1
def t109 : Txt := ⟨"go_on", "Side.go_on", defArgs s109, defBody s109, defScope s109, ["self", "part"], ["self"], Pg.c109⟩
theorem o109 : t109.ok sta = true := by decide +kernel
abbrev s110 : Stmt := inClass (top 22) 2
def t110 : Txt := ⟨"go_back", "Side.go_back", defArgs s110, defBody s110, defScope s110, ["self", "part"], ["self"], Pg.c110⟩
theorem o110 : t110.ok sta = true := by decide +kernel
abbrev s111 : Stmt := inClass (top 23) 0
def t111 : Txt := ⟨"go_on", "Else.go_on", defArgs s111, defBody s111, defScope s111, ["self"], ["self"], Pg.c111⟩
theorem o111 : t111.ok sta = true := by decide +kernel
abbrev s112 : Stmt := inClass (top 23) 1
def t112 : Txt := ⟨"go_back", "Else.go_back", defArgs s112, defBody s112, defScope s112, ["self"], ["self"], Pg.c112⟩
theorem o112 : t112.ok sta = true := by decide +kernel
abbrev s113 : Stmt := inClass (top 26) 0
def t113 : Txt := ⟨"__init__", "Errand.__init__", defArgs s113, defBody s113, defScope s113, ["self", "plan"], ["self", "plan"], Pg.c113⟩
theorem o113 : t113.ok sta = true := by decide +kernel
abbrev s114 : Stmt := inClass (top 26) 1
def t114 : Txt := ⟨"due", "Errand.due", defArgs s114, defBody s114, defScope s114, ["self"], ["self"], Pg.c114⟩
theorem o114 : t114.ok sta = true := by decide +kernel
abbrev s115 : Stmt := inClass (top 26) 2
def t115 : Txt := ⟨"told", "Errand.told", defArgs s115, defBody s115, defScope s115, ["self", "word", "name", "step"], ["self", "word", "name"], Pg.c115⟩
theorem o115 : t115.ok sta = true := by decide +kernel
abbrev s116 : Stmt := inClass (top 26) 3
def t116 : Txt := ⟨"fits", "Errand.fits", defArgs s116, defBody s116, defScope s116, ["self", "step", "word"], ["self", "step", "word"], Pg.c116⟩
theorem o116 : t116.ok sta = true := by decide +kernel
abbrev s117 : Stmt := inClass (top 26) 4
def t117 : Txt := ⟨"state", "Errand.state", defArgs s117, defBody s117, defScope s117, ["self"], ["self"], Pg.c117⟩
theorem o117 : t117.ok sta = true := by decide +kernel
abbrev s118 : Stmt := inClass (top 26) 5
def t118 : Txt := ⟨"kept", "Errand.kept", defArgs s118, defBody s118, defScope s118, ["self"], ["self"], Pg.c118⟩
theorem o118 : t118.ok sta = true := by decide +kernel
abbrev s119 : Stmt := inClass (top 26) 6
def t119 : Txt := ⟨"rests", "Errand.rests", defArgs s119, defBody s119, defScope s119, ["self"], ["self"], Pg.c119⟩
theorem o119 : t119.ok sta = true := by decide +kernel
abbrev s120 : Stmt := inClass (top 26) 7
def t120 : Txt := ⟨"stop", "Errand.stop", defArgs s120, defBody s120, defScope s120, ["self"], ["self"], Pg.c120b⟩
theorem o120 : t120.ok sta = true := by decide +kernel
abbrev s155 : Stmt := top 33
def t155 : Txt := ⟨"law", "law", defArgs s155, defBody s155, defScope s155, ["_law_script", "_law_box", "_law_names", "_law_plan", "_law_turn", "_law_errand", "_law_fails", "_law_k", "_law_due", "_law_name"], ["_law_script"], c155⟩
theorem o155 : t155.ok sta = true := by decide +kernel
end K02
end
set_option maxRecDepth 100000
set_option maxHeartbeats 4000000
namespace K02
open PySem L2 Sn
theorem head {K : PySem.W.Frag} {h : Heap} {mg : Str → Option Value} {fa : Addr} (X : K.In h) (G : h.Ns mainGlobals mg) (hfa : mg "law" = some (.ref fa)) {C0 : Addr} {C1 : Addr} {C2 : Addr} {C3 : Addr} {C4 : Addr} {C6 : Addr} {f0 : Addr} {oc0 kV0 dc0 pm0 cd0 ct0 : Value} {od0 an0 : Option Addr} {sl0 : Array (Option Value)} {f1 : Addr} {oc1 kV1 dc1 pm1 cd1 ct1 : Value} {od1 an1 : Option Addr} {sl1 : Array (Option Value)} {f2 : Addr} {oc2 kV2 dc2 pm2 cd2 ct2 : Value} {od2 an2 : Option Addr} {sl2 : Array (Option Value)} {f3 : Addr} {oc3 kV3 dc3 pm3 cd3 ct3 : Value} {od3 an3 : Option Addr} {sl3 : Array (Option Value)} {f4 : Addr} {oc4 kV4 dc4 pm4 cd4 ct4 : Value} {od4 an4 : Option Addr} {sl4 : Array (Option Value)} {f5 : Addr} {oc5 kV5 dc5 pm5 cd5 ct5 : Value} {od5 an5 : Option Addr} {sl5 : Array (Option Value)} {f6 : Addr} {oc6 kV6 dc6 pm6 cd6 ct6 : Value} {od6 an6 : Option Addr} {sl6 : Array (Option Value)} {f7 : Addr} {oc7 kV7 dc7 pm7 cd7 ct7 : Value} {od7 an7 : Option Addr} {sl7 : Array (Option Value)} {f18 : Addr} {oc18 kV18 dc18 pm18 cd18 ct18 : Value} {od18 an18 : Option Addr} {sl18 : Array (Option Value)} {f19 : Addr} {oc19 kV19 dc19 pm19 cd19 ct19 : Value} {od19 an19 : Option Addr} {sl19 : Array (Option Value)} {f25 : Addr} {oc25 kV25 dc25 pm25 cd25 ct25 : Value} {od25 an25 : Option Addr} {sl25 : Array (Option Value)} {f26 : Addr} {oc26 kV26 dc26 pm26 cd26 ct26 : Value} {od26 an26 : Option Addr} {sl26 : Array (Option Value)} {f30 : Addr} {oc30 kV30 dc30 pm30 cd30 ct30 : Value} {od30 an30 : Option Addr} {sl30 : Array (Option Value)} {f91 : Addr} {oc91 kV91 dc91 pm91 cd91 ct91 : Value} {od91 an91 : Option Addr} {sl91 : Array (Option Value)} {f92 : Addr} {oc92 kV92 dc92 pm92 cd92 ct92 : Value} {od92 an92 : Option Addr} {sl92 : Array (Option Value)} {f93 : Addr} {oc93 kV93 dc93 pm93 cd93 ct93 : Value} {od93 an93 : Option Addr} {sl93 : Array (Option Value)} {f94 : Addr} {oc94 kV94 dc94 pm94 cd94 ct94 : Value} {od94 an94 : Option Addr} {sl94 : Array (Option Value)} {f95 : Addr} {oc95 kV95 dc95 pm95 cd95 ct95 : Value} {od95 an95 : Option Addr} {sl95 : Array (Option Value)} {f96 : Addr} {oc96 kV96 dc96 pm96 cd96 ct96 : Value} {od96 an96 : Option Addr} {sl96 : Array (Option Value)} {f97 : Addr} {oc97 kV97 dc97 pm97 cd97 ct97 : Value} {od97 an97 : Option Addr} {sl97 : Array (Option Value)} {f98 : Addr} {oc98 kV98 dc98 pm98 cd98 ct98 : Value} {od98 an98 : Option Addr} {sl98 : Array (Option Value)} {f99 : Addr} {oc99 kV99 dc99 pm99 cd99 ct99 : Value} {od99 an99 : Option Addr} {sl99 : Array (Option Value)} {f100 : Addr} {oc100 kV100 dc100 pm100 cd100 ct100 : Value} {od100 an100 : Option Addr} {sl100 : Array (Option Value)} {f101 : Addr} {oc101 kV101 dc101 pm101 cd101 ct101 : Value} {od101 an101 : Option Addr} {sl101 : Array (Option Value)} {f102 : Addr} {oc102 kV102 dc102 pm102 cd102 ct102 : Value} {od102 an102 : Option Addr} {sl102 : Array (Option Value)} {f103 : Addr} {oc103 kV103 dc103 pm103 cd103 ct103 : Value} {od103 an103 : Option Addr} {sl103 : Array (Option Value)} {f106 : Addr} {oc106 kV106 dc106 pm106 cd106 ct106 : Value} {od106 an106 : Option Addr} {sl106 : Array (Option Value)} {f107 : Addr} {oc107 kV107 dc107 pm107 cd107 ct107 : Value} {od107 an107 : Option Addr} {sl107 : Array (Option Value)} {f108 : Addr} {oc108 kV108 dc108 pm108 cd108 ct108 : Value} {od108 an108 : Option Addr} {sl108 : Array (Option Value)} {f109 : Addr} {oc109 kV109 dc109 pm109 cd109 ct109 : Value} {od109 an109 : Option Addr} {sl109 : Array (Option Value)} {f110 : Addr} {oc110 kV110 dc110 pm110 cd110 ct110 : Value} {od110 an110 : Option Addr} {sl110 : Array (Option Value)} {f111 : Addr} {oc111 kV111 dc111 pm111 cd111 ct111 : Value} {od111 an111 : Option Addr} {sl111 : Array (Option Value)} {f112 : Addr} {oc112 kV112 dc112 pm112 cd112 ct112 : Value} {od112 an112 : Option Addr} {sl112 : Array (Option Value)} {f113 : Addr} {oc113 kV113 dc113 pm113 cd113 ct113 : Value} {od113 an113 : Option Addr} {sl113 : Array (Option Value)} {f114 : Addr} {oc114 kV114 dc114 pm114 cd114 ct114 : Value} {od114 an114 : Option Addr} {sl114 : Array (Option Value)} {f115 : Addr} {oc115 kV115 dc115 pm115 cd115 ct115 : Value} {od115 an115 : Option Addr} {sl115 : Array (Option Value)} {f116 : Addr} {oc116 kV116 dc116 pm116 cd116 ct116 : Value} {od116 an116 : Option Addr} {sl116 : Array (Option Value)} {f117 : Addr} {oc117 kV117 dc117 pm117 cd117 ct117 : Value} {od117 an117 : Option Addr} {sl117 : Array (Option Value)} {f118 : Addr} {oc118 kV118 dc118 pm118 cd118 ct118 : Value} {od118 an118 : Option Addr} {sl118 : Array (Option Value)} {f119 : Addr} {oc119 kV119 dc119 pm119 cd119 ct119 : Value} {od119 an119 : Option Addr} {sl119 : Array (Option Value)} {f120 : Addr} {oc120 kV120 dc120 pm120 cd120 ct120 : Value} {od120 an120 : Option Addr} {sl120 : Array (Option Value)} {f155 : Addr} {oc155 kV155 dc155 pm155 cd155 ct155 : Value} {od155 an155 : Option Addr} {sl155 : Array (Option Value)} {gt1 : Tok} {G0 : Addr} {gd0 : Option Addr} {gn0 : Nat} {gs0 : Array (Option Value)} {gt0_0 : Tok} {gt0_1 : Tok} {gt0_2 : Tok} {gt2 : Tok} {gt3 : Tok} {gt4 : Tok}
    (C0_a : PySem.W.nsIn K mainGlobals "Step" = some (some (.ref C0)))
    (C1_a : PySem.W.nsIn K mainGlobals "Row" = some (some (.ref C1)))
    (C2_a : PySem.W.nsIn K mainGlobals "Side" = some (some (.ref C2)))
    (C3_a : PySem.W.nsIn K mainGlobals "Else" = some (some (.ref C3)))
    (C4_a : PySem.W.nsIn K mainGlobals "Record" = some (some (.ref C4)))
    (C6_a : PySem.W.nsIn K mainGlobals "Errand" = some (some (.ref C6)))
    (f0_a : PySem.W.nsIn K mainGlobals "is_step" = some (some (.ref f0)))
    (f0_l : K.lookup f0 = some ⟨oc0, od0, .func (PySem.W.fnOf "is_step" "is_step" (defArgs s0) (defBody s0) (defScope s0) .none kV0 dc0 pm0 an0 cd0 ct0), sl0⟩)
    (f0_c : PySem.W.codeIn K cd0 "is_step" = true)
    (f0_k : PySem.W.keepIn K (.ref f0) = true)
    (f1_a : PySem.W.nsIn K mainGlobals "names_of" = some (some (.ref f1)))
    (f1_l : K.lookup f1 = some ⟨oc1, od1, .func (PySem.W.fnOf "names_of" "names_of" (defArgs s1) (defBody s1) (defScope s1) .none kV1 dc1 pm1 an1 cd1 ct1), sl1⟩)
    (f1_c : PySem.W.codeIn K cd1 "names_of" = true)
    (f1_k : PySem.W.keepIn K (.ref f1) = true)
    (f2_a : PySem.W.nsIn K mainGlobals "depth_of" = some (some (.ref f2)))
    (f2_l : K.lookup f2 = some ⟨oc2, od2, .func (PySem.W.fnOf "depth_of" "depth_of" (defArgs s2) (defBody s2) (defScope s2) .none kV2 dc2 pm2 an2 cd2 ct2), sl2⟩)
    (f2_c : PySem.W.codeIn K cd2 "depth_of" = true)
    (f2_k : PySem.W.keepIn K (.ref f2) = true)
    (f3_a : PySem.W.nsIn K mainGlobals "fits_many" = some (some (.ref f3)))
    (f3_l : K.lookup f3 = some ⟨oc3, od3, .func (PySem.W.fnOf "fits_many" "fits_many" (defArgs s3) (defBody s3) (defScope s3) .none kV3 dc3 pm3 an3 cd3 ct3), sl3⟩)
    (f3_c : PySem.W.codeIn K cd3 "fits_many" = true)
    (f3_k : PySem.W.keepIn K (.ref f3) = true)
    (f4_a : PySem.W.nsIn K mainGlobals "is_name" = some (some (.ref f4)))
    (f4_l : K.lookup f4 = some ⟨oc4, od4, .func (PySem.W.fnOf "is_name" "is_name" (defArgs s4) (defBody s4) (defScope s4) .none kV4 dc4 pm4 an4 cd4 ct4), sl4⟩)
    (f4_c : PySem.W.codeIn K cd4 "is_name" = true)
    (f4_k : PySem.W.keepIn K (.ref f4) = true)
    (f5_a : PySem.W.nsIn K mainGlobals "node_of" = some (some (.ref f5)))
    (f5_l : K.lookup f5 = some ⟨oc5, od5, .func (PySem.W.fnOf "node_of" "node_of" (defArgs s5) (defBody s5) (defScope s5) .none kV5 dc5 pm5 an5 cd5 ct5), sl5⟩)
    (f5_c : PySem.W.codeIn K cd5 "node_of" = true)
    (f5_k : PySem.W.keepIn K (.ref f5) = true)
    (f6_a : PySem.W.nsIn K mainGlobals "check_plan" = some (some (.ref f6)))
    (f6_l : K.lookup f6 = some ⟨oc6, od6, .func (PySem.W.fnOf "check_plan" "check_plan" (defArgs s6) (defBody s6) (defScope s6) .none kV6 dc6 pm6 an6 cd6 ct6), sl6⟩)
    (f6_c : PySem.W.codeIn K cd6 "check_plan" = true)
    (f6_k : PySem.W.keepIn K (.ref f6) = true)
    (f7_a : PySem.W.nsIn K mainGlobals "_wall" = some (some (.ref f7)))
    (f7_l : K.lookup f7 = some ⟨oc7, od7, .func (PySem.W.fnOf "_wall" "_wall" (defArgs s7) (defBody s7) (defScope s7) .none kV7 dc7 pm7 an7 cd7 ct7), sl7⟩)
    (f7_c : PySem.W.codeIn K cd7 "_wall" = true)
    (f7_k : PySem.W.keepIn K (.ref f7) = true)
    (f18_a : PySem.W.nsIn K mainGlobals "_law_alike" = some (some (.ref f18)))
    (f18_l : K.lookup f18 = some ⟨oc18, od18, .func (PySem.W.fnOf "_law_alike" "_law_alike" (defArgs s18) (defBody s18) (defScope s18) .none kV18 dc18 pm18 an18 cd18 ct18), sl18⟩)
    (f18_c : PySem.W.codeIn K cd18 "_law_alike" = true)
    (f18_k : PySem.W.keepIn K (.ref f18) = true)
    (f19_a : PySem.W.nsIn K mainGlobals "_law_take" = some (some (.ref f19)))
    (f19_l : K.lookup f19 = some ⟨oc19, od19, .func (PySem.W.fnOf "_law_take" "_law_take" (defArgs s19) (defBody s19) (defScope s19) .none kV19 dc19 pm19 an19 cd19 ct19), sl19⟩)
    (f19_c : PySem.W.codeIn K cd19 "_law_take" = true)
    (f19_k : PySem.W.keepIn K (.ref f19) = true)
    (f25_a : PySem.W.nsIn K mainGlobals "_law_begun" = some (some (.ref f25)))
    (f25_l : K.lookup f25 = some ⟨oc25, od25, .func (PySem.W.fnOf "_law_begun" "_law_begun" (defArgs s25) (defBody s25) (defScope s25) .none kV25 dc25 pm25 an25 cd25 ct25), sl25⟩)
    (f25_c : PySem.W.codeIn K cd25 "_law_begun" = true)
    (f25_k : PySem.W.keepIn K (.ref f25) = true)
    (f26_a : PySem.W.nsIn K mainGlobals "_law_words" = some (some (.ref f26)))
    (f26_l : K.lookup f26 = some ⟨oc26, od26, .func (PySem.W.fnOf "_law_words" "_law_words" (defArgs s26) (defBody s26) (defScope s26) .none kV26 dc26 pm26 an26 cd26 ct26), sl26⟩)
    (f26_c : PySem.W.codeIn K cd26 "_law_words" = true)
    (f26_k : PySem.W.keepIn K (.ref f26) = true)
    (f30_a : PySem.W.nsIn K mainGlobals "_law_tell" = some (some (.ref f30)))
    (f30_l : K.lookup f30 = some ⟨oc30, od30, .func (PySem.W.fnOf "_law_tell" "_law_tell" (defArgs s30) (defBody s30) (defScope s30) .none kV30 dc30 pm30 an30 cd30 ct30), sl30⟩)
    (f30_c : PySem.W.codeIn K cd30 "_law_tell" = true)
    (f30_k : PySem.W.keepIn K (.ref f30) = true)
    (f91_x4 : PySem.W.findIn K (.ref C4) "__init__" = some (some (.ref f91)))
    (f91_i : PySem.W.isFn K (.ref f91) = true)
    (f91_l : K.lookup f91 = some ⟨oc91, od91, .func (PySem.W.fnOf "__init__" "Record.__init__" (defArgs s91) (defBody s91) (defScope s91) .none kV91 dc91 pm91 an91 cd91 ct91), sl91⟩)
    (f91_c : PySem.W.codeIn K cd91 "Record.__init__" = true)
    (f91_k : PySem.W.keepIn K (.ref f91) = true)
    (f92_x0 : PySem.W.findIn K (.ref C0) "__init__" = some (some (.ref f92)))
    (f92_i : PySem.W.isFn K (.ref f92) = true)
    (f92_l : K.lookup f92 = some ⟨oc92, od92, .func (PySem.W.fnOf "__init__" "Step.__init__" (defArgs s92) (defBody s92) (defScope s92) .none kV92 dc92 pm92 an92 cd92 ct92), sl92⟩)
    (f92_c : PySem.W.codeIn K cd92 "Step.__init__" = true)
    (f92_k : PySem.W.keepIn K (.ref f92) = true)
    (f93_x0 : PySem.W.findIn K (.ref C0) "begin" = some (some (.ref f93)))
    (f93_i : PySem.W.isFn K (.ref f93) = true)
    (f93_l : K.lookup f93 = some ⟨oc93, od93, .func (PySem.W.fnOf "begin" "Step.begin" (defArgs s93) (defBody s93) (defScope s93) .none kV93 dc93 pm93 an93 cd93 ct93), sl93⟩)
    (f93_c : PySem.W.codeIn K cd93 "Step.begin" = true)
    (f93_k : PySem.W.keepIn K (.ref f93) = true)
    (f94_x0 : PySem.W.findIn K (.ref C0) "call_off" = some (some (.ref f94)))
    (f94_i : PySem.W.isFn K (.ref f94) = true)
    (f94_l : K.lookup f94 = some ⟨oc94, od94, .func (PySem.W.fnOf "call_off" "Step.call_off" (defArgs s94) (defBody s94) (defScope s94) .none kV94 dc94 pm94 an94 cd94 ct94), sl94⟩)
    (f94_c : PySem.W.codeIn K cd94 "Step.call_off" = true)
    (f94_k : PySem.W.keepIn K (.ref f94) = true)
    (f95_x0 : PySem.W.findIn K (.ref C0) "leave" = some (some (.ref f95)))
    (f95_i : PySem.W.isFn K (.ref f95) = true)
    (f95_l : K.lookup f95 = some ⟨oc95, od95, .func (PySem.W.fnOf "leave" "Step.leave" (defArgs s95) (defBody s95) (defScope s95) .none kV95 dc95 pm95 an95 cd95 ct95), sl95⟩)
    (f95_c : PySem.W.codeIn K cd95 "Step.leave" = true)
    (f95_k : PySem.W.keepIn K (.ref f95) = true)
    (f96_x0 : PySem.W.findIn K (.ref C0) "asks" = some (some (.ref f96)))
    (f96_i : PySem.W.isFn K (.ref f96) = true)
    (f96_l : K.lookup f96 = some ⟨oc96, od96, .func (PySem.W.fnOf "asks" "Step.asks" (defArgs s96) (defBody s96) (defScope s96) .none kV96 dc96 pm96 an96 cd96 ct96), sl96⟩)
    (f96_c : PySem.W.codeIn K cd96 "Step.asks" = true)
    (f96_k : PySem.W.keepIn K (.ref f96) = true)
    (f97_x0 : PySem.W.findIn K (.ref C0) "answer" = some (some (.ref f97)))
    (f97_i : PySem.W.isFn K (.ref f97) = true)
    (f97_l : K.lookup f97 = some ⟨oc97, od97, .func (PySem.W.fnOf "answer" "Step.answer" (defArgs s97) (defBody s97) (defScope s97) .none kV97 dc97 pm97 an97 cd97 ct97), sl97⟩)
    (f97_c : PySem.W.codeIn K cd97 "Step.answer" = true)
    (f97_k : PySem.W.keepIn K (.ref f97) = true)
    (f98_x0 : PySem.W.findIn K (.ref C0) "settle" = some (some (.ref f98)))
    (f98_i : PySem.W.isFn K (.ref f98) = true)
    (f98_l : K.lookup f98 = some ⟨oc98, od98, .func (PySem.W.fnOf "settle" "Step.settle" (defArgs s98) (defBody s98) (defScope s98) .none kV98 dc98 pm98 an98 cd98 ct98), sl98⟩)
    (f98_c : PySem.W.codeIn K cd98 "Step.settle" = true)
    (f98_k : PySem.W.keepIn K (.ref f98) = true)
    (f99_x1 : PySem.W.findIn K (.ref C1) "__init__" = some (some (.ref f99)))
    (f99_x2 : PySem.W.findIn K (.ref C2) "__init__" = some (some (.ref f99)))
    (f99_x3 : PySem.W.findIn K (.ref C3) "__init__" = some (some (.ref f99)))
    (f99_i : PySem.W.isFn K (.ref f99) = true)
    (f99_l : K.lookup f99 = some ⟨oc99, od99, .func (PySem.W.fnOf "__init__" "Join.__init__" (defArgs s99) (defBody s99) (defScope s99) .none kV99 dc99 pm99 an99 cd99 ct99), sl99⟩)
    (f99_c : PySem.W.codeIn K cd99 "Join.__init__" = true)
    (f99_k : PySem.W.keepIn K (.ref f99) = true)
    (f100_x1 : PySem.W.findIn K (.ref C1) "asks" = some (some (.ref f100)))
    (f100_x2 : PySem.W.findIn K (.ref C2) "asks" = some (some (.ref f100)))
    (f100_x3 : PySem.W.findIn K (.ref C3) "asks" = some (some (.ref f100)))
    (f100_i : PySem.W.isFn K (.ref f100) = true)
    (f100_l : K.lookup f100 = some ⟨oc100, od100, .func (PySem.W.fnOf "asks" "Join.asks" (defArgs s100) (defBody s100) (defScope s100) .none kV100 dc100 pm100 an100 cd100 ct100), sl100⟩)
    (f100_c : PySem.W.codeIn K cd100 "Join.asks" = true)
    (f100_k : PySem.W.keepIn K (.ref f100) = true)
    (f101_x1 : PySem.W.findIn K (.ref C1) "begin" = some (some (.ref f101)))
    (f101_x3 : PySem.W.findIn K (.ref C3) "begin" = some (some (.ref f101)))
    (f101_i : PySem.W.isFn K (.ref f101) = true)
    (f101_l : K.lookup f101 = some ⟨oc101, od101, .func (PySem.W.fnOf "begin" "Join.begin" (defArgs s101) (defBody s101) (defScope s101) .none kV101 dc101 pm101 an101 cd101 ct101), sl101⟩)
    (f101_c : PySem.W.codeIn K cd101 "Join.begin" = true)
    (f101_k : PySem.W.keepIn K (.ref f101) = true)
    (f102_x1 : PySem.W.findIn K (.ref C1) "call_off" = some (some (.ref f102)))
    (f102_x2 : PySem.W.findIn K (.ref C2) "call_off" = some (some (.ref f102)))
    (f102_x3 : PySem.W.findIn K (.ref C3) "call_off" = some (some (.ref f102)))
    (f102_i : PySem.W.isFn K (.ref f102) = true)
    (f102_l : K.lookup f102 = some ⟨oc102, od102, .func (PySem.W.fnOf "call_off" "Join.call_off" (defArgs s102) (defBody s102) (defScope s102) .none kV102 dc102 pm102 an102 cd102 ct102), sl102⟩)
    (f102_c : PySem.W.codeIn K cd102 "Join.call_off" = true)
    (f102_k : PySem.W.keepIn K (.ref f102) = true)
    (f103_x1 : PySem.W.findIn K (.ref C1) "settle" = some (some (.ref f103)))
    (f103_x2 : PySem.W.findIn K (.ref C2) "settle" = some (some (.ref f103)))
    (f103_x3 : PySem.W.findIn K (.ref C3) "settle" = some (some (.ref f103)))
    (f103_i : PySem.W.isFn K (.ref f103) = true)
    (f103_l : K.lookup f103 = some ⟨oc103, od103, .func (PySem.W.fnOf "settle" "Join.settle" (defArgs s103) (defBody s103) (defScope s103) .none kV103 dc103 pm103 an103 cd103 ct103), sl103⟩)
    (f103_c : PySem.W.codeIn K cd103 "Join.settle" = true)
    (f103_k : PySem.W.keepIn K (.ref f103) = true)
    (f106_x1 : PySem.W.findIn K (.ref C1) "go_on" = some (some (.ref f106)))
    (f106_i : PySem.W.isFn K (.ref f106) = true)
    (f106_l : K.lookup f106 = some ⟨oc106, od106, .func (PySem.W.fnOf "go_on" "Row.go_on" (defArgs s106) (defBody s106) (defScope s106) .none kV106 dc106 pm106 an106 cd106 ct106), sl106⟩)
    (f106_c : PySem.W.codeIn K cd106 "Row.go_on" = true)
    (f106_k : PySem.W.keepIn K (.ref f106) = true)
    (f107_x1 : PySem.W.findIn K (.ref C1) "go_back" = some (some (.ref f107)))
    (f107_i : PySem.W.isFn K (.ref f107) = true)
    (f107_l : K.lookup f107 = some ⟨oc107, od107, .func (PySem.W.fnOf "go_back" "Row.go_back" (defArgs s107) (defBody s107) (defScope s107) .none kV107 dc107 pm107 an107 cd107 ct107), sl107⟩)
    (f107_c : PySem.W.codeIn K cd107 "Row.go_back" = true)
    (f107_k : PySem.W.keepIn K (.ref f107) = true)
    (f108_x2 : PySem.W.findIn K (.ref C2) "begin" = some (some (.ref f108)))
    (f108_i : PySem.W.isFn K (.ref f108) = true)
    (f108_l : K.lookup f108 = some ⟨oc108, od108, .func (PySem.W.fnOf "begin" "Side.begin" (defArgs s108) (defBody s108) (defScope s108) .none kV108 dc108 pm108 an108 cd108 ct108), sl108⟩)
    (f108_c : PySem.W.codeIn K cd108 "Side.begin" = true)
    (f108_k : PySem.W.keepIn K (.ref f108) = true)
    (f109_x2 : PySem.W.findIn K (.ref C2) "go_on" = some (some (.ref f109)))
    (f109_i : PySem.W.isFn K (.ref f109) = true)
    (f109_l : K.lookup f109 = some ⟨oc109, od109, .func (PySem.W.fnOf "go_on" "Side.go_on" (defArgs s109) (defBody s109) (defScope s109) .none kV109 dc109 pm109 an109 cd109 ct109), sl109⟩)
    (f109_c : PySem.W.codeIn K cd109 "Side.go_on" = true)
    (f109_k : PySem.W.keepIn K (.ref f109) = true)
    (f110_x2 : PySem.W.findIn K (.ref C2) "go_back" = some (some (.ref f110)))
    (f110_i : PySem.W.isFn K (.ref f110) = true)
    (f110_l : K.lookup f110 = some ⟨oc110, od110, .func (PySem.W.fnOf "go_back" "Side.go_back" (defArgs s110) (defBody s110) (defScope s110) .none kV110 dc110 pm110 an110 cd110 ct110), sl110⟩)
    (f110_c : PySem.W.codeIn K cd110 "Side.go_back" = true)
    (f110_k : PySem.W.keepIn K (.ref f110) = true)
    (f111_x3 : PySem.W.findIn K (.ref C3) "go_on" = some (some (.ref f111)))
    (f111_i : PySem.W.isFn K (.ref f111) = true)
    (f111_l : K.lookup f111 = some ⟨oc111, od111, .func (PySem.W.fnOf "go_on" "Else.go_on" (defArgs s111) (defBody s111) (defScope s111) .none kV111 dc111 pm111 an111 cd111 ct111), sl111⟩)
    (f111_c : PySem.W.codeIn K cd111 "Else.go_on" = true)
    (f111_k : PySem.W.keepIn K (.ref f111) = true)
    (f112_x3 : PySem.W.findIn K (.ref C3) "go_back" = some (some (.ref f112)))
    (f112_i : PySem.W.isFn K (.ref f112) = true)
    (f112_l : K.lookup f112 = some ⟨oc112, od112, .func (PySem.W.fnOf "go_back" "Else.go_back" (defArgs s112) (defBody s112) (defScope s112) .none kV112 dc112 pm112 an112 cd112 ct112), sl112⟩)
    (f112_c : PySem.W.codeIn K cd112 "Else.go_back" = true)
    (f112_k : PySem.W.keepIn K (.ref f112) = true)
    (f113_x6 : PySem.W.findIn K (.ref C6) "__init__" = some (some (.ref f113)))
    (f113_i : PySem.W.isFn K (.ref f113) = true)
    (f113_l : K.lookup f113 = some ⟨oc113, od113, .func (PySem.W.fnOf "__init__" "Errand.__init__" (defArgs s113) (defBody s113) (defScope s113) .none kV113 dc113 pm113 an113 cd113 ct113), sl113⟩)
    (f113_c : PySem.W.codeIn K cd113 "Errand.__init__" = true)
    (f113_k : PySem.W.keepIn K (.ref f113) = true)
    (f114_x6 : PySem.W.findIn K (.ref C6) "due" = some (some (.ref f114)))
    (f114_i : PySem.W.isFn K (.ref f114) = true)
    (f114_l : K.lookup f114 = some ⟨oc114, od114, .func (PySem.W.fnOf "due" "Errand.due" (defArgs s114) (defBody s114) (defScope s114) .none kV114 dc114 pm114 an114 cd114 ct114), sl114⟩)
    (f114_c : PySem.W.codeIn K cd114 "Errand.due" = true)
    (f114_k : PySem.W.keepIn K (.ref f114) = true)
    (f115_x6 : PySem.W.findIn K (.ref C6) "told" = some (some (.ref f115)))
    (f115_i : PySem.W.isFn K (.ref f115) = true)
    (f115_l : K.lookup f115 = some ⟨oc115, od115, .func (PySem.W.fnOf "told" "Errand.told" (defArgs s115) (defBody s115) (defScope s115) .none kV115 dc115 pm115 an115 cd115 ct115), sl115⟩)
    (f115_c : PySem.W.codeIn K cd115 "Errand.told" = true)
    (f115_k : PySem.W.keepIn K (.ref f115) = true)
    (f116_x6 : PySem.W.findIn K (.ref C6) "fits" = some (some (.ref f116)))
    (f116_i : PySem.W.isFn K (.ref f116) = true)
    (f116_l : K.lookup f116 = some ⟨oc116, od116, .func (PySem.W.fnOf "fits" "Errand.fits" (defArgs s116) (defBody s116) (defScope s116) .none kV116 dc116 pm116 an116 cd116 ct116), sl116⟩)
    (f116_c : PySem.W.codeIn K cd116 "Errand.fits" = true)
    (f116_k : PySem.W.keepIn K (.ref f116) = true)
    (f117_x6 : PySem.W.findIn K (.ref C6) "state" = some (some (.ref f117)))
    (f117_i : PySem.W.isFn K (.ref f117) = true)
    (f117_l : K.lookup f117 = some ⟨oc117, od117, .func (PySem.W.fnOf "state" "Errand.state" (defArgs s117) (defBody s117) (defScope s117) .none kV117 dc117 pm117 an117 cd117 ct117), sl117⟩)
    (f117_c : PySem.W.codeIn K cd117 "Errand.state" = true)
    (f117_k : PySem.W.keepIn K (.ref f117) = true)
    (f118_x6 : PySem.W.findIn K (.ref C6) "kept" = some (some (.ref f118)))
    (f118_i : PySem.W.isFn K (.ref f118) = true)
    (f118_l : K.lookup f118 = some ⟨oc118, od118, .func (PySem.W.fnOf "kept" "Errand.kept" (defArgs s118) (defBody s118) (defScope s118) .none kV118 dc118 pm118 an118 cd118 ct118), sl118⟩)
    (f118_c : PySem.W.codeIn K cd118 "Errand.kept" = true)
    (f118_k : PySem.W.keepIn K (.ref f118) = true)
    (f119_x6 : PySem.W.findIn K (.ref C6) "rests" = some (some (.ref f119)))
    (f119_i : PySem.W.isFn K (.ref f119) = true)
    (f119_l : K.lookup f119 = some ⟨oc119, od119, .func (PySem.W.fnOf "rests" "Errand.rests" (defArgs s119) (defBody s119) (defScope s119) .none kV119 dc119 pm119 an119 cd119 ct119), sl119⟩)
    (f119_c : PySem.W.codeIn K cd119 "Errand.rests" = true)
    (f119_k : PySem.W.keepIn K (.ref f119) = true)
    (f120_x6 : PySem.W.findIn K (.ref C6) "stop" = some (some (.ref f120)))
    (f120_i : PySem.W.isFn K (.ref f120) = true)
    (f120_l : K.lookup f120 = some ⟨oc120, od120, .func (PySem.W.fnOf "stop" "Errand.stop" (defArgs s120) (defBody s120) (defScope s120) .none kV120 dc120 pm120 an120 cd120 ct120), sl120⟩)
    (f120_c : PySem.W.codeIn K cd120 "Errand.stop" = true)
    (f120_k : PySem.W.keepIn K (.ref f120) = true)
    (f155_a : PySem.W.nsIn K mainGlobals "law" = some (some (.ref f155)))
    (f155_l : K.lookup f155 = some ⟨oc155, od155, .func (PySem.W.fnOf "law" "law" (defArgs s155) (defBody s155) (defScope s155) .none kV155 dc155 pm155 an155 cd155 ct155), sl155⟩)
    (f155_c : PySem.W.codeIn K cd155 "law" = true)
    (f155_k : PySem.W.keepIn K (.ref f155) = true)
    (C0_pg : PySem.W.plainGet K C0 Str.empty = true)
    (C0_hd : PySem.W.hasDictIn K C0 = true)
    (C0_po : PySem.W.plainOver K C0 = true)
    (C0_sa : PySem.W.findIn K (.ref C0) "__setattr__" = some (some (.builtin "object.__setattr__")))
    (C0_mk : PySem.W.makesIn K C0 = true)
    (C0_kc : PySem.W.keepIn K (.ref C0) = true)
    (C0_n0 : PySem.W.findIn K (.ref C0) "kept_names" = some none)
    (C0_n1 : PySem.W.findIn K (.ref C0) "rest_names" = some none)
    (C0_n2 : PySem.W.findIn K (.ref C0) "by_name" = some none)
    (C0_n3 : PySem.W.findIn K (.ref C0) "make" = some none)
    (C0_n4 : PySem.W.findIn K (.ref C0) "name" = some none)
    (C0_n5 : PySem.W.findIn K (.ref C0) "record" = some none)
    (C0_n6 : PySem.W.findIn K (.ref C0) "now" = some none)
    (C0_n7 : PySem.W.findIn K (.ref C0) "off" = some none)
    (C0_n8 : PySem.W.findIn K (.ref C0) "parts" = some none)
    (C0_n9 : PySem.W.findIn K (.ref C0) "at" = some none)
    (C0_n10 : PySem.W.findIn K (.ref C0) "root" = some none)
    (C1_pg : PySem.W.plainGet K C1 Str.empty = true)
    (C1_hd : PySem.W.hasDictIn K C1 = true)
    (C1_po : PySem.W.plainOver K C1 = true)
    (C1_sa : PySem.W.findIn K (.ref C1) "__setattr__" = some (some (.builtin "object.__setattr__")))
    (C1_mk : PySem.W.makesIn K C1 = true)
    (C1_kc : PySem.W.keepIn K (.ref C1) = true)
    (C1_n0 : PySem.W.findIn K (.ref C1) "kept_names" = some none)
    (C1_n1 : PySem.W.findIn K (.ref C1) "rest_names" = some none)
    (C1_n2 : PySem.W.findIn K (.ref C1) "by_name" = some none)
    (C1_n3 : PySem.W.findIn K (.ref C1) "make" = some none)
    (C1_n4 : PySem.W.findIn K (.ref C1) "name" = some none)
    (C1_n5 : PySem.W.findIn K (.ref C1) "record" = some none)
    (C1_n6 : PySem.W.findIn K (.ref C1) "now" = some none)
    (C1_n7 : PySem.W.findIn K (.ref C1) "off" = some none)
    (C1_n8 : PySem.W.findIn K (.ref C1) "parts" = some none)
    (C1_n9 : PySem.W.findIn K (.ref C1) "at" = some none)
    (C1_n10 : PySem.W.findIn K (.ref C1) "root" = some none)
    (C2_pg : PySem.W.plainGet K C2 Str.empty = true)
    (C2_hd : PySem.W.hasDictIn K C2 = true)
    (C2_po : PySem.W.plainOver K C2 = true)
    (C2_sa : PySem.W.findIn K (.ref C2) "__setattr__" = some (some (.builtin "object.__setattr__")))
    (C2_mk : PySem.W.makesIn K C2 = true)
    (C2_kc : PySem.W.keepIn K (.ref C2) = true)
    (C2_n0 : PySem.W.findIn K (.ref C2) "kept_names" = some none)
    (C2_n1 : PySem.W.findIn K (.ref C2) "rest_names" = some none)
    (C2_n2 : PySem.W.findIn K (.ref C2) "by_name" = some none)
    (C2_n3 : PySem.W.findIn K (.ref C2) "make" = some none)
    (C2_n4 : PySem.W.findIn K (.ref C2) "name" = some none)
    (C2_n5 : PySem.W.findIn K (.ref C2) "record" = some none)
    (C2_n6 : PySem.W.findIn K (.ref C2) "now" = some none)
    (C2_n7 : PySem.W.findIn K (.ref C2) "off" = some none)
    (C2_n8 : PySem.W.findIn K (.ref C2) "parts" = some none)
    (C2_n9 : PySem.W.findIn K (.ref C2) "at" = some none)
    (C2_n10 : PySem.W.findIn K (.ref C2) "root" = some none)
    (C3_pg : PySem.W.plainGet K C3 Str.empty = true)
    (C3_hd : PySem.W.hasDictIn K C3 = true)
    (C3_po : PySem.W.plainOver K C3 = true)
    (C3_sa : PySem.W.findIn K (.ref C3) "__setattr__" = some (some (.builtin "object.__setattr__")))
    (C3_mk : PySem.W.makesIn K C3 = true)
    (C3_kc : PySem.W.keepIn K (.ref C3) = true)
    (C3_n0 : PySem.W.findIn K (.ref C3) "kept_names" = some none)
    (C3_n1 : PySem.W.findIn K (.ref C3) "rest_names" = some none)
    (C3_n2 : PySem.W.findIn K (.ref C3) "by_name" = some none)
    (C3_n3 : PySem.W.findIn K (.ref C3) "make" = some none)
    (C3_n4 : PySem.W.findIn K (.ref C3) "name" = some none)
    (C3_n5 : PySem.W.findIn K (.ref C3) "record" = some none)
    (C3_n6 : PySem.W.findIn K (.ref C3) "now" = some none)
    (C3_n7 : PySem.W.findIn K (.ref C3) "off" = some none)
    (C3_n8 : PySem.W.findIn K (.ref C3) "parts" = some none)
    (C3_n9 : PySem.W.findIn K (.ref C3) "at" = some none)
    (C3_n10 : PySem.W.findIn K (.ref C3) "root" = some none)
    (C4_pg : PySem.W.plainGet K C4 Str.empty = true)
    (C4_hd : PySem.W.hasDictIn K C4 = true)
    (C4_po : PySem.W.plainOver K C4 = true)
    (C4_sa : PySem.W.findIn K (.ref C4) "__setattr__" = some (some (.builtin "object.__setattr__")))
    (C4_mk : PySem.W.makesIn K C4 = true)
    (C4_kc : PySem.W.keepIn K (.ref C4) = true)
    (C4_n0 : PySem.W.findIn K (.ref C4) "kept_names" = some none)
    (C4_n1 : PySem.W.findIn K (.ref C4) "rest_names" = some none)
    (C4_n2 : PySem.W.findIn K (.ref C4) "by_name" = some none)
    (C4_n3 : PySem.W.findIn K (.ref C4) "make" = some none)
    (C4_n4 : PySem.W.findIn K (.ref C4) "name" = some none)
    (C4_n5 : PySem.W.findIn K (.ref C4) "record" = some none)
    (C4_n6 : PySem.W.findIn K (.ref C4) "now" = some none)
    (C4_n7 : PySem.W.findIn K (.ref C4) "off" = some none)
    (C4_n8 : PySem.W.findIn K (.ref C4) "parts" = some none)
    (C4_n9 : PySem.W.findIn K (.ref C4) "at" = some none)
    (C4_n10 : PySem.W.findIn K (.ref C4) "root" = some none)
    (C6_pg : PySem.W.plainGet K C6 Str.empty = true)
    (C6_hd : PySem.W.hasDictIn K C6 = true)
    (C6_po : PySem.W.plainOver K C6 = true)
    (C6_sa : PySem.W.findIn K (.ref C6) "__setattr__" = some (some (.builtin "object.__setattr__")))
    (C6_mk : PySem.W.makesIn K C6 = true)
    (C6_kc : PySem.W.keepIn K (.ref C6) = true)
    (C6_n0 : PySem.W.findIn K (.ref C6) "kept_names" = some none)
    (C6_n1 : PySem.W.findIn K (.ref C6) "rest_names" = some none)
    (C6_n2 : PySem.W.findIn K (.ref C6) "by_name" = some none)
    (C6_n3 : PySem.W.findIn K (.ref C6) "make" = some none)
    (C6_n4 : PySem.W.findIn K (.ref C6) "name" = some none)
    (C6_n5 : PySem.W.findIn K (.ref C6) "record" = some none)
    (C6_n6 : PySem.W.findIn K (.ref C6) "now" = some none)
    (C6_n7 : PySem.W.findIn K (.ref C6) "off" = some none)
    (C6_n8 : PySem.W.findIn K (.ref C6) "parts" = some none)
    (C6_n9 : PySem.W.findIn K (.ref C6) "at" = some none)
    (C6_n10 : PySem.W.findIn K (.ref C6) "root" = some none)
    (z0 : PySem.W.nsIn K mainGlobals "len" = some none)
    (z1 : PySem.W.nsIn K mainGlobals "list" = some none)
    (z2 : PySem.W.nsIn K mainGlobals "tuple" = some none)
    (z3 : PySem.W.nsIn K mainGlobals "sorted" = some none)
    (z4 : PySem.W.nsIn K mainGlobals "all" = some none)
    (z5 : PySem.W.nsIn K mainGlobals "any" = some none)
    (z6 : PySem.W.nsIn K mainGlobals "int" = some none)
    (z7 : PySem.W.nsIn K mainGlobals "max" = some none)
    (z8 : PySem.W.nsIn K mainGlobals "min" = some none)
    (z9 : PySem.W.nsIn K mainGlobals "isinstance" = some none)
    (z10 : PySem.W.nsIn K mainGlobals "bool" = some none)
    (z11 : PySem.W.nsIn K mainGlobals "str" = some none)
    (z12 : PySem.W.nsIn K mainGlobals "range" = some none)
    (z13 : PySem.W.nsIn K mainGlobals "set" = some none)
    (z14 : PySem.W.nsIn K mainGlobals "zip" = some none)
    (z15 : PySem.W.nsIn K mainGlobals "enumerate" = some none)
    (z16 : PySem.W.nsIn K mainGlobals "reversed" = some none)
    (g1_a : PySem.W.nsIn K mainGlobals "LETTERS" = some (some (.str "abcdefghijklmnopqrstuvwxyz" gt1)))
    (g0_a : PySem.W.nsIn K mainGlobals "STEPS" = some (some (.ref G0)))
    (g0_l : K.lookup G0 = some ⟨.type "tuple", gd0, .seq #[.str "back" gt0_0, .str "firm" gt0_1, .str "sure" gt0_2] gn0, gs0⟩)
    (g2_a : PySem.W.nsIn K mainGlobals "MOST_PARTS" = some (some (.int 5 gt2)))
    (g3_a : PySem.W.nsIn K mainGlobals "MOST_DEEP" = some (some (.int 5 gt3)))
    (g4_a : PySem.W.nsIn K mainGlobals "MOST_STEPS" = some (some (.int 12 gt4)))
    (math : ∀ ns : List Int, ns.length ≤ 63 → ∃ s, Ab.callN tab (18 + 1) 155 [.scr ns] [] = some (.ok (.bl true), s)) :
    ∃ (S : Sta) (B : Bs) (T : Ab.Tab) (f : Nat) (D : Txt) (fd : FuncData), Wd S B T K mg ∧ FunD K D.x D.qual D.params D.body D.sc [] [] fa fd ∧ D.ok S = true ∧ T.code f = some ⟨D.ps.length, D.N.length, D.code⟩ ∧ D.ps = [("_law_script" : Str)] ∧ (∀ (s : Shared) (u : Value), BindsTo s fd ⟨[u], []⟩ [(("_law_script" : Str), u)]) ∧
      ∀ ns : List Int, ns.length ≤ 63 → ∃ s, Ab.callN T (18 + 1) f [.scr ns] [] = some (.ok (.bl true), s) := by
  have e := hfa.symm.trans (PySem.W.mg_of X G f155_a)
  have e2 : f155 = fa := by
    injection e with e
    injection e with e
    exact e.symm
  subst e2
  have F0 := at_mk (S := sta) (T := tab) (f := 0) t0 f0_l f0_c f0_k
  have b0 : Binds K _ t0.ps [] := F0.bindsN fun _ _ _ _ _ _ us hl => match us, hl with | [_], _ => rfl
  have a0 : At sta K tab 0 f0 := ⟨t0, _, _, F0, b0, o0, rfl⟩
  have F1 := at_mk (S := sta) (T := tab) (f := 1) t1 f1_l f1_c f1_k
  have b1 : Binds K _ t1.ps [] := F1.bindsN fun _ _ _ _ _ _ us hl => match us, hl with | [_], _ => rfl
  have a1 : At sta K tab 1 f1 := ⟨t1, _, _, F1, b1, o1, rfl⟩
  have F2 := at_mk (S := sta) (T := tab) (f := 2) t2 f2_l f2_c f2_k
  have b2 : Binds K _ t2.ps [] := F2.bindsN fun _ _ _ _ _ _ us hl => match us, hl with | [_], _ => rfl
  have a2 : At sta K tab 2 f2 := ⟨t2, _, _, F2, b2, o2, rfl⟩
  have F3 := at_mk (S := sta) (T := tab) (f := 3) t3 f3_l f3_c f3_k
  have b3 : Binds K _ t3.ps [] := F3.bindsN fun _ _ _ _ _ _ us hl => match us, hl with | [_], _ => rfl
  have a3 : At sta K tab 3 f3 := ⟨t3, _, _, F3, b3, o3, rfl⟩
  have F4 := at_mk (S := sta) (T := tab) (f := 4) t4 f4_l f4_c f4_k
  have b4 : Binds K _ t4.ps [] := F4.bindsN fun _ _ _ _ _ _ us hl => match us, hl with | [_], _ => rfl
  have a4 : At sta K tab 4 f4 := ⟨t4, _, _, F4, b4, o4, rfl⟩
  have F5 := at_mk (S := sta) (T := tab) (f := 5) t5 f5_l f5_c f5_k
  have b5 : Binds K _ t5.ps [] := F5.bindsN fun _ _ _ _ _ _ us hl => match us, hl with | [_, _], _ => rfl
  have a5 : At sta K tab 5 f5 := ⟨t5, _, _, F5, b5, o5, rfl⟩
  have F6 := at_mk (S := sta) (T := tab) (f := 6) t6 f6_l f6_c f6_k
  have b6 : Binds K _ t6.ps [] := F6.bindsN fun _ _ _ _ _ _ us hl => match us, hl with | [_], _ => rfl
  have a6 : At sta K tab 6 f6 := ⟨t6, _, _, F6, b6, o6, rfl⟩
  have F7 := at_mk (S := sta) (T := tab) (f := 7) t7 f7_l f7_c f7_k
  have b7 : Binds K _ t7.ps [] := F7.bindsN fun _ _ _ _ _ _ us hl => match us, hl with | [_], _ => rfl
  have a7 : At sta K tab 7 f7 := ⟨t7, _, _, F7, b7, o7, rfl⟩
  have F18 := at_mk (S := sta) (T := tab) (f := 18) t18 f18_l f18_c f18_k
  have b18 : Binds K _ t18.ps [] := F18.bindsN fun _ _ _ _ _ _ us hl => match us, hl with | [_, _], _ => rfl
  have a18 : At sta K tab 18 f18 := ⟨t18, _, _, F18, b18, o18, rfl⟩
  have F19 := at_mk (S := sta) (T := tab) (f := 19) t19 f19_l f19_c f19_k
  have b19 : Binds K _ t19.ps [] := F19.bindsN fun _ _ _ _ _ _ us hl => match us, hl with | [_, _], _ => rfl
  have a19 : At sta K tab 19 f19 := ⟨t19, _, _, F19, b19, o19, rfl⟩
  have F25 := at_mk (S := sta) (T := tab) (f := 25) t25 f25_l f25_c f25_k
  have b25 : Binds K _ t25.ps [] := F25.bindsN fun _ _ _ _ _ _ us hl => match us, hl with | [_], _ => rfl
  have a25 : At sta K tab 25 f25 := ⟨t25, _, _, F25, b25, o25, rfl⟩
  have F26 := at_mk (S := sta) (T := tab) (f := 26) t26 f26_l f26_c f26_k
  have b26 : Binds K _ t26.ps [] := F26.bindsN fun _ _ _ _ _ _ us hl => match us, hl with | [_], _ => rfl
  have a26 : At sta K tab 26 f26 := ⟨t26, _, _, F26, b26, o26, rfl⟩
  have F30 := at_mk (S := sta) (T := tab) (f := 30) t30 f30_l f30_c f30_k
  have b30 : Binds K _ t30.ps [] := F30.bindsN fun _ _ _ _ _ _ us hl => match us, hl with | [_, _, _, _], _ => rfl
  have a30 : At sta K tab 30 f30 := ⟨t30, _, _, F30, b30, o30, rfl⟩
  have F91 := at_mk (S := sta) (T := tab) (f := 91) t91 f91_l f91_c f91_k
  have b91 : Binds K _ t91.ps [] := F91.bindsN fun _ _ _ _ _ _ us hl => match us, hl with | [_], _ => rfl
  have a91 : At sta K tab 91 f91 := ⟨t91, _, _, F91, b91, o91, rfl⟩
  have F92 := at_mk (S := sta) (T := tab) (f := 92) t92 f92_l f92_c f92_k
  have b92 : Binds K _ t92.ps [] := F92.bindsN fun _ _ _ _ _ _ us hl => match us, hl with | [_, _, _, _], _ => rfl
  have a92 : At sta K tab 92 f92 := ⟨t92, _, _, F92, b92, o92, rfl⟩
  have F93 := at_mk (S := sta) (T := tab) (f := 93) t93 f93_l f93_c f93_k
  have b93 : Binds K _ t93.ps [] := F93.bindsN fun _ _ _ _ _ _ us hl => match us, hl with | [_], _ => rfl
  have a93 : At sta K tab 93 f93 := ⟨t93, _, _, F93, b93, o93, rfl⟩
  have F94 := at_mk (S := sta) (T := tab) (f := 94) t94 f94_l f94_c f94_k
  have b94 : Binds K _ t94.ps [] := F94.bindsN fun _ _ _ _ _ _ us hl => match us, hl with | [_], _ => rfl
  have a94 : At sta K tab 94 f94 := ⟨t94, _, _, F94, b94, o94, rfl⟩
  have F95 := at_mk (S := sta) (T := tab) (f := 95) t95 f95_l f95_c f95_k
  have b95 : Binds K _ t95.ps [] := F95.bindsN fun _ _ _ _ _ _ us hl => match us, hl with | [_], _ => rfl
  have a95 : At sta K tab 95 f95 := ⟨t95, _, _, F95, b95, o95, rfl⟩
  have F96 := at_mk (S := sta) (T := tab) (f := 96) t96 f96_l f96_c f96_k
  have b96 : Binds K _ t96.ps [] := F96.bindsN fun _ _ _ _ _ _ us hl => match us, hl with | [_], _ => rfl
  have a96 : At sta K tab 96 f96 := ⟨t96, _, _, F96, b96, o96, rfl⟩
  have F97 := at_mk (S := sta) (T := tab) (f := 97) t97 f97_l f97_c f97_k
  have b97 : Binds K _ t97.ps [] := F97.bindsN fun _ _ _ _ _ _ us hl => match us, hl with | [_, _], _ => rfl
  have a97 : At sta K tab 97 f97 := ⟨t97, _, _, F97, b97, o97, rfl⟩
  have F98 := at_mk (S := sta) (T := tab) (f := 98) t98 f98_l f98_c f98_k
  have b98 : Binds K _ t98.ps [] := F98.bindsN fun _ _ _ _ _ _ us hl => match us, hl with | [_], _ => rfl
  have a98 : At sta K tab 98 f98 := ⟨t98, _, _, F98, b98, o98, rfl⟩
  have F99 := at_mk (S := sta) (T := tab) (f := 99) t99 f99_l f99_c f99_k
  have b99 : Binds K _ t99.ps [] := F99.bindsN fun _ _ _ _ _ _ us hl => match us, hl with | [_, _], _ => rfl
  have a99 : At sta K tab 99 f99 := ⟨t99, _, _, F99, b99, o99, rfl⟩
  have F100 := at_mk (S := sta) (T := tab) (f := 100) t100 f100_l f100_c f100_k
  have b100 : Binds K _ t100.ps [] := F100.bindsN fun _ _ _ _ _ _ us hl => match us, hl with | [_], _ => rfl
  have a100 : At sta K tab 100 f100 := ⟨t100, _, _, F100, b100, o100, rfl⟩
  have F101 := at_mk (S := sta) (T := tab) (f := 101) t101 f101_l f101_c f101_k
  have b101 : Binds K _ t101.ps [] := F101.bindsN fun _ _ _ _ _ _ us hl => match us, hl with | [_], _ => rfl
  have a101 : At sta K tab 101 f101 := ⟨t101, _, _, F101, b101, o101, rfl⟩
  have F102 := at_mk (S := sta) (T := tab) (f := 102) t102 f102_l f102_c f102_k
  have b102 : Binds K _ t102.ps [] := F102.bindsN fun _ _ _ _ _ _ us hl => match us, hl with | [_], _ => rfl
  have a102 : At sta K tab 102 f102 := ⟨t102, _, _, F102, b102, o102, rfl⟩
  have F103 := at_mk (S := sta) (T := tab) (f := 103) t103 f103_l f103_c f103_k
  have b103 : Binds K _ t103.ps [] := F103.bindsN fun _ _ _ _ _ _ us hl => match us, hl with | [_], _ => rfl
  have a103 : At sta K tab 103 f103 := ⟨t103, _, _, F103, b103, o103, rfl⟩
  have F106 := at_mk (S := sta) (T := tab) (f := 106) t106 f106_l f106_c f106_k
  have b106 : Binds K _ t106.ps [] := F106.bindsN fun _ _ _ _ _ _ us hl => match us, hl with | [_], _ => rfl
  have a106 : At sta K tab 106 f106 := ⟨t106, _, _, F106, b106, o106, rfl⟩
  have F107 := at_mk (S := sta) (T := tab) (f := 107) t107 f107_l f107_c f107_k
  have b107 : Binds K _ t107.ps [] := F107.bindsN fun _ _ _ _ _ _ us hl => match us, hl with | [_], _ => rfl
  have a107 : At sta K tab 107 f107 := ⟨t107, _, _, F107, b107, o107, rfl⟩
  have F108 := at_mk (S := sta) (T := tab) (f := 108) t108 f108_l f108_c f108_k
  have b108 : Binds K _ t108.ps [] := F108.bindsN fun _ _ _ _ _ _ us hl => match us, hl with | [_], _ => rfl
  have a108 : At sta K tab 108 f108 := ⟨t108, _, _, F108, b108, o108, rfl⟩
  have F109 := at_mk (S := sta) (T := tab) (f := 109) t109 f109_l f109_c f109_k
  have b109 : Binds K _ t109.ps [] := F109.bindsN fun _ _ _ _ _ _ us hl => match us, hl with | [_], _ => rfl
  have a109 : At sta K tab 109 f109 := ⟨t109, _, _, F109, b109, o109, rfl⟩
  have F110 := at_mk (S := sta) (T := tab) (f := 110) t110 f110_l f110_c f110_k
  have b110 : Binds K _ t110.ps [] := F110.bindsN fun _ _ _ _ _ _ us hl => match us, hl with | [_], _ => rfl
  have a110 : At sta K tab 110 f110 := ⟨t110, _, _, F110, b110, o110, rfl⟩
  have F111 := at_mk (S := sta) (T := tab) (f := 111) t111 f111_l f111_c f111_k
  have b111 : Binds K _ t111.ps [] := F111.bindsN fun _ _ _ _ _ _ us hl => match us, hl with | [_], _ => rfl
  have a111 : At sta K tab 111 f111 := ⟨t111, _, _, F111, b111, o111, rfl⟩
  have F112 := at_mk (S := sta) (T := tab) (f := 112) t112 f112_l f112_c f112_k
  have b112 : Binds K _ t112.ps [] := F112.bindsN fun _ _ _ _ _ _ us hl => match us, hl with | [_], _ => rfl
  have a112 : At sta K tab 112 f112 := ⟨t112, _, _, F112, b112, o112, rfl⟩
  have F113 := at_mk (S := sta) (T := tab) (f := 113) t113 f113_l f113_c f113_k
  have b113 : Binds K _ t113.ps [] := F113.bindsN fun _ _ _ _ _ _ us hl => match us, hl with | [_, _], _ => rfl
  have a113 : At sta K tab 113 f113 := ⟨t113, _, _, F113, b113, o113, rfl⟩
  have F114 := at_mk (S := sta) (T := tab) (f := 114) t114 f114_l f114_c f114_k
  have b114 : Binds K _ t114.ps [] := F114.bindsN fun _ _ _ _ _ _ us hl => match us, hl with | [_], _ => rfl
  have a114 : At sta K tab 114 f114 := ⟨t114, _, _, F114, b114, o114, rfl⟩
  have F115 := at_mk (S := sta) (T := tab) (f := 115) t115 f115_l f115_c f115_k
  have b115 : Binds K _ t115.ps [] := F115.bindsN fun _ _ _ _ _ _ us hl => match us, hl with | [_, _, _], _ => rfl
  have a115 : At sta K tab 115 f115 := ⟨t115, _, _, F115, b115, o115, rfl⟩
  have F116 := at_mk (S := sta) (T := tab) (f := 116) t116 f116_l f116_c f116_k
  have b116 : Binds K _ t116.ps [] := F116.bindsN fun _ _ _ _ _ _ us hl => match us, hl with | [_, _, _], _ => rfl
  have a116 : At sta K tab 116 f116 := ⟨t116, _, _, F116, b116, o116, rfl⟩
  have F117 := at_mk (S := sta) (T := tab) (f := 117) t117 f117_l f117_c f117_k
  have b117 : Binds K _ t117.ps [] := F117.bindsN fun _ _ _ _ _ _ us hl => match us, hl with | [_], _ => rfl
  have a117 : At sta K tab 117 f117 := ⟨t117, _, _, F117, b117, o117, rfl⟩
  have F118 := at_mk (S := sta) (T := tab) (f := 118) t118 f118_l f118_c f118_k
  have b118 : Binds K _ t118.ps [] := F118.bindsN fun _ _ _ _ _ _ us hl => match us, hl with | [_], _ => rfl
  have a118 : At sta K tab 118 f118 := ⟨t118, _, _, F118, b118, o118, rfl⟩
  have F119 := at_mk (S := sta) (T := tab) (f := 119) t119 f119_l f119_c f119_k
  have b119 : Binds K _ t119.ps [] := F119.bindsN fun _ _ _ _ _ _ us hl => match us, hl with | [_], _ => rfl
  have a119 : At sta K tab 119 f119 := ⟨t119, _, _, F119, b119, o119, rfl⟩
  have F120 := at_mk (S := sta) (T := tab) (f := 120) t120 f120_l f120_c f120_k
  have b120 : Binds K _ t120.ps [] := F120.bindsN fun _ _ _ _ _ _ us hl => match us, hl with | [_], _ => rfl
  have a120 : At sta K tab 120 f120 := ⟨t120, _, _, F120, b120, o120, rfl⟩
  have F155 := at_mk (S := sta) (T := tab) (f := 155) t155 f155_l f155_c f155_k
  have b155 : Binds K _ t155.ps [] := F155.bindsN fun _ _ _ _ _ _ us hl => match us, hl with | [_], _ => rfl
  have a155 : At sta K tab 155 f155 := ⟨t155, _, _, F155, b155, o155, rfl⟩
  have hf : fldsB sta.flds = true := by decide +kernel
  refine ⟨sta, mkB K [some C0, some C1, some C2, some C3, some C4, none, some C6] sta.flds hf, tab, 155, t155, _, ?_, F155, o155, rfl, rfl, fun s v => F155.bindsA (ps := t155.ps) (fun _ _ _ _ _ _ us hl => match us, hl with | [_], _ => rfl) s [v] rfl, math⟩
  refine { eqK := rfl, cl := mkB_cls (fun C hC => ?_) (fun C hC x hx => ?_), fld := fun i x e => mkB_fld i x e, bi := fun b hb => ?_, fn := fun f x hx => ?_, cs := fun c x hx => ?_, mt := fun m x hx => ?_, md := fun m x y h0 hx => ?_, glo := fun g x hx => ?_, gtu := fun g x hx => ?_ }
  · simp only [List.mem_cons, List.not_mem_nil, or_false, false_or, Option.some.injEq, reduceCtorEq] at hC
    rcases hC with rfl | rfl | rfl | rfl | rfl | rfl
    · exact ⟨C0_pg, C0_hd, C0_po, C0_sa⟩
    · exact ⟨C1_pg, C1_hd, C1_po, C1_sa⟩
    · exact ⟨C2_pg, C2_hd, C2_po, C2_sa⟩
    · exact ⟨C3_pg, C3_hd, C3_po, C3_sa⟩
    · exact ⟨C4_pg, C4_hd, C4_po, C4_sa⟩
    · exact ⟨C6_pg, C6_hd, C6_po, C6_sa⟩
  · simp only [List.mem_cons, List.not_mem_nil, or_false, false_or, Option.some.injEq, reduceCtorEq, sta] at hC hx
    rcases hC with rfl | rfl | rfl | rfl | rfl | rfl
    · rcases hx with rfl | rfl | rfl | rfl | rfl | rfl | rfl | rfl | rfl | rfl | rfl
      · exact C0_n0
      · exact C0_n1
      · exact C0_n2
      · exact C0_n3
      · exact C0_n4
      · exact C0_n5
      · exact C0_n6
      · exact C0_n7
      · exact C0_n8
      · exact C0_n9
      · exact C0_n10
    · rcases hx with rfl | rfl | rfl | rfl | rfl | rfl | rfl | rfl | rfl | rfl | rfl
      · exact C1_n0
      · exact C1_n1
      · exact C1_n2
      · exact C1_n3
      · exact C1_n4
      · exact C1_n5
      · exact C1_n6
      · exact C1_n7
      · exact C1_n8
      · exact C1_n9
      · exact C1_n10
    · rcases hx with rfl | rfl | rfl | rfl | rfl | rfl | rfl | rfl | rfl | rfl | rfl
      · exact C2_n0
      · exact C2_n1
      · exact C2_n2
      · exact C2_n3
      · exact C2_n4
      · exact C2_n5
      · exact C2_n6
      · exact C2_n7
      · exact C2_n8
      · exact C2_n9
      · exact C2_n10
    · rcases hx with rfl | rfl | rfl | rfl | rfl | rfl | rfl | rfl | rfl | rfl | rfl
      · exact C3_n0
      · exact C3_n1
      · exact C3_n2
      · exact C3_n3
      · exact C3_n4
      · exact C3_n5
      · exact C3_n6
      · exact C3_n7
      · exact C3_n8
      · exact C3_n9
      · exact C3_n10
    · rcases hx with rfl | rfl | rfl | rfl | rfl | rfl | rfl | rfl | rfl | rfl | rfl
      · exact C4_n0
      · exact C4_n1
      · exact C4_n2
      · exact C4_n3
      · exact C4_n4
      · exact C4_n5
      · exact C4_n6
      · exact C4_n7
      · exact C4_n8
      · exact C4_n9
      · exact C4_n10
    · rcases hx with rfl | rfl | rfl | rfl | rfl | rfl | rfl | rfl | rfl | rfl | rfl
      · exact C6_n0
      · exact C6_n1
      · exact C6_n2
      · exact C6_n3
      · exact C6_n4
      · exact C6_n5
      · exact C6_n6
      · exact C6_n7
      · exact C6_n8
      · exact C6_n9
      · exact C6_n10
  · simp only [Sn.builtins, List.mem_cons, List.not_mem_nil, or_false] at hb
    rcases hb with rfl | rfl | rfl | rfl | rfl | rfl | rfl | rfl | rfl | rfl | rfl | rfl | rfl | rfl | rfl | rfl | rfl
    · exact PySem.W.mg_none_of X G z0
    · exact PySem.W.mg_none_of X G z1
    · exact PySem.W.mg_none_of X G z2
    · exact PySem.W.mg_none_of X G z3
    · exact PySem.W.mg_none_of X G z4
    · exact PySem.W.mg_none_of X G z5
    · exact PySem.W.mg_none_of X G z6
    · exact PySem.W.mg_none_of X G z7
    · exact PySem.W.mg_none_of X G z8
    · exact PySem.W.mg_none_of X G z9
    · exact PySem.W.mg_none_of X G z10
    · exact PySem.W.mg_none_of X G z11
    · exact PySem.W.mg_none_of X G z12
    · exact PySem.W.mg_none_of X G z13
    · exact PySem.W.mg_none_of X G z14
    · exact PySem.W.mg_none_of X G z15
    · exact PySem.W.mg_none_of X G z16
  · match f, hx with
    | 0, hx =>
      have e : ("is_step" : Str) = x := Option.some.inj (Option.some.inj hx)
      subst e
      exact ⟨f0, PySem.W.mg_of X G f0_a, f0_k, a0⟩
    | 1, hx =>
      have e : ("names_of" : Str) = x := Option.some.inj (Option.some.inj hx)
      subst e
      exact ⟨f1, PySem.W.mg_of X G f1_a, f1_k, a1⟩
    | 2, hx =>
      have e : ("depth_of" : Str) = x := Option.some.inj (Option.some.inj hx)
      subst e
      exact ⟨f2, PySem.W.mg_of X G f2_a, f2_k, a2⟩
    | 3, hx =>
      have e : ("fits_many" : Str) = x := Option.some.inj (Option.some.inj hx)
      subst e
      exact ⟨f3, PySem.W.mg_of X G f3_a, f3_k, a3⟩
    | 4, hx =>
      have e : ("is_name" : Str) = x := Option.some.inj (Option.some.inj hx)
      subst e
      exact ⟨f4, PySem.W.mg_of X G f4_a, f4_k, a4⟩
    | 5, hx =>
      have e : ("node_of" : Str) = x := Option.some.inj (Option.some.inj hx)
      subst e
      exact ⟨f5, PySem.W.mg_of X G f5_a, f5_k, a5⟩
    | 6, hx =>
      have e : ("check_plan" : Str) = x := Option.some.inj (Option.some.inj hx)
      subst e
      exact ⟨f6, PySem.W.mg_of X G f6_a, f6_k, a6⟩
    | 7, hx =>
      have e : ("_wall" : Str) = x := Option.some.inj (Option.some.inj hx)
      subst e
      exact ⟨f7, PySem.W.mg_of X G f7_a, f7_k, a7⟩
    | 8, hx => exact absurd (Option.some.inj hx) (by intro z; cases z)
    | 9, hx => exact absurd (Option.some.inj hx) (by intro z; cases z)
    | 10, hx => exact absurd (Option.some.inj hx) (by intro z; cases z)
    | 11, hx => exact absurd (Option.some.inj hx) (by intro z; cases z)
    | 12, hx => exact absurd (Option.some.inj hx) (by intro z; cases z)
    | 13, hx => exact absurd (Option.some.inj hx) (by intro z; cases z)
    | 14, hx => exact absurd (Option.some.inj hx) (by intro z; cases z)
    | 15, hx => exact absurd (Option.some.inj hx) (by intro z; cases z)
    | 16, hx => exact absurd (Option.some.inj hx) (by intro z; cases z)
    | 17, hx => exact absurd (Option.some.inj hx) (by intro z; cases z)
    | 18, hx =>
      have e : ("_law_alike" : Str) = x := Option.some.inj (Option.some.inj hx)
      subst e
      exact ⟨f18, PySem.W.mg_of X G f18_a, f18_k, a18⟩
    | 19, hx =>
      have e : ("_law_take" : Str) = x := Option.some.inj (Option.some.inj hx)
      subst e
      exact ⟨f19, PySem.W.mg_of X G f19_a, f19_k, a19⟩
    | 20, hx => exact absurd (Option.some.inj hx) (by intro z; cases z)
    | 21, hx => exact absurd (Option.some.inj hx) (by intro z; cases z)
    | 22, hx => exact absurd (Option.some.inj hx) (by intro z; cases z)
    | 23, hx => exact absurd (Option.some.inj hx) (by intro z; cases z)
    | 24, hx => exact absurd (Option.some.inj hx) (by intro z; cases z)
    | 25, hx =>
      have e : ("_law_begun" : Str) = x := Option.some.inj (Option.some.inj hx)
      subst e
      exact ⟨f25, PySem.W.mg_of X G f25_a, f25_k, a25⟩
    | 26, hx =>
      have e : ("_law_words" : Str) = x := Option.some.inj (Option.some.inj hx)
      subst e
      exact ⟨f26, PySem.W.mg_of X G f26_a, f26_k, a26⟩
    | 27, hx => exact absurd (Option.some.inj hx) (by intro z; cases z)
    | 28, hx => exact absurd (Option.some.inj hx) (by intro z; cases z)
    | 29, hx => exact absurd (Option.some.inj hx) (by intro z; cases z)
    | 30, hx =>
      have e : ("_law_tell" : Str) = x := Option.some.inj (Option.some.inj hx)
      subst e
      exact ⟨f30, PySem.W.mg_of X G f30_a, f30_k, a30⟩
    | 31, hx => exact absurd (Option.some.inj hx) (by intro z; cases z)
    | 32, hx => exact absurd (Option.some.inj hx) (by intro z; cases z)
    | 33, hx => exact absurd (Option.some.inj hx) (by intro z; cases z)
    | 34, hx => exact absurd (Option.some.inj hx) (by intro z; cases z)
    | 35, hx => exact absurd (Option.some.inj hx) (by intro z; cases z)
    | 36, hx => exact absurd (Option.some.inj hx) (by intro z; cases z)
    | 37, hx => exact absurd (Option.some.inj hx) (by intro z; cases z)
    | 38, hx => exact absurd (Option.some.inj hx) (by intro z; cases z)
    | 39, hx => exact absurd (Option.some.inj hx) (by intro z; cases z)
    | 40, hx => exact absurd (Option.some.inj hx) (by intro z; cases z)
    | 41, hx => exact absurd (Option.some.inj hx) (by intro z; cases z)
    | 42, hx => exact absurd (Option.some.inj hx) (by intro z; cases z)
    | 43, hx => exact absurd (Option.some.inj hx) (by intro z; cases z)
    | 44, hx => exact absurd (Option.some.inj hx) (by intro z; cases z)
    | 45, hx => exact absurd (Option.some.inj hx) (by intro z; cases z)
    | 46, hx => exact absurd (Option.some.inj hx) (by intro z; cases z)
    | 47, hx => exact absurd (Option.some.inj hx) (by intro z; cases z)
    | 48, hx => exact absurd (Option.some.inj hx) (by intro z; cases z)
    | 49, hx => exact absurd (Option.some.inj hx) (by intro z; cases z)
    | 50, hx => exact absurd (Option.some.inj hx) (by intro z; cases z)
    | 51, hx => exact absurd (Option.some.inj hx) (by intro z; cases z)
    | 52, hx => exact absurd (Option.some.inj hx) (by intro z; cases z)
    | 53, hx => exact absurd (Option.some.inj hx) (by intro z; cases z)
    | 54, hx => exact absurd (Option.some.inj hx) (by intro z; cases z)
    | 55, hx => exact absurd (Option.some.inj hx) (by intro z; cases z)
    | 56, hx => exact absurd (Option.some.inj hx) (by intro z; cases z)
    | 57, hx => exact absurd (Option.some.inj hx) (by intro z; cases z)
    | 58, hx => exact absurd (Option.some.inj hx) (by intro z; cases z)
    | 59, hx => exact absurd (Option.some.inj hx) (by intro z; cases z)
    | 60, hx => exact absurd (Option.some.inj hx) (by intro z; cases z)
    | 61, hx => exact absurd (Option.some.inj hx) (by intro z; cases z)
    | 62, hx => exact absurd (Option.some.inj hx) (by intro z; cases z)
    | 63, hx => exact absurd (Option.some.inj hx) (by intro z; cases z)
    | 64, hx => exact absurd (Option.some.inj hx) (by intro z; cases z)
    | 65, hx => exact absurd (Option.some.inj hx) (by intro z; cases z)
    | 66, hx => exact absurd (Option.some.inj hx) (by intro z; cases z)
    | 67, hx => exact absurd (Option.some.inj hx) (by intro z; cases z)
    | 68, hx => exact absurd (Option.some.inj hx) (by intro z; cases z)
    | 69, hx => exact absurd (Option.some.inj hx) (by intro z; cases z)
    | 70, hx => exact absurd (Option.some.inj hx) (by intro z; cases z)
    | 71, hx => exact absurd (Option.some.inj hx) (by intro z; cases z)
    | 72, hx => exact absurd (Option.some.inj hx) (by intro z; cases z)
    | 73, hx => exact absurd (Option.some.inj hx) (by intro z; cases z)
    | 74, hx => exact absurd (Option.some.inj hx) (by intro z; cases z)
    | 75, hx => exact absurd (Option.some.inj hx) (by intro z; cases z)
    | 76, hx => exact absurd (Option.some.inj hx) (by intro z; cases z)
    | 77, hx => exact absurd (Option.some.inj hx) (by intro z; cases z)
    | 78, hx => exact absurd (Option.some.inj hx) (by intro z; cases z)
    | 79, hx => exact absurd (Option.some.inj hx) (by intro z; cases z)
    | 80, hx => exact absurd (Option.some.inj hx) (by intro z; cases z)
    | 81, hx => exact absurd (Option.some.inj hx) (by intro z; cases z)
    | 82, hx => exact absurd (Option.some.inj hx) (by intro z; cases z)
    | 83, hx => exact absurd (Option.some.inj hx) (by intro z; cases z)
    | 84, hx => exact absurd (Option.some.inj hx) (by intro z; cases z)
    | 85, hx => exact absurd (Option.some.inj hx) (by intro z; cases z)
    | 86, hx => exact absurd (Option.some.inj hx) (by intro z; cases z)
    | 87, hx => exact absurd (Option.some.inj hx) (by intro z; cases z)
    | 88, hx => exact absurd (Option.some.inj hx) (by intro z; cases z)
    | 89, hx => exact absurd (Option.some.inj hx) (by intro z; cases z)
    | 90, hx => exact absurd (Option.some.inj hx) (by intro z; cases z)
    | 91, hx => exact absurd (Option.some.inj hx) (by intro z; cases z)
    | 92, hx => exact absurd (Option.some.inj hx) (by intro z; cases z)
    | 93, hx => exact absurd (Option.some.inj hx) (by intro z; cases z)
    | 94, hx => exact absurd (Option.some.inj hx) (by intro z; cases z)
    | 95, hx => exact absurd (Option.some.inj hx) (by intro z; cases z)
    | 96, hx => exact absurd (Option.some.inj hx) (by intro z; cases z)
    | 97, hx => exact absurd (Option.some.inj hx) (by intro z; cases z)
    | 98, hx => exact absurd (Option.some.inj hx) (by intro z; cases z)
    | 99, hx => exact absurd (Option.some.inj hx) (by intro z; cases z)
    | 100, hx => exact absurd (Option.some.inj hx) (by intro z; cases z)
    | 101, hx => exact absurd (Option.some.inj hx) (by intro z; cases z)
    | 102, hx => exact absurd (Option.some.inj hx) (by intro z; cases z)
    | 103, hx => exact absurd (Option.some.inj hx) (by intro z; cases z)
    | 104, hx => exact absurd (Option.some.inj hx) (by intro z; cases z)
    | 105, hx => exact absurd (Option.some.inj hx) (by intro z; cases z)
    | 106, hx => exact absurd (Option.some.inj hx) (by intro z; cases z)
    | 107, hx => exact absurd (Option.some.inj hx) (by intro z; cases z)
    | 108, hx => exact absurd (Option.some.inj hx) (by intro z; cases z)
    | 109, hx => exact absurd (Option.some.inj hx) (by intro z; cases z)
    | 110, hx => exact absurd (Option.some.inj hx) (by intro z; cases z)
    | 111, hx => exact absurd (Option.some.inj hx) (by intro z; cases z)
    | 112, hx => exact absurd (Option.some.inj hx) (by intro z; cases z)
    | 113, hx => exact absurd (Option.some.inj hx) (by intro z; cases z)
    | 114, hx => exact absurd (Option.some.inj hx) (by intro z; cases z)
    | 115, hx => exact absurd (Option.some.inj hx) (by intro z; cases z)
    | 116, hx => exact absurd (Option.some.inj hx) (by intro z; cases z)
    | 117, hx => exact absurd (Option.some.inj hx) (by intro z; cases z)
    | 118, hx => exact absurd (Option.some.inj hx) (by intro z; cases z)
    | 119, hx => exact absurd (Option.some.inj hx) (by intro z; cases z)
    | 120, hx => exact absurd (Option.some.inj hx) (by intro z; cases z)
    | 121, hx => exact absurd (Option.some.inj hx) (by intro z; cases z)
    | 122, hx => exact absurd (Option.some.inj hx) (by intro z; cases z)
    | 123, hx => exact absurd (Option.some.inj hx) (by intro z; cases z)
    | 124, hx => exact absurd (Option.some.inj hx) (by intro z; cases z)
    | 125, hx => exact absurd (Option.some.inj hx) (by intro z; cases z)
    | 126, hx => exact absurd (Option.some.inj hx) (by intro z; cases z)
    | 127, hx => exact absurd (Option.some.inj hx) (by intro z; cases z)
    | 128, hx => exact absurd (Option.some.inj hx) (by intro z; cases z)
    | 129, hx => exact absurd (Option.some.inj hx) (by intro z; cases z)
    | 130, hx => exact absurd (Option.some.inj hx) (by intro z; cases z)
    | 131, hx => exact absurd (Option.some.inj hx) (by intro z; cases z)
    | 132, hx => exact absurd (Option.some.inj hx) (by intro z; cases z)
    | 133, hx => exact absurd (Option.some.inj hx) (by intro z; cases z)
    | 134, hx => exact absurd (Option.some.inj hx) (by intro z; cases z)
    | 135, hx => exact absurd (Option.some.inj hx) (by intro z; cases z)
    | 136, hx => exact absurd (Option.some.inj hx) (by intro z; cases z)
    | 137, hx => exact absurd (Option.some.inj hx) (by intro z; cases z)
    | 138, hx => exact absurd (Option.some.inj hx) (by intro z; cases z)
    | 139, hx => exact absurd (Option.some.inj hx) (by intro z; cases z)
    | 140, hx => exact absurd (Option.some.inj hx) (by intro z; cases z)
    | 141, hx => exact absurd (Option.some.inj hx) (by intro z; cases z)
    | 142, hx => exact absurd (Option.some.inj hx) (by intro z; cases z)
    | 143, hx => exact absurd (Option.some.inj hx) (by intro z; cases z)
    | 144, hx => exact absurd (Option.some.inj hx) (by intro z; cases z)
    | 145, hx => exact absurd (Option.some.inj hx) (by intro z; cases z)
    | 146, hx => exact absurd (Option.some.inj hx) (by intro z; cases z)
    | 147, hx => exact absurd (Option.some.inj hx) (by intro z; cases z)
    | 148, hx => exact absurd (Option.some.inj hx) (by intro z; cases z)
    | 149, hx => exact absurd (Option.some.inj hx) (by intro z; cases z)
    | 150, hx => exact absurd (Option.some.inj hx) (by intro z; cases z)
    | 151, hx => exact absurd (Option.some.inj hx) (by intro z; cases z)
    | 152, hx => exact absurd (Option.some.inj hx) (by intro z; cases z)
    | 153, hx => exact absurd (Option.some.inj hx) (by intro z; cases z)
    | 154, hx => exact absurd (Option.some.inj hx) (by intro z; cases z)
    | 155, hx =>
      have e : ("law" : Str) = x := Option.some.inj (Option.some.inj hx)
      subst e
      exact ⟨f155, PySem.W.mg_of X G f155_a, f155_k, a155⟩
    | _ + 156, hx => exact absurd hx (by intro z; cases z)
  · match c, hx with
    | 0, hx =>
      have e : ("Step" : Str) = x := Option.some.inj (Option.some.inj hx)
      subst e
      exact ⟨rfl, PySem.W.mg_of X G C0_a, f92, ⟨C0_mk, f92_x0, f92_i, C0_kc⟩, a92⟩
    | 1, hx =>
      have e : ("Row" : Str) = x := Option.some.inj (Option.some.inj hx)
      subst e
      exact ⟨rfl, PySem.W.mg_of X G C1_a, f99, ⟨C1_mk, f99_x1, f99_i, C1_kc⟩, a99⟩
    | 2, hx =>
      have e : ("Side" : Str) = x := Option.some.inj (Option.some.inj hx)
      subst e
      exact ⟨rfl, PySem.W.mg_of X G C2_a, f99, ⟨C2_mk, f99_x2, f99_i, C2_kc⟩, a99⟩
    | 3, hx =>
      have e : ("Else" : Str) = x := Option.some.inj (Option.some.inj hx)
      subst e
      exact ⟨rfl, PySem.W.mg_of X G C3_a, f99, ⟨C3_mk, f99_x3, f99_i, C3_kc⟩, a99⟩
    | 4, hx =>
      have e : ("Record" : Str) = x := Option.some.inj (Option.some.inj hx)
      subst e
      exact ⟨rfl, PySem.W.mg_of X G C4_a, f91, ⟨C4_mk, f91_x4, f91_i, C4_kc⟩, a91⟩
    | 5, hx => exact absurd (Option.some.inj hx) (by intro z; cases z)
    | 6, hx =>
      have e : ("Errand" : Str) = x := Option.some.inj (Option.some.inj hx)
      subst e
      exact ⟨rfl, PySem.W.mg_of X G C6_a, f113, ⟨C6_mk, f113_x6, f113_i, C6_kc⟩, a113⟩
    | _ + 7, hx => exact absurd hx (by intro z; cases z)
  · match g, hx with
    | 0, hx => exact absurd (Option.some.inj hx) (by intro z; cases z)
    | 1, hx =>
      have e : ("LETTERS" : Str) = x := Option.some.inj (Option.some.inj hx)
      subst e
      exact ⟨_, V.str "abcdefghijklmnopqrstuvwxyz", PySem.W.mg_of X G g1_a, ⟨_, rfl⟩, fun φ F => ⟨rfl, by unfold Sn.good; decide⟩⟩
    | 2, hx =>
      have e : ("MOST_PARTS" : Str) = x := Option.some.inj (Option.some.inj hx)
      subst e
      exact ⟨_, V.int 5, PySem.W.mg_of X G g2_a, ⟨_, rfl⟩, fun φ F => rfl⟩
    | 3, hx =>
      have e : ("MOST_DEEP" : Str) = x := Option.some.inj (Option.some.inj hx)
      subst e
      exact ⟨_, V.int 5, PySem.W.mg_of X G g3_a, ⟨_, rfl⟩, fun φ F => rfl⟩
    | 4, hx =>
      have e : ("MOST_STEPS" : Str) = x := Option.some.inj (Option.some.inj hx)
      subst e
      exact ⟨_, V.int 12, PySem.W.mg_of X G g4_a, ⟨_, rfl⟩, fun φ F => rfl⟩
    | _ + 5, hx => exact absurd hx (by intro z; cases z)
  · match g, hx with
    | 0, hx =>
      have e : ("STEPS" : Str) = x := Option.some.inj (Option.some.inj hx)
      subst e
      exact ⟨G0, [V.str "back", V.str "firm", V.str "sure"], PySem.W.mg_of X G g0_a, fun H => .inr ⟨_, _, _, g0_l, rfl, rfl, (show 3 ≤ sizeLine from by decide), (.cons ⟨_, rfl⟩ (.cons ⟨_, rfl⟩ (.cons ⟨_, rfl⟩ .nil)))⟩, fun φ F => ⟨_, _, rfl, ⟨rfl, by unfold Sn.good; decide⟩, ⟨_, _, rfl, ⟨rfl, by unfold Sn.good; decide⟩, ⟨_, _, rfl, ⟨rfl, by unfold Sn.good; decide⟩, rfl⟩⟩⟩⟩
    | _ + 1, hx => exact absurd hx (by intro z; cases z)
  · match m, hx with
    | 0, hx =>
      have e : ("leave" : Str) = x := Option.some.inj (Option.some.inj hx)
      subst e
      refine ⟨mkB_nf (by decide +kernel), fun c f hc hf => ?_⟩
      match c, hc, hf with
      | 0, _, hf =>
        have e : 95 = f := Option.some.inj hf
        subst e
        exact ⟨f95, ⟨f95_x0, f95_i, f95_k⟩, a95⟩
      | 1, _, hf => exact absurd hf (by intro z; cases z)
      | 2, _, hf => exact absurd hf (by intro z; cases z)
      | 3, _, hf => exact absurd hf (by intro z; cases z)
      | 4, _, hf => exact absurd hf (by intro z; cases z)
      | 5, hc, _ => exact absurd hc (by intro z; cases z)
      | 6, _, hf => exact absurd hf (by intro z; cases z)
      | _ + 7, hc, _ => exact absurd hc (by intro z; cases z)
    | 1, hx =>
      have e : ("asks" : Str) = x := Option.some.inj (Option.some.inj hx)
      subst e
      refine ⟨mkB_nf (by decide +kernel), fun c f hc hf => ?_⟩
      match c, hc, hf with
      | 0, _, hf =>
        have e : 96 = f := Option.some.inj hf
        subst e
        exact ⟨f96, ⟨f96_x0, f96_i, f96_k⟩, a96⟩
      | 1, _, hf =>
        have e : 100 = f := Option.some.inj hf
        subst e
        exact ⟨f100, ⟨f100_x1, f100_i, f100_k⟩, a100⟩
      | 2, _, hf =>
        have e : 100 = f := Option.some.inj hf
        subst e
        exact ⟨f100, ⟨f100_x2, f100_i, f100_k⟩, a100⟩
      | 3, _, hf =>
        have e : 100 = f := Option.some.inj hf
        subst e
        exact ⟨f100, ⟨f100_x3, f100_i, f100_k⟩, a100⟩
      | 4, _, hf => exact absurd hf (by intro z; cases z)
      | 5, hc, _ => exact absurd hc (by intro z; cases z)
      | 6, _, hf => exact absurd hf (by intro z; cases z)
      | _ + 7, hc, _ => exact absurd hc (by intro z; cases z)
    | 2, hx =>
      have e : ("begin" : Str) = x := Option.some.inj (Option.some.inj hx)
      subst e
      refine ⟨mkB_nf (by decide +kernel), fun c f hc hf => ?_⟩
      match c, hc, hf with
      | 0, _, hf =>
        have e : 93 = f := Option.some.inj hf
        subst e
        exact ⟨f93, ⟨f93_x0, f93_i, f93_k⟩, a93⟩
      | 1, _, hf =>
        have e : 101 = f := Option.some.inj hf
        subst e
        exact ⟨f101, ⟨f101_x1, f101_i, f101_k⟩, a101⟩
      | 2, _, hf =>
        have e : 108 = f := Option.some.inj hf
        subst e
        exact ⟨f108, ⟨f108_x2, f108_i, f108_k⟩, a108⟩
      | 3, _, hf =>
        have e : 101 = f := Option.some.inj hf
        subst e
        exact ⟨f101, ⟨f101_x3, f101_i, f101_k⟩, a101⟩
      | 4, _, hf => exact absurd hf (by intro z; cases z)
      | 5, hc, _ => exact absurd hc (by intro z; cases z)
      | 6, _, hf => exact absurd hf (by intro z; cases z)
      | _ + 7, hc, _ => exact absurd hc (by intro z; cases z)
    | 3, hx =>
      have e : ("settle" : Str) = x := Option.some.inj (Option.some.inj hx)
      subst e
      refine ⟨mkB_nf (by decide +kernel), fun c f hc hf => ?_⟩
      match c, hc, hf with
      | 0, _, hf =>
        have e : 98 = f := Option.some.inj hf
        subst e
        exact ⟨f98, ⟨f98_x0, f98_i, f98_k⟩, a98⟩
      | 1, _, hf =>
        have e : 103 = f := Option.some.inj hf
        subst e
        exact ⟨f103, ⟨f103_x1, f103_i, f103_k⟩, a103⟩
      | 2, _, hf =>
        have e : 103 = f := Option.some.inj hf
        subst e
        exact ⟨f103, ⟨f103_x2, f103_i, f103_k⟩, a103⟩
      | 3, _, hf =>
        have e : 103 = f := Option.some.inj hf
        subst e
        exact ⟨f103, ⟨f103_x3, f103_i, f103_k⟩, a103⟩
      | 4, _, hf => exact absurd hf (by intro z; cases z)
      | 5, hc, _ => exact absurd hc (by intro z; cases z)
      | 6, _, hf => exact absurd hf (by intro z; cases z)
      | _ + 7, hc, _ => exact absurd hc (by intro z; cases z)
    | 4, hx =>
      have e : ("go_on" : Str) = x := Option.some.inj (Option.some.inj hx)
      subst e
      refine ⟨mkB_nf (by decide +kernel), fun c f hc hf => ?_⟩
      match c, hc, hf with
      | 0, _, hf => exact absurd hf (by intro z; cases z)
      | 1, _, hf =>
        have e : 106 = f := Option.some.inj hf
        subst e
        exact ⟨f106, ⟨f106_x1, f106_i, f106_k⟩, a106⟩
      | 2, _, hf =>
        have e : 109 = f := Option.some.inj hf
        subst e
        exact ⟨f109, ⟨f109_x2, f109_i, f109_k⟩, a109⟩
      | 3, _, hf =>
        have e : 111 = f := Option.some.inj hf
        subst e
        exact ⟨f111, ⟨f111_x3, f111_i, f111_k⟩, a111⟩
      | 4, _, hf => exact absurd hf (by intro z; cases z)
      | 5, hc, _ => exact absurd hc (by intro z; cases z)
      | 6, _, hf => exact absurd hf (by intro z; cases z)
      | _ + 7, hc, _ => exact absurd hc (by intro z; cases z)
    | 5, hx =>
      have e : ("go_back" : Str) = x := Option.some.inj (Option.some.inj hx)
      subst e
      refine ⟨mkB_nf (by decide +kernel), fun c f hc hf => ?_⟩
      match c, hc, hf with
      | 0, _, hf => exact absurd hf (by intro z; cases z)
      | 1, _, hf =>
        have e : 107 = f := Option.some.inj hf
        subst e
        exact ⟨f107, ⟨f107_x1, f107_i, f107_k⟩, a107⟩
      | 2, _, hf =>
        have e : 110 = f := Option.some.inj hf
        subst e
        exact ⟨f110, ⟨f110_x2, f110_i, f110_k⟩, a110⟩
      | 3, _, hf =>
        have e : 112 = f := Option.some.inj hf
        subst e
        exact ⟨f112, ⟨f112_x3, f112_i, f112_k⟩, a112⟩
      | 4, _, hf => exact absurd hf (by intro z; cases z)
      | 5, hc, _ => exact absurd hc (by intro z; cases z)
      | 6, _, hf => exact absurd hf (by intro z; cases z)
      | _ + 7, hc, _ => exact absurd hc (by intro z; cases z)
    | 6, hx =>
      have e : ("call_off" : Str) = x := Option.some.inj (Option.some.inj hx)
      subst e
      refine ⟨mkB_nf (by decide +kernel), fun c f hc hf => ?_⟩
      match c, hc, hf with
      | 0, _, hf =>
        have e : 94 = f := Option.some.inj hf
        subst e
        exact ⟨f94, ⟨f94_x0, f94_i, f94_k⟩, a94⟩
      | 1, _, hf =>
        have e : 102 = f := Option.some.inj hf
        subst e
        exact ⟨f102, ⟨f102_x1, f102_i, f102_k⟩, a102⟩
      | 2, _, hf =>
        have e : 102 = f := Option.some.inj hf
        subst e
        exact ⟨f102, ⟨f102_x2, f102_i, f102_k⟩, a102⟩
      | 3, _, hf =>
        have e : 102 = f := Option.some.inj hf
        subst e
        exact ⟨f102, ⟨f102_x3, f102_i, f102_k⟩, a102⟩
      | 4, _, hf => exact absurd hf (by intro z; cases z)
      | 5, hc, _ => exact absurd hc (by intro z; cases z)
      | 6, _, hf => exact absurd hf (by intro z; cases z)
      | _ + 7, hc, _ => exact absurd hc (by intro z; cases z)
    | 7, hx =>
      have e : ("fits" : Str) = x := Option.some.inj (Option.some.inj hx)
      subst e
      refine ⟨mkB_nf (by decide +kernel), fun c f hc hf => ?_⟩
      match c, hc, hf with
      | 0, _, hf => exact absurd hf (by intro z; cases z)
      | 1, _, hf => exact absurd hf (by intro z; cases z)
      | 2, _, hf => exact absurd hf (by intro z; cases z)
      | 3, _, hf => exact absurd hf (by intro z; cases z)
      | 4, _, hf => exact absurd hf (by intro z; cases z)
      | 5, hc, _ => exact absurd hc (by intro z; cases z)
      | 6, _, hf =>
        have e : 116 = f := Option.some.inj hf
        subst e
        exact ⟨f116, ⟨f116_x6, f116_i, f116_k⟩, a116⟩
      | _ + 7, hc, _ => exact absurd hc (by intro z; cases z)
    | 8, hx =>
      have e : ("answer" : Str) = x := Option.some.inj (Option.some.inj hx)
      subst e
      refine ⟨mkB_nf (by decide +kernel), fun c f hc hf => ?_⟩
      match c, hc, hf with
      | 0, _, hf =>
        have e : 97 = f := Option.some.inj hf
        subst e
        exact ⟨f97, ⟨f97_x0, f97_i, f97_k⟩, a97⟩
      | 1, _, hf => exact absurd hf (by intro z; cases z)
      | 2, _, hf => exact absurd hf (by intro z; cases z)
      | 3, _, hf => exact absurd hf (by intro z; cases z)
      | 4, _, hf => exact absurd hf (by intro z; cases z)
      | 5, hc, _ => exact absurd hc (by intro z; cases z)
      | 6, _, hf => exact absurd hf (by intro z; cases z)
      | _ + 7, hc, _ => exact absurd hc (by intro z; cases z)
    | 9, hx =>
      have e : ("state" : Str) = x := Option.some.inj (Option.some.inj hx)
      subst e
      refine ⟨mkB_nf (by decide +kernel), fun c f hc hf => ?_⟩
      match c, hc, hf with
      | 0, _, hf => exact absurd hf (by intro z; cases z)
      | 1, _, hf => exact absurd hf (by intro z; cases z)
      | 2, _, hf => exact absurd hf (by intro z; cases z)
      | 3, _, hf => exact absurd hf (by intro z; cases z)
      | 4, _, hf => exact absurd hf (by intro z; cases z)
      | 5, hc, _ => exact absurd hc (by intro z; cases z)
      | 6, _, hf =>
        have e : 117 = f := Option.some.inj hf
        subst e
        exact ⟨f117, ⟨f117_x6, f117_i, f117_k⟩, a117⟩
      | _ + 7, hc, _ => exact absurd hc (by intro z; cases z)
    | 10, hx =>
      have e : ("stop" : Str) = x := Option.some.inj (Option.some.inj hx)
      subst e
      refine ⟨mkB_nf (by decide +kernel), fun c f hc hf => ?_⟩
      match c, hc, hf with
      | 0, _, hf => exact absurd hf (by intro z; cases z)
      | 1, _, hf => exact absurd hf (by intro z; cases z)
      | 2, _, hf => exact absurd hf (by intro z; cases z)
      | 3, _, hf => exact absurd hf (by intro z; cases z)
      | 4, _, hf => exact absurd hf (by intro z; cases z)
      | 5, hc, _ => exact absurd hc (by intro z; cases z)
      | 6, _, hf =>
        have e : 120 = f := Option.some.inj hf
        subst e
        exact ⟨f120, ⟨f120_x6, f120_i, f120_k⟩, a120⟩
      | _ + 7, hc, _ => exact absurd hc (by intro z; cases z)
    | 11, hx =>
      have e : ("told" : Str) = x := Option.some.inj (Option.some.inj hx)
      subst e
      refine ⟨mkB_nf (by decide +kernel), fun c f hc hf => ?_⟩
      match c, hc, hf with
      | 0, _, hf => exact absurd hf (by intro z; cases z)
      | 1, _, hf => exact absurd hf (by intro z; cases z)
      | 2, _, hf => exact absurd hf (by intro z; cases z)
      | 3, _, hf => exact absurd hf (by intro z; cases z)
      | 4, _, hf => exact absurd hf (by intro z; cases z)
      | 5, hc, _ => exact absurd hc (by intro z; cases z)
      | 6, _, hf =>
        have e : 115 = f := Option.some.inj hf
        subst e
        exact ⟨f115, ⟨f115_x6, f115_i, f115_k⟩, a115⟩
      | _ + 7, hc, _ => exact absurd hc (by intro z; cases z)
    | 12, hx => exact absurd (Option.some.inj hx) (by intro z; cases z)
    | 13, hx => exact absurd (Option.some.inj hx) (by intro z; cases z)
    | 14, hx => exact absurd (Option.some.inj hx) (by intro z; cases z)
    | 15, hx =>
      have e : ("due" : Str) = x := Option.some.inj (Option.some.inj hx)
      subst e
      refine ⟨mkB_nf (by decide +kernel), fun c f hc hf => ?_⟩
      match c, hc, hf with
      | 0, _, hf => exact absurd hf (by intro z; cases z)
      | 1, _, hf => exact absurd hf (by intro z; cases z)
      | 2, _, hf => exact absurd hf (by intro z; cases z)
      | 3, _, hf => exact absurd hf (by intro z; cases z)
      | 4, _, hf => exact absurd hf (by intro z; cases z)
      | 5, hc, _ => exact absurd hc (by intro z; cases z)
      | 6, _, hf =>
        have e : 114 = f := Option.some.inj hf
        subst e
        exact ⟨f114, ⟨f114_x6, f114_i, f114_k⟩, a114⟩
      | _ + 7, hc, _ => exact absurd hc (by intro z; cases z)
    | 16, hx => exact absurd (Option.some.inj hx) (by intro z; cases z)
    | 17, hx => exact absurd (Option.some.inj hx) (by intro z; cases z)
    | 18, hx =>
      have e : ("rests" : Str) = x := Option.some.inj (Option.some.inj hx)
      subst e
      refine ⟨mkB_nf (by decide +kernel), fun c f hc hf => ?_⟩
      match c, hc, hf with
      | 0, _, hf => exact absurd hf (by intro z; cases z)
      | 1, _, hf => exact absurd hf (by intro z; cases z)
      | 2, _, hf => exact absurd hf (by intro z; cases z)
      | 3, _, hf => exact absurd hf (by intro z; cases z)
      | 4, _, hf => exact absurd hf (by intro z; cases z)
      | 5, hc, _ => exact absurd hc (by intro z; cases z)
      | 6, _, hf =>
        have e : 119 = f := Option.some.inj hf
        subst e
        exact ⟨f119, ⟨f119_x6, f119_i, f119_k⟩, a119⟩
      | _ + 7, hc, _ => exact absurd hc (by intro z; cases z)
    | 19, hx => exact absurd (Option.some.inj hx) (by intro z; cases z)
    | 20, hx =>
      have e : ("kept" : Str) = x := Option.some.inj (Option.some.inj hx)
      subst e
      refine ⟨mkB_nf (by decide +kernel), fun c f hc hf => ?_⟩
      match c, hc, hf with
      | 0, _, hf => exact absurd hf (by intro z; cases z)
      | 1, _, hf => exact absurd hf (by intro z; cases z)
      | 2, _, hf => exact absurd hf (by intro z; cases z)
      | 3, _, hf => exact absurd hf (by intro z; cases z)
      | 4, _, hf => exact absurd hf (by intro z; cases z)
      | 5, hc, _ => exact absurd hc (by intro z; cases z)
      | 6, _, hf =>
        have e : 118 = f := Option.some.inj hf
        subst e
        exact ⟨f118, ⟨f118_x6, f118_i, f118_k⟩, a118⟩
      | _ + 7, hc, _ => exact absurd hc (by intro z; cases z)
    | _ + 21, hx => exact absurd hx (by intro z; cases z)
  · exact absurd h0 (by intro z; cases z)
end K02
open PySem PySem.W PyProof.Rows
set_option maxRecDepth 100000 in
set_option maxHeartbeats 0 in
theorem PySem.Challenge.cw_errandback_k02_rows_of_steps_holds : PySem.Challenge.rw_errandback_k02_rows_of_steps.Holds := by
  w_on; o_law; k_head; (case hw => w_witness2)
  k_fill
  refine Sn.walk (l := PySem.Challenge.rw_errandback_k02_rows_of_steps) (k := 18) (x := "_law_script") rfl rfl ⟨rfl, by decide, by decide⟩ (fun w h Y => PySem.W.kIn_of Y) ?F
  case F =>
    intro w mg fa h KX G hmg
    refine' K02.head KX G hmg ?C0_a ?C1_a ?C2_a ?C3_a ?C4_a ?C6_a ?f0_a ?f0_l ?f0_c ?f0_k ?f1_a ?f1_l ?f1_c ?f1_k ?f2_a ?f2_l ?f2_c ?f2_k ?f3_a ?f3_l ?f3_c ?f3_k ?f4_a ?f4_l ?f4_c ?f4_k ?f5_a ?f5_l ?f5_c ?f5_k ?f6_a ?f6_l ?f6_c ?f6_k ?f7_a ?f7_l ?f7_c ?f7_k ?f18_a ?f18_l ?f18_c ?f18_k ?f19_a ?f19_l ?f19_c ?f19_k ?f25_a ?f25_l ?f25_c ?f25_k ?f26_a ?f26_l ?f26_c ?f26_k ?f30_a ?f30_l ?f30_c ?f30_k ?f91_x4 ?f91_i ?f91_l ?f91_c ?f91_k ?f92_x0 ?f92_i ?f92_l ?f92_c ?f92_k ?f93_x0 ?f93_i ?f93_l ?f93_c ?f93_k ?f94_x0 ?f94_i ?f94_l ?f94_c ?f94_k ?f95_x0 ?f95_i ?f95_l ?f95_c ?f95_k ?f96_x0 ?f96_i ?f96_l ?f96_c ?f96_k ?f97_x0 ?f97_i ?f97_l ?f97_c ?f97_k ?f98_x0 ?f98_i ?f98_l ?f98_c ?f98_k ?f99_x1 ?f99_x2 ?f99_x3 ?f99_i ?f99_l ?f99_c ?f99_k ?f100_x1 ?f100_x2 ?f100_x3 ?f100_i ?f100_l ?f100_c ?f100_k ?f101_x1 ?f101_x3 ?f101_i ?f101_l ?f101_c ?f101_k ?f102_x1 ?f102_x2 ?f102_x3 ?f102_i ?f102_l ?f102_c ?f102_k ?f103_x1 ?f103_x2 ?f103_x3 ?f103_i ?f103_l ?f103_c ?f103_k ?f106_x1 ?f106_i ?f106_l ?f106_c ?f106_k ?f107_x1 ?f107_i ?f107_l ?f107_c ?f107_k ?f108_x2 ?f108_i ?f108_l ?f108_c ?f108_k ?f109_x2 ?f109_i ?f109_l ?f109_c ?f109_k ?f110_x2 ?f110_i ?f110_l ?f110_c ?f110_k ?f111_x3 ?f111_i ?f111_l ?f111_c ?f111_k ?f112_x3 ?f112_i ?f112_l ?f112_c ?f112_k ?f113_x6 ?f113_i ?f113_l ?f113_c ?f113_k ?f114_x6 ?f114_i ?f114_l ?f114_c ?f114_k ?f115_x6 ?f115_i ?f115_l ?f115_c ?f115_k ?f116_x6 ?f116_i ?f116_l ?f116_c ?f116_k ?f117_x6 ?f117_i ?f117_l ?f117_c ?f117_k ?f118_x6 ?f118_i ?f118_l ?f118_c ?f118_k ?f119_x6 ?f119_i ?f119_l ?f119_c ?f119_k ?f120_x6 ?f120_i ?f120_l ?f120_c ?f120_k ?f155_a ?f155_l ?f155_c ?f155_k ?C0_pg ?C0_hd ?C0_po ?C0_sa ?C0_mk ?C0_kc ?C0_n0 ?C0_n1 ?C0_n2 ?C0_n3 ?C0_n4 ?C0_n5 ?C0_n6 ?C0_n7 ?C0_n8 ?C0_n9 ?C0_n10 ?C1_pg ?C1_hd ?C1_po ?C1_sa ?C1_mk ?C1_kc ?C1_n0 ?C1_n1 ?C1_n2 ?C1_n3 ?C1_n4 ?C1_n5 ?C1_n6 ?C1_n7 ?C1_n8 ?C1_n9 ?C1_n10 ?C2_pg ?C2_hd ?C2_po ?C2_sa ?C2_mk ?C2_kc ?C2_n0 ?C2_n1 ?C2_n2 ?C2_n3 ?C2_n4 ?C2_n5 ?C2_n6 ?C2_n7 ?C2_n8 ?C2_n9 ?C2_n10 ?C3_pg ?C3_hd ?C3_po ?C3_sa ?C3_mk ?C3_kc ?C3_n0 ?C3_n1 ?C3_n2 ?C3_n3 ?C3_n4 ?C3_n5 ?C3_n6 ?C3_n7 ?C3_n8 ?C3_n9 ?C3_n10 ?C4_pg ?C4_hd ?C4_po ?C4_sa ?C4_mk ?C4_kc ?C4_n0 ?C4_n1 ?C4_n2 ?C4_n3 ?C4_n4 ?C4_n5 ?C4_n6 ?C4_n7 ?C4_n8 ?C4_n9 ?C4_n10 ?C6_pg ?C6_hd ?C6_po ?C6_sa ?C6_mk ?C6_kc ?C6_n0 ?C6_n1 ?C6_n2 ?C6_n3 ?C6_n4 ?C6_n5 ?C6_n6 ?C6_n7 ?C6_n8 ?C6_n9 ?C6_n10 ?z0 ?z1 ?z2 ?z3 ?z4 ?z5 ?z6 ?z7 ?z8 ?z9 ?z10 ?z11 ?z12 ?z13 ?z14 ?z15 ?z16 ?g1_a ?g0_a ?g0_l ?g2_a ?g3_a ?g4_a K02.math
    (case C0_a => k_is)
    (case C1_a => k_is)
    (case C2_a => k_is)
    (case C3_a => k_is)
    (case C4_a => k_is)
    (case C6_a => k_is)
    (case f0_a => k_is)
    (case f0_l => k_is)
    (case f0_c => k_is)
    (case f0_k => k_is)
    (case f1_a => k_is)
    (case f1_l => k_is)
    (case f1_c => k_is)
    (case f1_k => k_is)
    (case f2_a => k_is)
    (case f2_l => k_is)
    (case f2_c => k_is)
    (case f2_k => k_is)
    (case f3_a => k_is)
    (case f3_l => k_is)
    (case f3_c => k_is)
    (case f3_k => k_is)
    (case f4_a => k_is)
    (case f4_l => k_is)
    (case f4_c => k_is)
    (case f4_k => k_is)
    (case f5_a => k_is)
    (case f5_l => k_is)
    (case f5_c => k_is)
    (case f5_k => k_is)
    (case f6_a => k_is)
    (case f6_l => k_is)
    (case f6_c => k_is)
    (case f6_k => k_is)
    (case f7_a => k_is)
    (case f7_l => k_is)
    (case f7_c => k_is)
    (case f7_k => k_is)
    (case f18_a => k_is)
    (case f18_l => k_is)
    (case f18_c => k_is)
    (case f18_k => k_is)
    (case f19_a => k_is)
    (case f19_l => k_is)
    (case f19_c => k_is)
    (case f19_k => k_is)
    (case f25_a => k_is)
    (case f25_l => k_is)
    (case f25_c => k_is)
    (case f25_k => k_is)
    (case f26_a => k_is)
    (case f26_l => k_is)
    (case f26_c => k_is)
    (case f26_k => k_is)
    (case f30_a => k_is)
    (case f30_l => k_is)
    (case f30_c => k_is)
    (case f30_k => k_is)
    (case f91_x4 => k_is)
    (case f91_i => k_is)
    (case f91_l => k_is)
    (case f91_c => k_is)
    (case f91_k => k_is)
    (case f92_x0 => k_is)
    (case f92_i => k_is)
    (case f92_l => k_is)
    (case f92_c => k_is)
    (case f92_k => k_is)
    (case f93_x0 => k_is)
    (case f93_i => k_is)
    (case f93_l => k_is)
    (case f93_c => k_is)
    (case f93_k => k_is)
    (case f94_x0 => k_is)
    (case f94_i => k_is)
    (case f94_l => k_is)
    (case f94_c => k_is)
    (case f94_k => k_is)
    (case f95_x0 => k_is)
    (case f95_i => k_is)
    (case f95_l => k_is)
    (case f95_c => k_is)
    (case f95_k => k_is)
    (case f96_x0 => k_is)
    (case f96_i => k_is)
    (case f96_l => k_is)
    (case f96_c => k_is)
    (case f96_k => k_is)
    (case f97_x0 => k_is)
    (case f97_i => k_is)
    (case f97_l => k_is)
    (case f97_c => k_is)
    (case f97_k => k_is)
    (case f98_x0 => k_is)
    (case f98_i => k_is)
    (case f98_l => k_is)
    (case f98_c => k_is)
    (case f98_k => k_is)
    (case f99_x1 => k_is)
    (case f99_x2 => k_is)
    (case f99_x3 => k_is)
    (case f99_i => k_is)
    (case f99_l => k_is)
    (case f99_c => k_is)
    (case f99_k => k_is)
    (case f100_x1 => k_is)
    (case f100_x2 => k_is)
    (case f100_x3 => k_is)
    (case f100_i => k_is)
    (case f100_l => k_is)
    (case f100_c => k_is)
    (case f100_k => k_is)
    (case f101_x1 => k_is)
    (case f101_x3 => k_is)
    (case f101_i => k_is)
    (case f101_l => k_is)
    (case f101_c => k_is)
    (case f101_k => k_is)
    (case f102_x1 => k_is)
    (case f102_x2 => k_is)
    (case f102_x3 => k_is)
    (case f102_i => k_is)
    (case f102_l => k_is)
    (case f102_c => k_is)
    (case f102_k => k_is)
    (case f103_x1 => k_is)
    (case f103_x2 => k_is)
    (case f103_x3 => k_is)
    (case f103_i => k_is)
    (case f103_l => k_is)
    (case f103_c => k_is)
    (case f103_k => k_is)
    (case f106_x1 => k_is)
    (case f106_i => k_is)
    (case f106_l => k_is)
    (case f106_c => k_is)
    (case f106_k => k_is)
    (case f107_x1 => k_is)
    (case f107_i => k_is)
    (case f107_l => k_is)
    (case f107_c => k_is)
    (case f107_k => k_is)
    (case f108_x2 => k_is)
    (case f108_i => k_is)
    (case f108_l => k_is)
    (case f108_c => k_is)
    (case f108_k => k_is)
    (case f109_x2 => k_is)
    (case f109_i => k_is)
    (case f109_l => k_is)
    (case f109_c => k_is)
    (case f109_k => k_is)
    (case f110_x2 => k_is)
    (case f110_i => k_is)
    (case f110_l => k_is)
    (case f110_c => k_is)
    (case f110_k => k_is)
    (case f111_x3 => k_is)
    (case f111_i => k_is)
    (case f111_l => k_is)
    (case f111_c => k_is)
    (case f111_k => k_is)
    (case f112_x3 => k_is)
    (case f112_i => k_is)
    (case f112_l => k_is)
    (case f112_c => k_is)
    (case f112_k => k_is)
    (case f113_x6 => k_is)
    (case f113_i => k_is)
    (case f113_l => k_is)
    (case f113_c => k_is)
    (case f113_k => k_is)
    (case f114_x6 => k_is)
    (case f114_i => k_is)
    (case f114_l => k_is)
    (case f114_c => k_is)
    (case f114_k => k_is)
    (case f115_x6 => k_is)
    (case f115_i => k_is)
    (case f115_l => k_is)
    (case f115_c => k_is)
    (case f115_k => k_is)
    (case f116_x6 => k_is)
    (case f116_i => k_is)
    (case f116_l => k_is)
    (case f116_c => k_is)
    (case f116_k => k_is)
    (case f117_x6 => k_is)
    (case f117_i => k_is)
    (case f117_l => k_is)
    (case f117_c => k_is)
    (case f117_k => k_is)
    (case f118_x6 => k_is)
    (case f118_i => k_is)
    (case f118_l => k_is)
    (case f118_c => k_is)
    (case f118_k => k_is)
    (case f119_x6 => k_is)
    (case f119_i => k_is)
    (case f119_l => k_is)
    (case f119_c => k_is)
    (case f119_k => k_is)
    (case f120_x6 => k_is)
    (case f120_i => k_is)
    (case f120_l => k_is)
    (case f120_c => k_is)
    (case f120_k => k_is)
    (case f155_a => k_is)
    (case f155_l => k_is)
    (case f155_c => k_is)
    (case f155_k => k_is)
    (case C0_pg => k_is)
    (case C0_hd => k_is)
    (case C0_po => k_is)
    (case C0_sa => k_is)
    (case C0_mk => k_is)
    (case C0_kc => k_is)
    (case C0_n0 => k_is)
    (case C0_n1 => k_is)
    (case C0_n2 => k_is)
    (case C0_n3 => k_is)
    (case C0_n4 => k_is)
    (case C0_n5 => k_is)
    (case C0_n6 => k_is)
    (case C0_n7 => k_is)
    (case C0_n8 => k_is)
    (case C0_n9 => k_is)
    (case C0_n10 => k_is)
    (case C1_pg => k_is)
    (case C1_hd => k_is)
    (case C1_po => k_is)
    (case C1_sa => k_is)
    (case C1_mk => k_is)
    (case C1_kc => k_is)
    (case C1_n0 => k_is)
    (case C1_n1 => k_is)
    (case C1_n2 => k_is)
    (case C1_n3 => k_is)
    (case C1_n4 => k_is)
    (case C1_n5 => k_is)
    (case C1_n6 => k_is)
    (case C1_n7 => k_is)
    (case C1_n8 => k_is)
    (case C1_n9 => k_is)
    (case C1_n10 => k_is)
    (case C2_pg => k_is)
    (case C2_hd => k_is)
    (case C2_po => k_is)
    (case C2_sa => k_is)
    (case C2_mk => k_is)
    (case C2_kc => k_is)
    (case C2_n0 => k_is)
    (case C2_n1 => k_is)
    (case C2_n2 => k_is)
    (case C2_n3 => k_is)
    (case C2_n4 => k_is)
    (case C2_n5 => k_is)
    (case C2_n6 => k_is)
    (case C2_n7 => k_is)
    (case C2_n8 => k_is)
    (case C2_n9 => k_is)
    (case C2_n10 => k_is)
    (case C3_pg => k_is)
    (case C3_hd => k_is)
    (case C3_po => k_is)
    (case C3_sa => k_is)
    (case C3_mk => k_is)
    (case C3_kc => k_is)
    (case C3_n0 => k_is)
    (case C3_n1 => k_is)
    (case C3_n2 => k_is)
    (case C3_n3 => k_is)
    (case C3_n4 => k_is)
    (case C3_n5 => k_is)
    (case C3_n6 => k_is)
    (case C3_n7 => k_is)
    (case C3_n8 => k_is)
    (case C3_n9 => k_is)
    (case C3_n10 => k_is)
    (case C4_pg => k_is)
    (case C4_hd => k_is)
    (case C4_po => k_is)
    (case C4_sa => k_is)
    (case C4_mk => k_is)
    (case C4_kc => k_is)
    (case C4_n0 => k_is)
    (case C4_n1 => k_is)
    (case C4_n2 => k_is)
    (case C4_n3 => k_is)
    (case C4_n4 => k_is)
    (case C4_n5 => k_is)
    (case C4_n6 => k_is)
    (case C4_n7 => k_is)
    (case C4_n8 => k_is)
    (case C4_n9 => k_is)
    (case C4_n10 => k_is)
    (case C6_pg => k_is)
    (case C6_hd => k_is)
    (case C6_po => k_is)
    (case C6_sa => k_is)
    (case C6_mk => k_is)
    (case C6_kc => k_is)
    (case C6_n0 => k_is)
    (case C6_n1 => k_is)
    (case C6_n2 => k_is)
    (case C6_n3 => k_is)
    (case C6_n4 => k_is)
    (case C6_n5 => k_is)
    (case C6_n6 => k_is)
    (case C6_n7 => k_is)
    (case C6_n8 => k_is)
    (case C6_n9 => k_is)
    (case C6_n10 => k_is)
    (case z0 => k_is)
    (case z1 => k_is)
    (case z2 => k_is)
    (case z3 => k_is)
    (case z4 => k_is)
    (case z5 => k_is)
    (case z6 => k_is)
    (case z7 => k_is)
    (case z8 => k_is)
    (case z9 => k_is)
    (case z10 => k_is)
    (case z11 => k_is)
    (case z12 => k_is)
    (case z13 => k_is)
    (case z14 => k_is)
    (case z15 => k_is)
    (case z16 => k_is)
    (case g1_a => k_is)
    (case g0_a => k_is)
    (case g0_l => k_is)
    (case g2_a => k_is)
    (case g3_a => k_is)
    (case g4_a => k_is)
