import PyProof.Rows.All
import Wide.All
import OpenK.AllK
import Wide.FinOn
import PySem.Challenge.RW_widerows_k09_units_and_works
import PySem.Str
import PySem.PyData
import PyProof.P3Statements
import PyProof.Claim2
import HandS.ForMost
import HandS.Exc
import HandS.ExcOwn
import HandS.TryOnly
import HandS.WordsExc
import HandS.Wide
import HandS.TupAny
import HandS.IsInst
import HandS.Deep
import HandS.SortInts
import HandS.More
import HandS.TupLen
import HandS.WordsDict
import KE.DataEq
import PyProof.Rows.SeqMore
import HandS.WideBits
import HandS.SortKw
import HandS.Strs
import HandS.Zip
import HandS.Conv
import KE.DatumOrd
import KE.KDictPairs
import PyProof.StrOps2
import KE.GoesNew
import HandS.Rev
import HandS.Style
import KE.KDictList
import HandS.Dict
import HandS.Small
import HandS.EndBits
import HandS.Defaults
set_option linter.all false
set_option Elab.async false
set_option maxRecDepth 100000
/-! L3A: plain data, numbered cells, a small syntax and its total run -/
namespace L3
open PySem

/-- data: tuples by value, what may change by its number -/
inductive D where
  | non | bl (b : Bool) | int (i : Int) | str (x : Str) | tup (ds : List D) | ref (n : Nat)
  /-- a list that nobody writes -/
  | frz (ds : List D)
  /-- a tuple of which all is known: never a key, may be taken by dict() -/
  | ptup (ds : List D)
  deriving Inhabited

mutual
def D.dec : (a b : D) → Decidable (a = b)
  | .non, .non => .isTrue rfl
  | .bl a, .bl b => if h : a = b then .isTrue (by rw [h]) else .isFalse (by intro q; injection q; contradiction)
  | .int a, .int b => if h : a = b then .isTrue (by rw [h]) else .isFalse (by intro q; injection q; contradiction)
  | .str a, .str b => if h : a = b then .isTrue (by rw [h]) else .isFalse (by intro q; injection q; contradiction)
  | .ref a, .ref b => if h : a = b then .isTrue (by rw [h]) else .isFalse (by intro q; injection q; contradiction)
  | .tup a, .tup b => match D.decs a b with
    | .isTrue h => .isTrue (by rw [h])
    | .isFalse h => .isFalse (by intro q; injection q; contradiction)
  | .frz a, .frz b => match D.decs a b with
    | .isTrue h => .isTrue (by rw [h])
    | .isFalse h => .isFalse (by intro q; injection q; contradiction)
  | .ptup a, .ptup b => match D.decs a b with
    | .isTrue h => .isTrue (by rw [h])
    | .isFalse h => .isFalse (by intro q; injection q; contradiction)
  | .non, .bl _ | .non, .int _ | .non, .str _ | .non, .ref _ | .non, .tup _ | .non, .frz _ | .non, .ptup _ => .isFalse (by intro q; cases q)
  | .bl _, .non | .bl _, .int _ | .bl _, .str _ | .bl _, .ref _ | .bl _, .tup _ | .bl _, .frz _ | .bl _, .ptup _ => .isFalse (by intro q; cases q)
  | .int _, .non | .int _, .bl _ | .int _, .str _ | .int _, .ref _ | .int _, .tup _ | .int _, .frz _ | .int _, .ptup _ => .isFalse (by intro q; cases q)
  | .str _, .non | .str _, .bl _ | .str _, .int _ | .str _, .ref _ | .str _, .tup _ | .str _, .frz _ | .str _, .ptup _ => .isFalse (by intro q; cases q)
  | .ref _, .non | .ref _, .bl _ | .ref _, .int _ | .ref _, .str _ | .ref _, .tup _ | .ref _, .frz _ | .ref _, .ptup _ => .isFalse (by intro q; cases q)
  | .tup _, .non | .tup _, .bl _ | .tup _, .int _ | .tup _, .str _ | .tup _, .ref _ | .tup _, .frz _ | .tup _, .ptup _ => .isFalse (by intro q; cases q)
  | .frz _, .non | .frz _, .bl _ | .frz _, .int _ | .frz _, .str _ | .frz _, .ref _ | .frz _, .tup _ | .frz _, .ptup _ => .isFalse (by intro q; cases q)
  | .ptup _, .non | .ptup _, .bl _ | .ptup _, .int _ | .ptup _, .str _ | .ptup _, .ref _ | .ptup _, .tup _ | .ptup _, .frz _ => .isFalse (by intro q; cases q)
def D.decs : (a b : List D) → Decidable (a = b)
  | [], [] => .isTrue rfl
  | [], _ :: _ => .isFalse (by intro q; cases q)
  | _ :: _, [] => .isFalse (by intro q; cases q)
  | a :: as, b :: bs => match D.dec a b, D.decs as bs with
    | .isTrue h, .isTrue h' => .isTrue (by rw [h, h'])
    | .isFalse h, _ => .isFalse (by intro q; injection q; contradiction)
    | _, .isFalse h => .isFalse (by intro q; injection q; contradiction)
end
instance : DecidableEq D := D.dec

/-- an own object's attributes by number -/
abbrev Fs := List (Nat × D)
/-- dicts: pairs in order -/
abbrev Kvs := List (D × D)
inductive Cell where
  /-- t: its keys are tuples -/
  | lst (xs : List D) | dic (t : Bool) (kvs : Kvs) | ins (c : Nat) (fs : Fs)
  deriving Inhabited, DecidableEq

/-- cells, the newest first; a cell's number is how many were there ahead of it -/
abbrev St := List Cell
/-- the n-th from below -/
def pick {α : Type} : List α → Nat → Option α
  | [], _ => none
  | c :: l, n => if n = l.length then some c else pick l n
abbrev St.get (st : St) (n : Nat) : Option Cell := pick st n
def St.set : St → Nat → Cell → St
  | [], _, _ => []
  | c :: st, n, d => if n = st.length then d :: st else c :: St.set st n d
/-- back to n cells -/
def St.cut (n : Nat) : St → St
  | [] => []
  | c :: st => if st.length < n then c :: st else St.cut n st

/-- the value of an expression: data, or a list or a dict that nobody else holds -/
inductive R where
  | d (x : D) | fl (xs : List D) | fd (t : Bool) (kvs : Kvs)
  /-- a tuple of the text's top -/
  | kt (xs : List D)
  deriving Inhabited

structure Exc where
  cls : Nat
  val : Option D
  deriving Inhabited

inductive Out (α : Type) where
  | ok (a : α) (st : St)
  | err (x : Exc) (st : St)
  | bad
  deriving Inhabited
def Out.bind {α β : Type} (m : Out α) (f : α → St → Out β) : Out β :=
  match m with
  | .ok a st => f a st
  | .err x st => .err x st
  | .bad => .bad

mutual
/-- all numbers of cells under n -/
def D.under (n : Nat) : D → Bool
  | .ref k => decide (k < n)
  | .tup ds => D.unders n ds | .frz ds => D.unders n ds | .ptup ds => D.unders n ds
  | .non => true | .bl _ => true | .int _ => true | .str _ => true
def D.unders (n : Nat) : List D → Bool
  | [] => true
  | d :: ds => D.under n d && D.unders n ds
end
mutual
/-- no cell within -/
def D.flat : D → Bool
  | .ref _ => false
  | .tup ds => D.flats ds | .frz ds => D.flats ds | .ptup ds => D.flats ds
  | .non => true | .bl _ => true | .int _ => true | .str _ => true
def D.flats : List D → Bool
  | [] => true
  | d :: ds => D.flat d && D.flats ds
end
mutual
def D.py : D → PyData
  | .non => .none | .bl b => .bool b | .int i => .int i | .str x => .str x
  | .tup ds => .tuple (D.pys ds) | .frz ds => .list (D.pys ds) | .ptup ds => .tuple (D.pys ds)
  | .ref _ => .none
def D.pys : List D → List PyData
  | [] => []
  | d :: ds => D.py d :: D.pys ds
end
mutual
/-- no cell within, texts of real signs, at most k deep: may be compared -/
def D.plain : Nat → D → Bool
  | _, .str x => PyData.strOk x
  | 0, .tup _ => false | 0, .frz _ => false | 0, .ptup _ => false
  | k + 1, .tup ds => D.plains k ds
  | k + 1, .frz ds => D.plains k ds
  | k + 1, .ptup ds => D.plains k ds
  | _, .ref _ => false
  | _, .non => true | _, .bl _ => true | _, .int _ => true
def D.plains : Nat → List D → Bool
  | _, [] => true
  | k, d :: ds => D.plain k d && D.plains k ds
end

/-! ### lists and dicts -/
/-- the place of i among n -/
def ixD (n : Nat) (i : Int) : Option Nat := if 0 ≤ i then (if i < n then some i.toNat else none) else if -(n : Int) ≤ i then some (i + n).toNat else none
def atD {α : Type} (xs : List α) (i : Int) : Option α := (ixD xs.length i).bind fun j => xs[j]?
def cutAt (n d : Nat) : Option Int → Nat
  | none => d
  | some v => if v < 0 then (v + (n : Int)).toNat else min v.toNat n
def cutL {α : Type} (xs : List α) (lo hi : Option Int) : List α := (xs.drop (cutAt xs.length 0 lo)).take (cutAt xs.length xs.length hi - cutAt xs.length 0 lo)
def kvGet (kvs : Kvs) (k : D) : Option D := (kvs.find? fun kv => decide (kv.1 = k)).map (·.2)
def kvHas (kvs : Kvs) (k : D) : Bool := kvs.any fun kv => decide (kv.1 = k)
def kvPut (kvs : Kvs) (k v : D) : Kvs := if kvHas kvs k = true then kvs.map (fun kv => if kv.1 = k then (kv.1, v) else kv) else kvs ++ [(k, v)]
def kvMerge (a b : Kvs) : Kvs := b.foldl (fun a p => kvPut a p.1 p.2) a
def kvDrop (kvs : Kvs) (k : D) : Kvs := kvs.filter fun kv => decide (kv.1 ≠ k)
/-- an int or a text -/
def D.atom : D → Bool
  | .int _ => true | .str _ => true | _ => false
def D.atoms : List D → Bool
  | [] => true
  | d :: ds => D.atom d && D.atoms ds
/-- a key of a dict of such keys -/
def keyOk (t : Bool) : D → Bool
  | .int _ => !t | .str _ => !t
  | .tup ds => t && D.atoms ds
  | _ => false

/-- pairs of a key and a value -/
def D.pairs : List D → Option Kvs
  | [] => some []
  | .tup [k, v] :: ds => if keyOk false k then (D.pairs ds).map ((k, v) :: ·) else none
  | _ :: _ => none
/-- keys and values by turns -/
def D.pairUp : List D → Option Kvs
  | [] => some []
  | k :: v :: ds => if keyOk false k then (D.pairUp ds).map ((k, v) :: ·) else none
  | _ => none
/-- a written dict of texts -/
def D.dcGet : List D → Str → Option Str
  | .tup [.str z, .str u] :: r, x => if z = x then some u else D.dcGet r x
  | _, _ => none
def D.ints : List D → Option (List Int)
  | [] => some []
  | .int i :: ds => (D.ints ds).map (i :: ·)
  | _ :: _ => none
def D.strs : List D → Option (List Str)
  | [] => some []
  | .str i :: ds => (D.strs ds).map (i :: ·)
  | _ :: _ => none
def D.bls : List D → Option (List Bool)
  | [] => some []
  | .bl i :: ds => (D.bls ds).map (i :: ·)
  | _ :: _ => none

/-! ### what is read of a value -/
/-- the items of a list or a tuple -/
def R.items (st : St) : R → Option (List D)
  | .fl xs => some xs
  | .kt xs => some xs
  | .d (.tup xs) => some xs
  | .d (.frz xs) => some xs
  | .d (.ptup xs) => some xs
  | .d (.ref n) => match St.get st n with
    | some (.lst xs) => some xs
    | _ => none
  | _ => none
/-- nobody will write it -/
def R.frz : R → R
  | .fl xs => .d (.frz xs)
  | r => r
/-- what is walked: a list's, a tuple's items, a text's signs -/
def R.walk (st : St) (r : R) : Option (List D) :=
  match r with
  | .d (.str z) => some (z.cps.toList.map fun c => D.str ⟨#[c]⟩)
  | r => r.items st
/-- a tuple -/
def R.tup? : R → Option (List D)
  | .kt xs => some xs
  | .d (.tup xs) => some xs
  | .d (.ptup xs) => some xs
  | _ => none
/-- the pairs of a dict -/
def R.kvs (st : St) : R → Option (Bool × Kvs)
  | .fd t kvs => some (t, kvs)
  | .d (.ref n) => match St.get st n with
    | some (.dic t kvs) => some (t, kvs)
    | _ => none
  | _ => none
def R.lst? (st : St) : R → Option (List D)
  | .fl xs => some xs
  | .d (.frz xs) => some xs
  | .d (.ref n) => match St.get st n with
    | some (.lst xs) => some xs
    | _ => none
  | _ => none

/-- a value as data: what nobody holds is laid in a new cell -/
def R.toD (r : R) (st : St) : Option (D × St) :=
  match r with
  | .d x => some (x, st)
  | .fl xs => some (.ref st.length, .lst xs :: st)
  | .fd t kvs => some (.ref st.length, .dic t kvs :: st)
  | .kt _ => none

def R.truth (st : St) : R → Option Bool
  | .d .non => some false
  | .d (.bl b) => some b
  | .d (.int i) => some (decide (i ≠ 0))
  | .d (.str x) => if x.length ≤ sizeLine then some (decide (x.length ≠ 0)) else none
  | .d (.tup ds) => some (!ds.isEmpty)
  | .d (.frz ds) => some (!ds.isEmpty)
  | .d (.ptup ds) => some (!ds.isEmpty)
  | .d (.ref n) => match St.get st n with
    | some (.lst xs) => some (!xs.isEmpty)
    | _ => none
  | .fl xs => some (!xs.isEmpty)
  | .kt xs => some (!xs.isEmpty)
  | .fd _ _ => none

/-! ### the syntax -/
inductive P1 where
  | neg | len | tup | lst | sum | all | any | sorted | abs | int | str | min | max
  | isTup | isInt | isBool | isStr | isLst | isNone | notNone | pop | setLen | dct | lrev | isTrue | isFalse
  deriving Inhabited, DecidableEq
inductive P2 where
  | add | sub | mul | fdiv | mod | pow | eq | ne | lt | le | gt | ge | inn | notin | item
  | append | popAt | get1 | index | min2 | max2 | join | tindex | maxd
  deriving Inhabited, DecidableEq
inductive P3 where
  | get2 | insert | min3 | max3
  deriving Inhabited, DecidableEq

/-- targets of assignments: slots -/
inductive Tg where
  | one (i : Nat) | many (is : List Nat)
  deriving Inhabited, DecidableEq

mutual
inductive E where
  | var (i : Nat) | lit (x : D) | con (g : Nat)
  | p1 (f : P1) (a : E) | p2 (f : P2) (a b : E) | p3 (f : P3) (a b c : E)
  | chain (f g : P2) (a b c : E)
  | tup (es : Es) | lst (es : Es) | dnew (t : Bool)
  | slc (a : E) (lo hi : Eo)
  | one (a : E) | and (a b : E) | or (a b : E) | not (a : E)
  | ife (t a b : E)
  | call (f : Nat) (es : Es)
  | meth (f : Nat) (o : E) (es : Es)
  | make (c : Nat) (es : Es)
  | fld (o : E) (f : Nat)
  | lc (e : E) (tg : Tg) (it : It) (c : Eo)
  | lof (t : Bool) (it : It) | dsp (kvs : Es) | cget (g : Nat) (k : E)
  /-- a new list of which it is known that nobody will write it -/
  | fz (e : E)
  /-- tuple(e) of a list: a tuple of which all is known -/
  | pt (e : E)
  /-- dict(e) -/
  | dt (e : E)
inductive Es where
  | nil | cons (e : E) (es : Es)
inductive Eo where
  | no | yes (e : E)
inductive It where
  | seq (e : E) | range1 (a : E) | range2 (a b : E) | enum (a : E) | zip (a b : E) | rev (a : E) | str (a : E) | keys (a : E) | zipS (a b : E)
end

mutual
inductive S where
  | pass | expr (e : E) | ret (e : E) | retN | doc
  | asg (tg : Tg) (e : E)
  | par (i j : Nat) (a b : E)
  | aug (i : Nat) (f : P2) (e : E)
  | setix (o i v : E) | setfld (o : E) (f : Nat) (v : E)
  | augfld (o : E) (f : Nat) (p : P2) (v : E)
  | augix (o i : E) (p : P2) (v : E)
  | iff (t : E) (a b : Ss)
  | whl (t : E) (b : Ss)
  | forr (tg : Tg) (it : It) (b : Ss)
  | raise (c : Nat) (v : Eo)
inductive Ss where
  | nil | cons (s : S) (ss : Ss)
end
end L3
/-! L3B: the run -/
namespace L3
open PySem

/-- a frame's bounds: cells from base on are its own; those of lk are not written now -/
structure Ct where
  base : Nat
  lk : List Nat
  /-- the bounds of the frames around -/
  out : List Nat := []
def Ct.may (K : Ct) (n : Nat) (d : D) : Bool := !(K.lk.contains n) && (d.flat || decide (K.base ≤ n))

/-- a frame of its own within -/
def Ct.sub (K : Ct) (st : St) : Ct := ⟨st.length, K.lk, K.base :: K.out⟩
abbrev Env := List (Option D)
/-- the end of a statement -/
inductive Fl where
  | nx (σ : Env) (st : St) | rt (r : R) (st : St) | bk (σ : Env) (st : St) | ct (σ : Env) (st : St)
  | er (x : Exc) (σ : Env) (st : St) | bad
  deriving Inhabited

/-! ### the operations -/
def okR (x : D) (st : St) : Out R := .ok (.d x) st
def R.int? : R → Option Int
  | .d (.int i) => some i
  | _ => none
/-- the items of a list that may be written -/
def R.mut? (K : Ct) (st : St) : R → Option (List D)
  | .fl xs => some xs
  | .d (.ref n) => if K.lk.contains n then none else match St.get st n with
    | some (.lst xs) => some xs
    | _ => none
  | _ => none
/-- what is compared -/
def R.cmp (st : St) : R → Option PyData
  | .fl xs => if D.plains 40 xs = true then some (.list (D.pys xs)) else none
  | .kt xs => if D.plains 40 xs = true then some (.tuple (D.pys xs)) else none
  | .fd _ _ => none
  | .d (.ref n) => match St.get st n with
    | some (.lst xs) => if D.plains 40 xs = true then some (.list (D.pys xs)) else none
    | _ => none
  | .d x => if D.plain 40 x = true then some x.py else none
def R.isNon : R → Bool
  | .d .non => true
  | _ => false
def R.test (r : R) (st : St) : Out Bool := match r.truth st with | some b => .ok b st | none => .bad
/-- the built-in type's name -/
def R.kind (st : St) : R → Option String
  | .fl _ => some "list"
  | .kt _ => some "tuple"
  | .fd _ _ => some "dict"
  | .d .non => some "NoneType" | .d (.bl _) => some "bool" | .d (.int _) => some "int" | .d (.str _) => some "str"
  | .d (.tup _) => some "tuple" | .d (.frz _) => some "list" | .d (.ptup _) => some "tuple"
  | .d (.ref n) => match St.get st n with
    | some (.lst _) => some "list"
    | some (.dic false _) => some "dict"
    | _ => none
/-- whole numbers in order -/
def sortI (ns : List Int) : List Int := ns.mergeSort fun a b => decide (a ≤ b)
def setCell (K : Ct) (st : St) (n : Nat) (c : Cell) (ok : Bool) (r : D) : Out R := if ok && !(K.lk.contains n) then .ok (.d r) (St.set st n c) else .bad

def ev1 (f : P1) (K : Ct) (x : R) (st : St) : Out R :=
  match f with
  | .neg => match x with | .d (.int i) => okR (.int (-i)) st | _ => .bad
  | .len => match x with
    | .d (.str z) => if z.length ≤ sizeLine then okR (.int z.length) st else .bad
    | _ => match x.items st with
      | some xs => okR (.int xs.length) st
      | none => match x.kvs st with
        | some (_, kvs) => if K.lk.isEmpty then okR (.int kvs.length) st else .bad
        | none => .bad
  | .tup => match x with
    | .kt xs => .ok (.kt xs) st
    | .d (.ptup xs) => okR (.ptup xs) st
    | x => match x.items st with | some xs => okR (.tup xs) st | none => .bad
  | .lst => match x.items st with | some xs => .ok (.fl xs) st | none => .bad
  | .sum => match x.lst? st with | some xs => (match D.ints xs with | some ns => okR (.int ns.sum) st | none => .bad) | none => .bad
  | .all => match x.lst? st with | some xs => (match D.bls xs with | some ns => okR (.bl (ns.all id)) st | none => .bad) | none => .bad
  | .any => match x.lst? st with | some xs => (match D.bls xs with | some ns => okR (.bl (ns.any id)) st | none => .bad) | none => .bad
  | .sorted => match x.lst? st with | some xs => (match D.ints xs with | some ns => .ok (.fl ((sortI ns).map D.int)) st | none => .bad) | none => .bad
  | .abs => match x with | .d (.int i) => okR (.int (if i < 0 then -i else i)) st | _ => .bad
  | .int => match x with | .d (.int i) => okR (.int i) st | .d (.bl b) => okR (.int (if b then 1 else 0)) st | _ => .bad
  | .str => match x with | .d (.int i) => if i.natAbs.log2 < 1920 then okR (.str (Str.ofString (toString i))) st else .bad | _ => .bad
  | .min => match x.lst? st with | some xs => (match D.ints xs with | some ns => (match (ns.min? : Option Int) with | some m => okR (.int m) st | none => .bad) | none => .bad) | none => .bad
  | .max => match x.lst? st with | some xs => (match D.ints xs with | some ns => (match ns.max? with | some m => okR (.int m) st | none => .bad) | none => .bad) | none => .bad
  | .isTup => match x.kind st with | some k => okR (.bl (k == "tuple")) st | none => .bad
  | .isInt => match x.kind st with | some k => okR (.bl (k == "int" || k == "bool")) st | none => .bad
  | .isBool => match x.kind st with | some k => okR (.bl (k == "bool")) st | none => .bad
  | .isStr => match x.kind st with | some k => okR (.bl (k == "str")) st | none => .bad
  | .isLst => match x.kind st with | some k => okR (.bl (k == "list")) st | none => .bad
  | .isNone => okR (.bl x.isNon) st
  | .notNone => okR (.bl (!x.isNon)) st
  | .pop => match x with
    | .d (.ref n) => (match St.get st n with
      | some (.lst xs) => (match xs[xs.length - 1]? with | some y => setCell K st n (.lst xs.dropLast) true y | none => .bad)
      | _ => .bad)
    | _ => .bad
  | .setLen => .bad
  | .dct => match (match x with | .d (.ptup xs) => some xs | x => x.lst? st) with
    | some xs => (match D.pairs xs with | some ps => .ok (.fd false (kvMerge [] ps)) st | none => .bad)
    | none => .bad
  | .lrev => match x.lst? st with | some xs => .ok (.fl xs.reverse) st | none => .bad
  | .isTrue => match x with | .d (.bl b) => okR (.bl (decide (b = true))) st | _ => .bad
  | .isFalse => match x with | .d (.bl b) => okR (.bl (decide (b = false))) st | _ => .bad

/-- what must be known of the first operand ahead of the others -/
def pre2 (f : P2) (x : R) (st : St) : Bool :=
  match f with
  | .append | .popAt => (match x with | .d (.ref n) => (match St.get st n with | some (.lst _) => true | _ => false) | _ => false)
  | .get1 => (x.kvs st).isSome
  | .index => (x.lst? st).isSome
  | .tindex => (match x with | .kt _ => true | _ => false)
  | .join => (match x with | .d (.str _) => true | _ => false)
  | _ => true

def ev2 (f : P2) (K : Ct) (x y : R) (st : St) : Out R :=
  match f with
  | .add => match x, y with
    | .d (.int i), .d (.int j) => okR (.int (i + j)) st
    | .d (.str a), .d (.str b) => if a.length + b.length ≤ sizeLine then okR (.str (a ++ b)) st else .bad
    | .d (.tup a), .d (.tup b) => if a.length + b.length ≤ sizeLine then okR (.tup (a ++ b)) st else .bad
    | x, y => match x.lst? st, y.lst? st with
      | some a, some b => if a.length + b.length ≤ sizeLine then .ok (.fl (a ++ b)) st else .bad
      | _, _ => .bad
  | .sub => match x, y with | .d (.int i), .d (.int j) => okR (.int (i - j)) st | _, _ => .bad
  | .mul => match x, y with
    | .d (.int i), .d (.int j) => if i.natAbs.log2 + j.natAbs.log2 < 100000000 then okR (.int (i * j)) st else .bad
    | .d (.str z), .d (.int j) => if j = 0 then okR (.str Str.empty) st else if j = 1 then okR (.str z) st else .bad
    | x, .d (.int j) => match x.mut? K st with
      | some xs => if decide (-(2 ^ 63) ≤ j) && decide (j < 2 ^ 63) && decide (xs.length * j.toNat ≤ sizeLine) then .ok (.fl (List.replicate j.toNat xs).flatten) st else .bad
      | none => .bad
    | _, _ => .bad
  | .fdiv => match x, y with | .d (.int i), .d (.int j) => if 0 < j ∧ j.natAbs.log2 < 9000 then okR (.int (i / j)) st else if j ≠ 0 ∧ j.natAbs < 1073741824 then okR (.int (i.fdiv j)) st else .bad | _, _ => .bad
  | .mod => match x, y with | .d (.int i), .d (.int j) => if 0 < j then okR (.int (i % j)) st else if j ≠ 0 then okR (.int (i.fmod j)) st else .bad | _, _ => .bad
  | .pow => match x, y with | .d (.int i), .d (.int j) => if 0 ≤ j ∧ j ≤ 1000000 ∧ i.natAbs < 2 ^ 64 then okR (.int (i ^ j.toNat)) st else .bad | _, _ => .bad
  | .eq => match x.cmp st, y.cmp st with | some a, some b => okR (.bl (PyData.eqv a b)) st | _, _ => .bad
  | .ne => match x.cmp st, y.cmp st with | some a, some b => okR (.bl (!PyData.eqv a b)) st | _, _ => .bad
  | .lt => match x, y with | .d (.int i), .d (.int j) => okR (.bl (decide (i < j))) st | _, _ => .bad
  | .le => match x, y with | .d (.int i), .d (.int j) => okR (.bl (decide (i ≤ j))) st | _, _ => .bad
  | .gt => match x, y with | .d (.int i), .d (.int j) => okR (.bl (decide (j < i))) st | _, _ => .bad
  | .ge => match x, y with | .d (.int i), .d (.int j) => okR (.bl (decide (j ≤ i))) st | _, _ => .bad
  | .inn | .notin => match y.kvs st with
    | some (t, kvs) => (match x with
      | .d k => if keyOk t k then okR (.bl (if f = .inn then kvHas kvs k else !kvHas kvs k)) st else .bad
      | _ => .bad)
    | none => match x, y.items st with
      | .d (.str c), none => (match y with
        | .d (.str z) => if c.cps.toList.length = 1 then okR (.bl (if f = .inn then decide ((c.cps.toList.headD 0) ∈ z.cps.toList) else !decide ((c.cps.toList.headD 0) ∈ z.cps.toList))) st else .bad
        | _ => .bad)
      | .d k, some xs => if D.plain 40 k && D.plains 40 xs then okR (.bl (if f = .inn then xs.any fun z => PyData.eqv z.py k.py else !(xs.any fun z => PyData.eqv z.py k.py))) st else .bad
      | _, _ => .bad
  | .item => match x, y with
    | .d (.str z), .d (.int i) => if z.length ≤ sizeLine then (match atD z.cps.toList i with | some c => okR (.str ⟨#[c]⟩) st | none => .bad) else .bad
    | x, .d k => match x.kvs st with
      | some (t, kvs) => if keyOk t k then (match kvGet kvs k with | some v => okR v st | none => .bad) else .bad
      | none => match x.items st, k with
        | some xs, .int i => (match atD xs i with | some v => okR v st | none => .bad)
        | _, _ => .bad
    | _, _ => .bad
  | .append => match x with
    | .d (.ref n) =>
      (match y.toD st with
      | some (v, st) => (match St.get st n with
        | some (.lst xs) => if xs.length < sizeLine then setCell K st n (.lst (xs ++ [v])) (K.may n v) .non else .bad
        | _ => .bad)
      | none => .bad)
    | _ => .bad
  | .popAt => match x, y with
    | .d (.ref n), .d (.int i) => (match St.get st n with
      | some (.lst xs) => if decide (-(2 ^ 63) ≤ i) && decide (i < 2 ^ 63) then (match ixD xs.length i with
        | some k => (match xs[k]? with | some v => setCell K st n (.lst (xs.eraseIdx k)) true v | none => .bad)
        | none => .bad) else .bad
      | _ => .bad)
    | _, _ => .bad
  | .get1 => match x.kvs st, y with
    | some (t, kvs), .d k => if keyOk t k then okR ((kvGet kvs k).getD .non) st else .bad
    | _, _ => .bad
  | .index => match x.lst? st, y with
    | some xs, .d k => if D.plain 40 k && D.plains 40 xs then (match xs.findIdx? fun z => PyData.eqv z.py k.py with | some j => okR (.int j) st | none => .bad) else .bad
    | _, _ => .bad
  | .tindex => match x.tup?, y with
    | some xs, .d (.str z) => (match D.strs xs with
      | some ys => (match ys.findIdx? fun w => decide (w = z) with | some j => okR (.int j) st | none => .bad)
      | none => .bad)
    | _, _ => .bad
  | .maxd => match x.lst? st, y with
    | some xs, .d (.int j) => (match D.ints xs with | some ns => okR (.int ((ns.max? : Option Int).getD j)) st | none => .bad)
    | _, _ => .bad
  | .min2 => match x, y with | .d (.int i), .d (.int j) => okR (.int (if j < i then j else i)) st | _, _ => .bad
  | .max2 => match x, y with | .d (.int i), .d (.int j) => okR (.int (if i < j then j else i)) st | _, _ => .bad
  | .join => match x, y.items st with
    | .d (.str z), some xs => (match D.strs xs with
      | some ys => if (ys.map (·.length)).sum + ys.length * z.length ≤ 16777216 then okR (.str (Str.join z ys)) st else .bad
      | none => .bad)
    | _, _ => .bad

def pre3 (f : P3) (x : R) (st : St) : Bool :=
  match f with
  | .get2 => (x.kvs st).isSome
  | .insert => (match x with | .d (.ref n) => (match St.get st n with | some (.lst _) => true | _ => false) | _ => false)
  | _ => true
def ev3 (f : P3) (K : Ct) (x y z : R) (st : St) : Out R :=
  match f with
  | .get2 => match x.kvs st, y, z with
    | some (t, kvs), .d k, .d v => if keyOk t k then okR ((kvGet kvs k).getD v) st else .bad
    | _, _, _ => .bad
  | .insert => match x, y with
    | .d (.ref n), .d (.int i) =>
      (match z.toD st with
      | some (v, st) => (match St.get st n with
        | some (.lst xs) => if 0 ≤ i ∧ i < 2 ^ 63 ∧ xs.length < sizeLine then setCell K st n (.lst (xs.take i.toNat ++ [v] ++ xs.drop i.toNat)) (K.may n v) .non else .bad
        | _ => .bad)
      | none => .bad)
    | _, _ => .bad
  | .min3 => match x, y, z with | .d (.int a), .d (.int b), .d (.int c) => okR (.int (min (min a b) c)) st | _, _, _ => .bad
  | .max3 => match x, y, z with | .d (.int a), .d (.int b), .d (.int c) => okR (.int (max (max a b) c)) st | _, _, _ => .bad

/-- e[lo:hi] -/
def evSl (x : R) (lo hi : Option Int) (st : St) : Out R :=
  match x with
  | .d (.str z) => if z.length ≤ sizeLine then okR (.str ⟨(cutL z.cps.toList lo hi).toArray⟩) st else .bad
  | .d (.tup xs) => okR (.tup (cutL xs lo hi)) st
  | x => match x.lst? st with
    | some xs => .ok (.fl (cutL xs lo hi)) st
    | none => .bad

def fsPut : Fs → Nat → D → Fs
  | [], f, v => [(f, v)]
  | p :: r, f, v => if p.1 = f then (f, v) :: r else p :: fsPut r f v
/-- targets -/
def setAll : List Nat → List D → Env → Env
  | i :: is, v :: vs, σ => setAll is vs (σ.set i (some v))
  | _, _, σ => σ
def Tg.put (tg : Tg) (v : D) (σ : Env) : Option Env :=
  match tg with
  | .one i => some (σ.set i (some v))
  | .many is => match v with
    | .tup ds => if ds.length = is.length then some (setAll is ds σ) else none
    | _ => none
/-- a walked list stays as it is -/
def still (g : Option (Nat × List D)) (st : St) : Bool :=
  match g with
  | none => true
  | some (n, xs) => decide (St.get st n = some (.lst xs))
def guardOf (x : R) (xs : List D) : Option (Nat × List D) :=
  match x with
  | .d (.ref n) => some (n, xs)
  | _ => none

/-- what raises is not carried -/
def Out.noErr {α : Type} (m : Out α) : Out α :=
  match m with
  | .ok a st => .ok a st
  | _ => .bad
/-- a comprehension's turns: the items made -/
def lcRun (g : St → Bool) (step : D → St → Out (Option D)) : List D → St → Out (List D)
  | [], st => if g st then .ok [] st else .bad
  | x :: xs, st => if g st then (step x st).bind fun o st1 => (lcRun g step xs st1).bind fun ys st2 => .ok (o.toList ++ ys) st2 else .bad
def forRun (g : St → Bool) (body : D → Env → St → Fl) : List D → Env → St → Fl
  | [], σ, st => if g st then .nx σ st else .bad
  | x :: xs, σ, st => if g st then (match body x σ st with
    | .nx σ' st' => forRun g body xs σ' st'
    | .ct σ' st' => forRun g body xs σ' st'
    | .bk σ' st' => .nx σ' st'
    | .rt r st' => .rt r st'
    | .er x σ' st' => .er x σ' st'
    | .bad => .bad) else .bad
def whRun (t : Env → St → Out Bool) (body : Env → St → Fl) : Nat → Env → St → Fl
  | 0, _, _ => .bad
  | k + 1, σ, st => match t σ st with
    | .ok true st1 => (match body σ st1 with
      | .nx σ' st' => whRun t body k σ' st'
      | .ct σ' st' => whRun t body k σ' st'
      | .bk σ' st' => .nx σ' st'
      | .rt r st' => .rt r st'
      | .er x σ' st' => .er x σ' st'
      | .bad => .bad)
    | .ok false st1 => .nx σ st1
    | .err x st1 => .er x σ st1
    | .bad => .bad

/-- what a def is: parameters, slots, body; leaky: what it makes is its caller's -/
structure Fn where
  np : Nat
  ns : Nat
  body : Ss
  leaky : Bool := false
structure Tb where
  fn : Nat → Option Fn
  con : Nat → D
  init : Nat → Option Nat
  wh : Nat

/-- the end of a call that keeps its cells to itself -/
def leave (K : Ct) : Fl → Out R
  | .nx _ st => .ok (.d .non) (St.cut K.base st)
  | .rt (.fl xs) st => if D.unders K.base xs then .ok (.fl xs) (St.cut K.base st) else .bad
  | .rt (.fd t kvs) st => if D.unders K.base (kvs.map (·.2)) then .ok (.fd t kvs) (St.cut K.base st) else .bad
  | .rt (.d x) st => if x.under K.base then .ok (.d x) (St.cut K.base st) else (match x with
    | .ref n => (match St.get st n with
      | some (.lst xs) => if D.unders K.base xs then .ok (.fl xs) (St.cut K.base st) else .bad
      | some (.dic t kvs) => if D.unders K.base (kvs.map (·.2)) then .ok (.fd t kvs) (St.cut K.base st) else .bad
      | _ => .bad)
    | _ => .bad)
  | .er x _ st => if (match x.val with | none => true | some d => d.flat) then .err x (St.cut K.base st) else .bad
  | _ => .bad
def leaveL : Fl → Out R
  | .nx _ st => .ok (.d .non) st
  | .rt r st => .ok r st
  | .er x _ st => if (match x.val with | none => true | some d => d.flat) then .err x st else .bad
  | _ => .bad

abbrev Calls := Nat → Ct → List D → St → Out R

section
variable (F : Calls) (tb : Tb)
mutual
def denE (K : Ct) (e : E) (σ : Env) (st : St) : Out R :=
  match e with
  | .var i => (match σ[i]? with | some (some x) => okR x st | _ => .bad)
  | .lit x => okR x st
  | .con g => (match tb.con g with | .tup ds => .ok (.kt ds) st | .frz _ => .bad | x => okR x st)
  | .p1 f a => (denE K a σ st).bind fun x st => ev1 f K x st
  | .p2 f a b => (denE K a σ st).bind fun x st => if pre2 f x st then (denE K b σ st).bind fun y st => ev2 f K x y st else .bad
  | .p3 f a b c => (denE K a σ st).bind fun x st => if pre3 f x st then (denE K b σ st).bind fun y st => (denE K c σ st).bind fun z st => ev3 f K x y z st else .bad
  | .chain f g a b c => (denE K a σ st).bind fun x st => (denE K b σ st).bind fun y st => (ev2 f K x y st).bind fun t st => (match t with
    | .d (.bl true) => (denE K c σ st).bind fun z st => ev2 g K y z st
    | .d (.bl false) => okR (.bl false) st
    | _ => .bad)
  | .tup es => (denEs K es σ st).bind fun xs st => if xs.length ≤ sizeLine then okR (.tup xs) st else .bad
  | .lst es => (denEs K es σ st).bind fun xs st => if xs.length ≤ sizeLine then .ok (.fl xs) st else .bad
  | .dnew t => .ok (.fd t []) st
  | .slc a lo hi => (denE K a σ st).bind fun x st => (denEo K lo σ st).bind fun l st => (denEo K hi σ st).bind fun h st => evSl x l h st
  | .one a => denE K a σ st
  | .and a b => (denE K a σ st).bind fun x st => (match x with | .d (.bl true) => denE K b σ st | .d (.bl false) => okR (.bl false) st | _ => .bad)
  | .or a b => (denE K a σ st).bind fun x st => (match x with | .d (.bl false) => denE K b σ st | .d (.bl true) => okR (.bl true) st | _ => .bad)
  | .not a => (denE K a σ st).bind fun x st => (match x with | .d (.bl b) => okR (.bl (!b)) st | _ => .bad)
  | .ife t a b => (denT K t σ st).bind fun c st => if c then denE K a σ st else denE K b σ st
  | .call f es => (match tb.fn f with
    | some fd => if fd.leaky then (denEs K es σ st).bind fun xs st => F f K xs st
      else (denEs (K.sub st) es σ st).bind fun xs st1 => F f (K.sub st) xs st1
    | none => .bad)
  | .meth f o es => (match tb.fn f with
    | some fd => if fd.leaky then (denE K o σ st).bind fun x st => (denEs K es σ st).bind fun xs st => (match x with | .d y => F f K (y :: xs) st | _ => .bad)
      else (denE (K.sub st) o σ st).bind fun x st1 => (denEs (K.sub st) es σ st1).bind fun xs st2 => (match x with | .d y => F f (K.sub st) (y :: xs) st2 | _ => .bad)
    | none => .bad)
  | .make c es => (denEs K es σ st).bind fun xs st => (match tb.init c with
    | some f => (F f K (.ref st.length :: xs) (.ins c [] :: st)).bind fun r st1 => (match r with | .d .non => okR (.ref st.length) st1 | _ => .bad)
    | none => .bad)
  | .fld o f => (denE K o σ st).bind fun x st => (match x with
    | .d (.ref n) => (match St.get st n with
      | some (.ins _ fs) => (match fs.lookup f with | some v => okR v st | none => .bad)
      | _ => .bad)
    | _ => .bad)
  | .lc e tg it c => (denIt K it σ st).bind fun ig st => (lcRun (still ig.2) (fun x st => match tg.put x σ with
    | some σ' => (denC K c σ' st).bind fun b st => if b then (denE K e σ' st).bind fun r st => (match r.toD st with | some (x, st) => .ok (some x) st | none => .bad) else .ok none st
    | none => .bad) ig.1 st).noErr.bind fun ys st => if ys.length ≤ sizeLine then .ok (.fl ys) st else .bad
  | .lof t it => (denIt K it σ st).bind fun ig st => (match ig.2 with
    | none => if ig.1.length ≤ 16777216 then (if t then okR (.tup ig.1) st else .ok (.fl ig.1) st) else .bad
    | some _ => .bad)
  | .dsp kvs => (denEs K kvs σ st).bind fun xs st => (match D.pairUp xs with
    | some ps => if ps.length ≤ 15 then .ok (.fd false (kvMerge [] ps)) st else .bad
    | none => .bad)
  | .fz e => (denE K e σ st).bind fun r st => .ok r.frz st
  | .pt e => (denE K e σ st).bind fun r st => (match r.lst? st with | some xs => okR (.ptup xs) st | none => .bad)
  | .dt e => (denE K e σ st).bind fun r st => ev1 .dct K r st
  | .cget g k => (match tb.con g with | .frz ds => (denE K k σ st).bind fun r st => (match r with | .d (.str z) => (match D.dcGet ds z with | some u => okR (.str u) st | none => .bad) | _ => .bad) | _ => .bad)
/-- a test -/
def denT (K : Ct) (e : E) (σ : Env) (st : St) : Out Bool :=
  match e with
  | .one a => denT K a σ st
  | .and a b => (denT K a σ st).bind fun x st => if x then denT K b σ st else .ok false st
  | .or a b => (denT K a σ st).bind fun x st => if x then .ok true st else denT K b σ st
  | .not a => (denT K a σ st).bind fun x st => .ok (!x) st
  | .ife _ _ _ => .bad
  | e => (denE K e σ st).bind R.test
def denC (K : Ct) (c : Eo) (σ : Env) (st : St) : Out Bool :=
  match c with
  | .no => .ok true st
  | .yes e => denT K e σ st
def denEo (K : Ct) (o : Eo) (σ : Env) (st : St) : Out (Option Int) :=
  match o with
  | .no => .ok none st
  | .yes e => (denE K e σ st).bind fun r st => (match r with | .d (.int i) => .ok (some i) st | _ => .bad)
def denEs (K : Ct) (es : Es) (σ : Env) (st : St) : Out (List D) :=
  match es with
  | .nil => .ok [] st
  | .cons e es => (denE K e σ st).bind fun r st => (match r.toD st with | some (x, st) => (denEs K es σ st).bind fun xs st2 => .ok (x :: xs) st2 | none => .bad)
def denIt (K : Ct) (it : It) (σ : Env) (st : St) : Out (List D × Option (Nat × List D)) :=
  match it with
  | .seq e => (denE K e σ st).bind fun r st => (match r.items st with | some xs => .ok (xs, guardOf r xs) st | none => .bad)
  | .range1 a => (denE K a σ st).bind fun r st => (match r with
    | .d (.int n) => if -(2 ^ 62) ≤ n ∧ n < 2 ^ 62 then .ok ((List.range n.toNat).map fun (i : Nat) => D.int i, none) st else .bad
    | _ => .bad)
  | .range2 a b => (denE K a σ st).bind fun r st => (denE K b σ st).bind fun q st => (match r, q with
    | .d (.int m), .d (.int n) => if -(2 ^ 62) ≤ m ∧ m < 2 ^ 62 ∧ -(2 ^ 62) ≤ n ∧ n < 2 ^ 62 then .ok ((List.range (n - m).toNat).map fun (i : Nat) => D.int (m + i), none) st else .bad
    | _, _ => .bad)
  | .zipS a b => (denE K a σ st).bind fun r st => (denE K b σ st).bind fun q st => (match r.walk st, q.walk st with
    | some xs, some ys => if (guardOf r xs).isNone && (guardOf q ys).isNone then .ok (List.zipWith (fun x y => D.tup [x, y]) xs ys, none) st else .bad
    | _, _ => .bad)
  | .enum a => (denE K a σ st).bind fun r st => (match r.walk st with | some xs => .ok ((xs.zipIdx).map fun p => D.tup [.int p.2, p.1], guardOf r xs) st | none => .bad)
  | .zip a b => (denE K a σ st).bind fun r st => (denE K b σ st).bind fun q st => (match r.items st, q.items st with
    | some xs, some ys => (match guardOf r xs, guardOf q ys with
      | some _, some _ => .bad
      | some g, none => if r.tup?.isSome == q.tup?.isSome then .ok (List.zipWith (fun x y => D.tup [x, y]) xs ys, some g) st else .bad
      | none, g => if r.tup?.isSome == q.tup?.isSome then .ok (List.zipWith (fun x y => D.tup [x, y]) xs ys, g) st else .bad)
    | _, _ => .bad)
  | .rev a => (denE K a σ st).bind fun r st => (match r.items st with | some xs => .ok (xs.reverse, guardOf r xs) st | none => .bad)
  | .str a => (denE K a σ st).bind fun r st => (match r with | .d (.str z) => .ok (z.cps.toList.map fun c => D.str ⟨#[c]⟩, none) st | _ => .bad)
  | .keys _ => .bad
end

def Out.fl (m : Out R) (σ : Env) (f : R → St → Fl) : Fl :=
  match m with
  | .ok r st => f r st
  | .err x st => .er x σ st
  | .bad => .bad

/-- a op= b -/
def augV (f : P2) (a b : Int) : Option Int :=
  match f with
  | .add => some (a + b)
  | .sub => some (a - b)
  | _ => none
/-- x[k] = y -/
def setIx (K : Ct) (x k : R) (y : D) (σ : Env) (st : St) : Fl :=
  match x, k with
  | .d (.ref n), .d k => (match St.get st n with
    | some (.lst xs) => (match k with
      | .int z => (match ixD xs.length z with
        | some j => if K.may n y then .nx σ (St.set st n (.lst (xs.set j y))) else .bad
        | none => .bad)
      | _ => .bad)
    | some (.dic t kvs) => if keyOk t k && K.may n y && decide (kvs.length < sizeLine) then .nx σ (St.set st n (.dic t (kvPut kvs k y))) else .bad
    | _ => .bad)
  | _, _ => .bad
/-- x.f = y -/
def setFld (K : Ct) (x : R) (f : Nat) (y : D) (σ : Env) (st : St) : Fl :=
  match x with
  | .d (.ref n) => (match St.get st n with
    | some (.ins c fs) => if K.may n y && decide (fs.length < 1000) then .nx σ (St.set st n (.ins c (fsPut fs f y))) else .bad
    | _ => .bad)
  | _ => .bad
mutual
def denS (K : Ct) (s : S) (σ : Env) (st : St) : Fl :=
  match s with
  | .pass => .nx σ st
  | .doc => .nx σ st
  | .expr e => (denE F tb K e σ st).fl σ fun _ st => .nx σ st
  | .ret e => (denE F tb K e σ st).fl σ fun r st => .rt r st
  | .retN => .rt (.d .non) st
  | .asg tg e => (denE F tb K e σ st).fl σ fun r st => (match r.toD st with | some (x, st) => (match tg.put x σ with | some σ' => .nx σ' st | none => .bad) | none => .bad)
  | .par i j a b => (denE F tb K a σ st).fl σ fun r st => (match r.toD st with
    | some (x, st) => (denE F tb K b σ st).fl σ fun q st => (match q.toD st with
      | some (y, st) => .nx ((σ.set i (some x)).set j (some y)) st
      | none => .bad)
    | none => .bad)
  | .aug i f e => (match σ[i]? with
    | some (some x) => (denE F tb K e σ st).fl σ fun r st => (match x, r with
      | .int a, .d (.int b) => (match augV f a b with | some z => .nx (σ.set i (some (.int z))) st | none => .bad)
      | _, _ => .bad)
    | _ => .bad)
  | .setix o i v => (denE F tb K v σ st).fl σ fun r st => (match r.toD st with
    | some (y, st) => (denE F tb K o σ st).fl σ fun x st => (denE F tb K i σ st).fl σ fun k st => setIx K x k y σ st
    | none => .bad)
  | .setfld o f v => (denE F tb K v σ st).fl σ fun r st => (match r.toD st with
    | some (y, st) => (denE F tb K o σ st).fl σ fun x st => setFld K x f y σ st
    | none => .bad)
  | .augfld _ _ _ _ => .bad
  | .augix _ _ _ _ => .bad
  | .iff t a b => (match denT F tb K t σ st with
    | .ok true st => denSs K a σ st
    | .ok false st => denSs K b σ st
    | .err x st => .er x σ st
    | .bad => .bad)
  | .whl t b => whRun (fun σ st => denT F tb K t σ st) (fun σ st => denSs K b σ st) tb.wh σ st
  | .forr tg it b => (match denIt F tb K it σ st with
    | .ok ig st => forRun (still ig.2) (fun x σ st => match tg.put x σ with | some σ' => denSs K b σ' st | none => .bad) ig.1 σ st
    | .err x st => .er x σ st
    | .bad => .bad)
  | .raise c v => (match v with
    | .no => .er ⟨c, none⟩ σ st
    | .yes e => (denE F tb K e σ st).fl σ fun r st => (match r with | .d x => .er ⟨c, some x⟩ σ st | _ => .bad))
def denSs (K : Ct) (ss : Ss) (σ : Env) (st : St) : Fl :=
  match ss with
  | .nil => .nx σ st
  | .cons s ss => (match denS K s σ st with
    | .nx σ' st' => denSs K ss σ' st'
    | f => f)
end
end

/-- the defs of a table, to a depth -/
def runF (tb : Tb) : Nat → Calls
  | 0 => fun _ _ _ _ => .bad
  | n + 1 => fun f K xs st => match tb.fn f with
    | some fd => if xs.length = fd.np then
        (if fd.leaky then leaveL else leave K) (denSs (runF tb n) tb K fd.body (xs.map some ++ List.replicate (fd.ns - fd.np) none) st) else .bad
    | none => .bad
end L3
/-! L3C: plain data in the abstract heap -/
namespace L3
open PySem L2 PySem.Spec PyProof.Rows

/-- what is fixed in a law -/
structure Gam where
  K : PySem.W.Frag
  cls : Nat → Addr
  fnm : Nat → Str
  inj : ∀ i j, fnm i = fnm j → i = j

/-- a list that nobody writes -/
def FrzL (K : PySem.W.Frag) (H : Hp) (a : Addr) (xs : List V) : Prop :=
  (∃ o, H a = some (.frz o (.lst xs))) ∨
    ∃ (o : Obj) (its : Array Value) (n : Nat), K.lookup a = some o ∧ o.cls = .type "list" ∧ o.dict = none ∧ o.data = .seq its n ∧ its.size ≤ sizeLine ∧ Vals xs its.toList
theorem FrzL.sq {K : PySem.W.Frag} {H : Hp} {a : Addr} {xs : List V} (h : FrzL K H a xs) : SqL K H a xs := by
  rcases h with ⟨o, h⟩ | h
  · exact .inl (.inr ⟨o, h⟩)
  · exact .inr h

/-- a tuple that stands alone: its object is known and has no dict -/
def PTup (H : Hp) (a : Addr) (xs : List V) : Prop := ∃ o, o.dict = none ∧ H a = some (.frz o (.tup xs))
theorem PTup.sq {K : PySem.W.Frag} {H : Hp} {a : Addr} {xs : List V} (h : PTup H a xs) : SqT K H a xs := let ⟨o, _, e⟩ := h; .inl (.inr ⟨o, e⟩)
/-- a tuple of the text's top -/
def KTup (K : PySem.W.Frag) (a : Addr) (xs : List V) : Prop :=
  (∃ (o : Obj) (its : Array Value) (n : Nat), K.lookup a = some o ∧ o.cls = .type "tuple" ∧ o.data = .seq its n ∧ its.size ≤ sizeLine ∧ Vals xs its.toList) ∧ ∃ o, K.lookup a = some o ∧ o.cls = .type "tuple" ∧ o.dict = none
theorem KTup.sq {K : PySem.W.Frag} {H : Hp} {a : Addr} {xs : List V} (h : KTup K a xs) : SqT K H a xs := .inr h.1
mutual
/-- v stands for the data -/
def Rel (K : PySem.W.Frag) (ad : List Addr) (H : Hp) : D → V → Prop
  | .non, v => v = .non
  | .bl b, v => v = .bl b
  | .int i, v => v = .int i
  | .str x, v => v = .str x
  | .ref n, v => ∃ a, pick ad n = some a ∧ v = .ref a
  | .tup ds, v => ∃ a vs, v = .ref a ∧ H a = some (.tup vs) ∧ Rels K ad H ds vs
  | .frz ds, v => ∃ a vs, v = .ref a ∧ FrzL K H a vs ∧ Rels K ad H ds vs
  | .ptup ds, v => ∃ a vs, v = .ref a ∧ PTup H a vs ∧ Rels K ad H ds vs
def Rels (K : PySem.W.Frag) (ad : List Addr) (H : Hp) : List D → List V → Prop
  | [], vs => vs = []
  | d :: ds, vs => ∃ v r, vs = v :: r ∧ Rel K ad H d v ∧ Rels K ad H ds r
end
section
variable {K : PySem.W.Frag} {ad ad' : List Addr} {H H' : Hp}
theorem Rels.length : ∀ {ds : List D} {vs : List V}, Rels K ad H ds vs → ds.length = vs.length
  | [], vs, h => by simp only [Rels] at h; subst h; rfl
  | d :: ds, vs, h => by
    simp only [Rels] at h
    obtain ⟨v, r, rfl, _, h⟩ := h
    simp [Rels.length h]
theorem Rels.get : ∀ {ds : List D} {vs : List V} {i : Nat} {d : D}, Rels K ad H ds vs → ds[i]? = some d → ∃ v, vs[i]? = some v ∧ Rel K ad H d v
  | [], _, _, _, _, e => by simp at e
  | d :: ds, vs, i, x, h, e => by
    simp only [Rels] at h
    obtain ⟨v, r, rfl, h1, h⟩ := h
    cases i with
    | zero => simp at e; subst e; exact ⟨v, rfl, h1⟩
    | succ i => obtain ⟨w, a, b⟩ := Rels.get (i := i) h (by simpa using e); exact ⟨w, by simpa using a, b⟩
theorem Rels.getV : ∀ {ds : List D} {vs : List V} {i : Nat} {v : V}, Rels K ad H ds vs → vs[i]? = some v → ∃ d, ds[i]? = some d ∧ Rel K ad H d v
  | [], _, _, _, h, e => by simp only [Rels] at h; subst h; simp at e
  | d :: ds, vs, i, x, h, e => by
    simp only [Rels] at h
    obtain ⟨v, r, rfl, h1, h⟩ := h
    cases i with
    | zero => simp at e; subst e; exact ⟨d, rfl, h1⟩
    | succ i => obtain ⟨w, a, b⟩ := Rels.getV (i := i) h (by simpa using e); exact ⟨w, by simpa using a, b⟩
theorem Rels.append : ∀ {ds es : List D} {vs us : List V}, Rels K ad H ds vs → Rels K ad H es us → Rels K ad H (ds ++ es) (vs ++ us)
  | [], _, _, _, h, q => by simp only [Rels] at h; subst h; exact q
  | d :: ds, _, _, _, h, q => by
    simp only [Rels] at h
    obtain ⟨v, r, rfl, h1, h⟩ := h
    simp only [List.cons_append, Rels]
    exact ⟨v, _, rfl, h1, Rels.append h q⟩
theorem Rels.set : ∀ {ds : List D} {vs : List V} {d : D} {v : V} (i : Nat), Rels K ad H ds vs → Rel K ad H d v → Rels K ad H (ds.set i d) (vs.set i v)
  | [], _, _, _, _, h, _ => by simp only [Rels] at h; subst h; simp [Rels]
  | x :: ds, _, _, _, i, h, q => by
    simp only [Rels] at h
    obtain ⟨v, r, rfl, h1, h⟩ := h
    cases i with
    | zero => simp only [List.set_cons_zero, Rels]; exact ⟨_, _, rfl, q, h⟩
    | succ i => simp only [List.set_cons_succ, Rels]; exact ⟨_, _, rfl, h1, Rels.set i h q⟩
theorem Rels.drop : ∀ {ds : List D} {vs : List V} (n : Nat), Rels K ad H ds vs → Rels K ad H (ds.drop n) (vs.drop n)
  | _, _, 0, h => h
  | [], _, n + 1, h => by simp only [Rels] at h; subst h; simp [Rels]
  | d :: ds, _, n + 1, h => by
    simp only [Rels] at h
    obtain ⟨v, r, rfl, h1, h⟩ := h
    exact Rels.drop n h
theorem Rels.take : ∀ {ds : List D} {vs : List V} (n : Nat), Rels K ad H ds vs → Rels K ad H (ds.take n) (vs.take n)
  | _, _, 0, h => by simp [Rels]
  | [], _, n + 1, h => by simp only [Rels] at h; subst h; simp [Rels]
  | d :: ds, _, n + 1, h => by
    simp only [Rels] at h
    obtain ⟨v, r, rfl, h1, h⟩ := h
    simp only [List.take_succ_cons, Rels]
    exact ⟨v, _, rfl, h1, Rels.take n h⟩
theorem Rels.reverse {ds : List D} {vs : List V} (h : Rels K ad H ds vs) : Rels K ad H ds.reverse vs.reverse := by
  induction ds generalizing vs with
  | nil => simp only [Rels] at h; subst h; simp [Rels]
  | cons d ds ih =>
    simp only [Rels] at h
    obtain ⟨v, r, rfl, h1, h⟩ := h
    rw [List.reverse_cons, List.reverse_cons]
    exact Rels.append (ih h) (by simp only [Rels]; exact ⟨v, [], rfl, h1, rfl⟩)
theorem Rels.eraseIdx : ∀ {ds : List D} {vs : List V} (i : Nat), Rels K ad H ds vs → Rels K ad H (ds.eraseIdx i) (vs.eraseIdx i)
  | [], _, i, h => by simp only [Rels] at h; subst h; simp [Rels]
  | x :: ds, _, i, h => by
    simp only [Rels] at h
    obtain ⟨v, r, rfl, h1, h⟩ := h
    cases i with
    | zero => simpa using h
    | succ i => simp only [List.eraseIdx_cons_succ, Rels]; exact ⟨_, _, rfl, h1, Rels.eraseIdx i h⟩
theorem Rels.dropLast {ds : List D} {vs : List V} (h : Rels K ad H ds vs) : Rels K ad H ds.dropLast vs.dropLast := by
  rw [List.dropLast_eq_take, List.dropLast_eq_take, h.length]
  exact h.take _
theorem rels_ints : ∀ {ds : List D} {vs : List V} {ns : List Int}, Rels K ad H ds vs → D.ints ds = some ns → vs = ns.map V.int
  | [], _, _, h, e => by simp only [Rels] at h; simp only [D.ints, Option.some.injEq] at e; subst h; subst e; rfl
  | d :: ds, _, _, h, e => by
    simp only [Rels] at h
    obtain ⟨v, r, rfl, h1, h⟩ := h
    cases d <;> simp only [D.ints, reduceCtorEq] at e
    simp only [Option.map_eq_some_iff] at e
    obtain ⟨ms, e1, rfl⟩ := e
    simp only [Rel] at h1
    rw [rels_ints h e1, h1]; rfl
theorem rels_strs : ∀ {ds : List D} {vs : List V} {ns : List Str}, Rels K ad H ds vs → D.strs ds = some ns → vs = ns.map V.str
  | [], _, _, h, e => by simp only [Rels] at h; simp only [D.strs, Option.some.injEq] at e; subst h; subst e; rfl
  | d :: ds, _, _, h, e => by
    simp only [Rels] at h
    obtain ⟨v, r, rfl, h1, h⟩ := h
    cases d <;> simp only [D.strs, reduceCtorEq] at e
    simp only [Option.map_eq_some_iff] at e
    obtain ⟨ms, e1, rfl⟩ := e
    simp only [Rel] at h1
    rw [rels_strs h e1, h1]; rfl
theorem rels_bls : ∀ {ds : List D} {vs : List V} {ns : List Bool}, Rels K ad H ds vs → D.bls ds = some ns → vs = ns.map V.bl
  | [], _, _, h, e => by simp only [Rels] at h; simp only [D.bls, Option.some.injEq] at e; subst h; subst e; rfl
  | d :: ds, _, _, h, e => by
    simp only [Rels] at h
    obtain ⟨v, r, rfl, h1, h⟩ := h
    cases d <;> simp only [D.bls, reduceCtorEq] at e
    simp only [Option.map_eq_some_iff] at e
    obtain ⟨ms, e1, rfl⟩ := e
    simp only [Rel] at h1
    rw [rels_bls h e1, h1]; rfl
theorem rels_of_ints : ∀ (ns : List Int), Rels K ad H (ns.map D.int) (ns.map V.int)
  | [] => by simp [Rels]
  | n :: ns => by simp only [List.map_cons, Rels]; exact ⟨_, _, rfl, by simp only [Rel], rels_of_ints ns⟩
end

/-! ### from one state to a later one -/
structure Mv (ad : List Addr) (H : Hp) (ad' : List Addr) (H' : Hp) : Prop where
  ext : ∃ p, ad' = p ++ ad
  tups : ∀ b xs, H b = some (.tup xs) → H' b = some (.tup xs)
  frzs : ∀ b o u, H b = some (.frz o u) → H' b = some (.frz o u)
theorem Mv.app (p ad : List Addr) (H : Hp) : Mv ad H (p ++ ad) H := ⟨⟨p, rfl⟩, fun _ _ h => h, fun _ _ _ h => h⟩
structure Step (ad : List Addr) (H : Hp) (ad' : List Addr) (H' : Hp) : Prop where
  pre : ∃ p, ad' = p ++ ad ∧ ∀ b ∈ p, H b = none
  keep : ∀ b o, H b = some o → b ∉ ad → H' b = some o
  tups : ∀ b xs, H b = some (.tup xs) → H' b = some (.tup xs)
  frzs : ∀ b o u, H b = some (.frz o u) → H' b = some (.frz o u)
  some : ∀ b, H b ≠ none → H' b ≠ none
theorem Step.mv {ad ad' : List Addr} {H H' : Hp} (s : Step ad H ad' H') : Mv ad H ad' H' := ⟨let ⟨p, e, _⟩ := s.pre; ⟨p, e⟩, s.tups, s.frzs⟩
theorem Step.refl (ad : List Addr) (H : Hp) : Step ad H ad H := ⟨⟨[], rfl, by simp⟩, fun _ _ h _ => h, fun _ _ h => h, fun _ _ _ h => h, fun _ h => h⟩
theorem Step.trans {ad ad1 ad2 : List Addr} {H H1 H2 : Hp} (a : Step ad H ad1 H1) (b : Step ad1 H1 ad2 H2) : Step ad H ad2 H2 := by
  obtain ⟨p, e, hp⟩ := a.pre
  obtain ⟨q, e', hq⟩ := b.pre
  refine ⟨⟨q ++ p, by rw [e', e, List.append_assoc], fun c hc => ?_⟩, fun c o h hc => ?_, fun c xs h => b.tups c xs (a.tups c xs h), fun c o u h => b.frzs c o u (a.frzs c o u h), fun c h => b.some c (a.some c h)⟩
  · rcases List.mem_append.mp hc with z | z
    · cases r : H c with
      | none => rfl
      | some u => exact absurd (hq c z) (a.some c (by rw [r]; simp))
    · exact hp c z
  · refine b.keep c o (a.keep c o h hc) fun z => ?_
    rw [e] at z
    rcases List.mem_append.mp z with z | z
    · rw [hp c z] at h; cases h
    · exact hc z
theorem pick_lt {α : Type} : ∀ {l : List α} {n : Nat} {a : α}, pick l n = some a → n < l.length
  | [], _, _, h => by simp [pick] at h
  | c :: l, n, a, h => by
    simp only [pick] at h
    split at h
    · simp; omega
    · have := pick_lt h; simp; omega
theorem pick_some {α : Type} : ∀ {l : List α} {n : Nat}, n < l.length → ∃ a, pick l n = some a
  | [], _, h => by simp at h
  | c :: l, n, h => by
    simp only [pick]
    split
    · exact ⟨_, rfl⟩
    · exact pick_some (by simp at h; omega)
theorem pick_mem {α : Type} : ∀ {l : List α} {n : Nat} {a : α}, pick l n = some a → a ∈ l
  | [], _, _, h => by simp [pick] at h
  | c :: l, n, a, h => by
    simp only [pick] at h
    split at h
    · cases h; exact List.mem_cons_self
    · exact List.mem_cons_of_mem _ (pick_mem h)
theorem mem_pick {α : Type} : ∀ {l : List α} {a : α}, a ∈ l → ∃ n, pick l n = some a
  | c :: l, a, h => by
    by_cases e : a = c
    · exact ⟨l.length, by simp [pick, e]⟩
    · obtain ⟨n, q⟩ := mem_pick (List.mem_of_ne_of_mem e h)
      refine ⟨n, ?_⟩
      have := pick_lt q
      simp only [pick]
      rw [if_neg (by omega)]; exact q
theorem pick_app {α : Type} : ∀ {p l : List α} {n : Nat} {a : α}, pick l n = some a → pick (p ++ l) n = some a
  | [], _, _, _, h => h
  | c :: p, l, n, a, h => by
    have := pick_lt h
    simp only [List.cons_append, pick]
    rw [if_neg (by simp; omega)]
    exact pick_app h
theorem pick_app_lt {α : Type} {p l : List α} {n : Nat} (h : n < l.length) : pick (p ++ l) n = pick l n := by
  obtain ⟨a, e⟩ := pick_some h
  rw [e, pick_app e]
theorem pick_inj {α : Type} : ∀ {l : List α} {n m : Nat} {a : α}, l.Nodup → pick l n = some a → pick l m = some a → n = m
  | [], _, _, _, _, h, _ => by simp [pick] at h
  | c :: l, n, m, a, nd, h, h' => by
    simp only [pick] at h h'
    rw [List.nodup_cons] at nd
    split at h <;> split at h'
    · omega
    · cases h; exact absurd (pick_mem h') nd.1
    · cases h'; exact absurd (pick_mem h) nd.1
    · exact pick_inj nd.2 h h'
section
variable {K : PySem.W.Frag} {ad ad' : List Addr} {H H' : Hp}
theorem SqT.mv {a : Addr} {xs : List V} (s : Mv ad H ad' H') (h : SqT K H a xs) : SqT K H' a xs := by
  rcases h with (h | ⟨o, h⟩) | h
  · exact .inl (.inl (s.tups _ _ h))
  · exact .inl (.inr ⟨o, s.frzs _ _ _ h⟩)
  · exact .inr h
theorem FrzL.mv {a : Addr} {xs : List V} (s : Mv ad H ad' H') (h : FrzL K H a xs) : FrzL K H' a xs := by
  rcases h with ⟨o, h⟩ | h
  · exact .inl ⟨o, s.frzs _ _ _ h⟩
  · exact .inr h
theorem PTup.mv {a : Addr} {xs : List V} (s : Mv ad H ad' H') (h : PTup H a xs) : PTup H' a xs := let ⟨o, h0, h1⟩ := h; ⟨o, h0, s.frzs _ _ _ h1⟩
mutual
theorem Rel.mv (s : Mv ad H ad' H') : ∀ {d : D} {v : V}, Rel K ad H d v → Rel K ad' H' d v
  | .non, _, h => by simp only [Rel] at h ⊢; exact h
  | .bl _, _, h => by simp only [Rel] at h ⊢; exact h
  | .int _, _, h => by simp only [Rel] at h ⊢; exact h
  | .str _, _, h => by simp only [Rel] at h ⊢; exact h
  | .ref n, _, h => by
    simp only [Rel] at h ⊢
    obtain ⟨a, h1, h2⟩ := h
    obtain ⟨p, e⟩ := s.ext
    exact ⟨a, by rw [e]; exact pick_app h1, h2⟩
  | .tup ds, _, h => by
    simp only [Rel] at h ⊢
    obtain ⟨a, vs, e, h1, h2⟩ := h
    exact ⟨a, vs, e, s.tups _ _ h1, Rels.mv s h2⟩
  | .frz ds, _, h => by
    simp only [Rel] at h ⊢
    obtain ⟨a, vs, e, h1, h2⟩ := h
    exact ⟨a, vs, e, FrzL.mv s h1, Rels.mv s h2⟩
  | .ptup ds, _, h => by
    simp only [Rel] at h ⊢
    obtain ⟨a, vs, e, h1, h2⟩ := h
    exact ⟨a, vs, e, PTup.mv s h1, Rels.mv s h2⟩
theorem Rels.mv (s : Mv ad H ad' H') : ∀ {ds : List D} {vs : List V}, Rels K ad H ds vs → Rels K ad' H' ds vs
  | [], _, h => by simp only [Rels] at h ⊢; exact h
  | d :: ds, _, h => by
    simp only [Rels] at h ⊢
    obtain ⟨v, r, e, h1, h2⟩ := h
    exact ⟨v, r, e, Rel.mv s h1, Rels.mv s h2⟩
end
end
end L3
/-! L3D: cells in the abstract heap; what a run promises -/
namespace L3
open PySem L2 PySem.Spec PyProof.Rows

def keyK : D → Option Key
  | .int i => some (.inl i)
  | .str x => some (.inr x)
  | _ => none
def keysK : List D → Option (List Key)
  | [] => some []
  | d :: ds => (keyK d).bind fun k => (keysK ds).map (k :: ·)
def keyT : D → Option (List Key)
  | .tup ds => keysK ds
  | _ => none
/-- a dict's pairs -/
def Kv {κ : Type} (key : D → Option κ) (K : PySem.W.Frag) (ad : List Addr) (H : Hp) : Kvs → List (κ × V) → Prop
  | [], kv => kv = []
  | p :: r, kv => ∃ k v t, kv = (k, v) :: t ∧ key p.1 = some k ∧ Rel K ad H p.2 v ∧ Kv key K ad H r t
/-- an own object's attributes -/
def FsR (Γ : Gam) (ad : List Addr) (H : Hp) : Fs → List (Str × V) → Prop
  | [], fv => fv = []
  | p :: r, fv => ∃ v t, fv = (Γ.fnm p.1, v) :: t ∧ Rel Γ.K ad H p.2 v ∧ FsR Γ ad H r t
def atL (lk : List Nat) (n : Nat) (H : Hp) (a : Addr) (u : HO) : Prop := if n ∈ lk then ∃ o, H a = some (.frz o u) else H a = some u
theorem atL.rd {lk : List Nat} {n : Nat} {H : Hp} {a : Addr} {u : HO} (h : atL lk n H a u) : Rd H a u := by
  unfold atL at h
  split at h
  · exact .inr h
  · exact .inl h
theorem atL.free {lk : List Nat} {n : Nat} {H : Hp} {a : Addr} {u : HO} (h : atL lk n H a u) (hn : n ∉ lk) : H a = some u := by
  unfold atL at h
  rwa [if_neg hn] at h
theorem atL.some {lk : List Nat} {n : Nat} {H : Hp} {a : Addr} {u : HO} (h : atL lk n H a u) : H a ≠ none := by
  unfold atL at h
  split at h
  · obtain ⟨o, h⟩ := h; rw [h]; simp
  · rw [h]; simp
theorem atL.congr {lk : List Nat} {n : Nat} {H H' : Hp} {a : Addr} {u : HO} (h : atL lk n H a u) (e : H' a = H a) : atL lk n H' a u := by
  unfold atL at h ⊢
  rwa [e]
/-- the cell stands at a -/
def CellR (Γ : Gam) (lk : List Nat) (n : Nat) (ad : List Addr) (H : Hp) (a : Addr) : Cell → Prop
  | .lst xs => ∃ vs, atL lk n H a (.lst vs) ∧ Rels Γ.K ad H xs vs
  | .dic false kvs => ∃ kv, atL lk n H a (.dK kv) ∧ Kv keyK Γ.K ad H kvs kv
  | .dic true kvs => ∃ kv, atL lk n H a (.dT kv) ∧ Kv keyT Γ.K ad H kvs kv
  | .ins c fs => ∃ dx fv, H a = some (.ins (Γ.cls c) dx fv) ∧ FsR Γ ad H fs fv
structure Rep (Γ : Gam) (lk : List Nat) (ad : List Addr) (st : St) (H : Hp) : Prop where
  len : ad.length = st.length
  nd : ad.Nodup
  cell : ∀ n c, pick st n = some c → ∃ a, pick ad n = some a ∧ CellR Γ lk n ad H a c

def Cell.under (n : Nat) : Cell → Bool
  | .lst xs => D.unders n xs
  | .dic _ kvs => D.unders n (kvs.map (·.2))
  | .ins _ fs => D.unders n (fs.map (·.2))
/-- what lies ahead of a frame's own cells names none of them -/
structure Base (K : Ct) (st : St) : Prop where
  le : K.base ≤ st.length
  out : ∀ b ∈ K.out, b ≤ K.base
  cl : ∀ b ∈ K.base :: K.out, ∀ n c, n < b → pick st n = some c → c.under b = true

section
variable {Γ : Gam} {lk : List Nat} {ad ad' : List Addr} {H H' : Hp} {st : St} {κ : Type} {key : D → Option κ}
theorem Kv.mv (s : Mv ad H ad' H') : ∀ {kvs : Kvs} {kv : List (κ × V)}, Kv key Γ.K ad H kvs kv → Kv key Γ.K ad' H' kvs kv
  | [], _, h => h
  | p :: r, _, h => by
    simp only [Kv] at h ⊢
    obtain ⟨k, v, t, e, h1, h2, h3⟩ := h
    exact ⟨k, v, t, e, h1, Rel.mv s h2, Kv.mv s h3⟩
theorem FsR.mv (s : Mv ad H ad' H') : ∀ {fs : Fs} {fv : List (Str × V)}, FsR Γ ad H fs fv → FsR Γ ad' H' fs fv
  | [], _, h => h
  | p :: r, _, h => by
    simp only [FsR] at h ⊢
    obtain ⟨v, t, e, h2, h3⟩ := h
    exact ⟨v, t, e, Rel.mv s h2, FsR.mv s h3⟩
theorem CellR.mv {n : Nat} {a : Addr} {c : Cell} (s : Mv ad H ad' H') (e : H' a = H a) (h : CellR Γ lk n ad H a c) : CellR Γ lk n ad' H' a c := by
  cases c with
  | lst xs => obtain ⟨vs, h1, h2⟩ := h; exact ⟨vs, h1.congr e, Rels.mv s h2⟩
  | dic t kvs =>
    cases t with
    | false => obtain ⟨vs, h1, h2⟩ := h; exact ⟨vs, h1.congr e, Kv.mv s h2⟩
    | true => obtain ⟨vs, h1, h2⟩ := h; exact ⟨vs, h1.congr e, Kv.mv s h2⟩
  | ins c fs => obtain ⟨dx, fv, h1, h2⟩ := h; exact ⟨dx, fv, e.trans h1, FsR.mv s h2⟩
theorem CellR.some {n : Nat} {a : Addr} {c : Cell} (h : CellR Γ lk n ad H a c) : H a ≠ none := by
  cases c with
  | lst xs => obtain ⟨vs, h1, _⟩ := h; exact h1.some
  | dic t kvs => cases t <;> (obtain ⟨vs, h1, _⟩ := h; exact h1.some)
  | ins c fs => obtain ⟨dx, fv, h1, _⟩ := h; rw [h1]; simp
theorem CellR.notup {n : Nat} {a : Addr} {c : Cell} (h : CellR Γ lk n ad H a c) (xs : List V) : H a ≠ Option.some (.tup xs) := by
  have two : ∀ {u : HO}, atL lk n H a u → u ≠ .tup xs → H a ≠ Option.some (.tup xs) := fun {u} h1 ne q => by
    unfold atL at h1
    split at h1
    · obtain ⟨o, h1⟩ := h1; rw [h1] at q; cases q
    · rw [h1] at q; exact ne (Option.some.inj q)
  cases c with
  | lst xs => obtain ⟨vs, h1, _⟩ := h; exact two h1 (by intro q; cases q)
  | dic t kvs => cases t <;> (obtain ⟨vs, h1, _⟩ := h; exact two h1 (by intro q; cases q))
  | ins c fs => obtain ⟨dx, fv, h1, _⟩ := h; intro q; rw [h1] at q; cases q
theorem Rep.at (r : Rep Γ lk ad st H) {a : Addr} (h : a ∈ ad) : ∃ n c, pick ad n = Option.some a ∧ pick st n = Option.some c ∧ CellR Γ lk n ad H a c := by
  obtain ⟨n, e⟩ := mem_pick h
  obtain ⟨c, e'⟩ := pick_some (l := st) (n := n) (by have := pick_lt e; have := r.len; omega)
  obtain ⟨b, e2, q⟩ := r.cell n c e'
  rw [e] at e2; cases e2
  exact ⟨n, c, e, e', q⟩
theorem Rep.here (r : Rep Γ lk ad st H) {a : Addr} (h : a ∈ ad) : H a ≠ none := by
  obtain ⟨n, c, _, _, q⟩ := r.at h
  exact q.some
theorem Rep.out (r : Rep Γ lk ad st H) {a : Addr} (h : H a = none) : a ∉ ad := fun z => r.here z h
/-- the cells' own objects stand -/
theorem Rep.move (r : Rep Γ lk ad st H) (s : Step ad H ad H') (e : ∀ a ∈ ad, H' a = H a) : Rep Γ lk ad st H' :=
  ⟨r.len, r.nd, fun n c h => let ⟨a, h1, h2⟩ := r.cell n c h; ⟨a, h1, h2.mv s.mv (e a (pick_mem h1))⟩⟩
/-- a new object -/
theorem Rep.new (r : Rep Γ lk ad st H) {p : Addr} (hp : H p = none) (o : HO) : Step ad H ad (upd H p o) ∧ Rep Γ lk ad st (upd H p o) := by
  have s : Step ad H ad (upd H p o) := ⟨⟨[], rfl, by simp⟩, fun b u h _ => by rw [upd_ne (ne_of_none h hp)]; exact h, fun b u h => by rw [upd_ne (ne_of_none h hp)]; exact h,
    fun b o' u h => by rw [upd_ne (ne_of_none h hp)]; exact h, fun b h => by unfold upd; split <;> simp [h]⟩
  exact ⟨s, r.move s fun a ha => upd_ne fun z => r.out hp (z ▸ ha)⟩
theorem St.set_len : ∀ (st : St) (n : Nat) (c : Cell), (St.set st n c).length = st.length
  | [], _, _ => rfl
  | d :: st, n, c => by
    simp only [St.set]
    split
    · rfl
    · simp [St.set_len st n c]
theorem St.set_pick : ∀ (st : St) (n m : Nat) (c : Cell), pick (St.set st n c) m = if m = n ∧ n < st.length then Option.some c else pick st m
  | [], n, m, c => by simp [St.set, pick]
  | d :: st, n, m, c => by
    simp only [St.set]
    by_cases h : n = st.length
    · rw [if_pos h]
      simp only [pick, List.length_cons]
      by_cases e : m = st.length
      · rw [if_pos e, if_pos ⟨by omega, by omega⟩]
      · rw [if_neg e, if_neg (by omega), if_neg e]
    · rw [if_neg h]
      simp only [pick, List.length_cons, St.set_len, St.set_pick st n m c]
      by_cases e : m = st.length
      · rw [if_pos e, if_neg (by omega), if_pos e]
      · rw [if_neg e, if_neg e]
        by_cases q : m = n ∧ n < st.length
        · rw [if_pos q, if_pos ⟨q.1, by omega⟩]
        · rw [if_neg q, if_neg (by omega)]
/-- a cell's object changes -/
theorem Rep.write (r : Rep Γ lk ad st H) {n : Nat} {a : Addr} {c : Cell} {u u' : HO} (h1 : pick ad n = Option.some a) (h2 : H a = Option.some u) (nt : ∀ xs, u ≠ .tup xs) (nf : ∀ o w, u ≠ .frz o w)
    (h3 : ∀ ad' H', Step ad H ad' H' → H' a = Option.some u' → CellR Γ lk n ad' H' a c) : Step ad H ad (upd H a u') ∧ Rep Γ lk ad (St.set st n c) (upd H a u') := by
  have s : Step ad H ad (upd H a u') := ⟨⟨[], rfl, by simp⟩, fun b o h hb => by rw [upd_ne fun z => hb (by rw [z]; exact pick_mem h1)]; exact h,
    fun b xs h => by rw [upd_ne fun z => by subst z; rw [h2] at h; exact nt xs (Option.some.inj h)]; exact h,
    fun b o w h => by rw [upd_ne fun z => by subst z; rw [h2] at h; exact nf o w (Option.some.inj h)]; exact h,
    fun b h => by unfold upd; split <;> simp [h]⟩
  refine ⟨s, by rw [St.set_len]; exact r.len, r.nd, fun m d h => ?_⟩
  rw [St.set_pick] at h
  split at h
  · rename_i q
    obtain ⟨rfl, _⟩ := q
    cases h
    exact ⟨a, h1, h3 _ _ s upd_same⟩
  · rename_i q
    obtain ⟨b, e1, e2⟩ := r.cell m d h
    refine ⟨b, e1, e2.mv s.mv (upd_ne fun z => q ⟨?_, ?_⟩)⟩
    · subst z; exact pick_inj r.nd e1 h1
    · have := pick_lt h1; have := r.len; omega
/-- an object that nobody else holds becomes a cell -/
theorem Rep.push (r : Rep Γ lk ad st H) {a : Addr} {c : Cell} (ha : a ∉ ad) (h : CellR Γ lk st.length (a :: ad) H a c) : Rep Γ lk (a :: ad) (c :: st) H := by
  refine ⟨by simp [r.len], List.nodup_cons.mpr ⟨ha, r.nd⟩, fun n d e => ?_⟩
  simp only [pick, r.len] at e ⊢
  split at e
  · rename_i q
    cases e
    rw [if_pos q]
    exact ⟨a, rfl, q ▸ h⟩
  · rename_i q
    rw [if_neg q]
    obtain ⟨b, e1, e2⟩ := r.cell n d e
    exact ⟨b, e1, e2.mv (Mv.app [a] ad H) rfl⟩
end
end L3
/-! L3E: what a run promises; the context of a body -/
namespace L3
open PySem L2 PySem.Spec PyProof.Rows

/-- what the value of an expression is -/
def RR (Γ : Gam) (ad : List Addr) (H : Hp) : R → V → Prop
  | .d x, v => Rel Γ.K ad H x v
  | .fl xs, v => ∃ a vs, v = .ref a ∧ H a = some (.lst vs) ∧ a ∉ ad ∧ Rels Γ.K ad H xs vs
  | .kt xs, v => ∃ a vs, v = .ref a ∧ KTup Γ.K a vs ∧ Rels Γ.K ad H xs vs
  | .fd false kvs, v => ∃ a kv, v = .ref a ∧ H a = some (.dK kv) ∧ a ∉ ad ∧ Kv keyK Γ.K ad H kvs kv
  | .fd true kvs, v => ∃ a kv, v = .ref a ∧ H a = some (.dT kv) ∧ a ∉ ad ∧ Kv keyT Γ.K ad H kvs kv
def Fresh (H : Hp) : R → V → Prop
  | .d _, _ => True
  | .kt _, _ => True
  | _, v => ∀ a, v = .ref a → H a = none
def ExcR (Γ : Gam) (ad : List Addr) (H : Hp) (x : Exc) (c : Value) (d : Option Addr) : Prop :=
  c = .ref (Γ.cls x.cls) ∧ match x.val with
    | none => d = none
    | some y => ∃ a v, d = some a ∧ H a = some (.xd [(("number" : Str), v)]) ∧ Rel Γ.K ad H y v
/-- the cells, as they stand -/
structure Now (Γ : Gam) (K : Ct) (ad : List Addr) (st : St) (H : Hp) : Prop where
  rep : Rep Γ K.lk ad st H
  base : Base K st
  lk : ∀ n ∈ K.lk, n < st.length
theorem none_of {H H1 : Hp} (s : ∀ c, H c ≠ none → H1 c ≠ none) {a : Addr} (h : H1 a = none) : H a = none := by
  cases q : H a with
  | none => rfl
  | some u => exact absurd h (s a (by rw [q]; simp))
/-- a kind of results: told by the heap ahead, the cells' addresses, the heap behind -/
structure Val (α β : Type) where
  p : Hp → List Addr → Hp → α → β → Prop
  later : ∀ {H H1 : Hp} {ad : List Addr} {H' : Hp} {a : α} {b : β}, (∀ c, H c ≠ none → H1 c ≠ none) → p H1 ad H' a b → p H ad H' a b
def vR (Γ : Gam) : Val R V where
  p H ad H' r v := RR Γ ad H' r v ∧ Fresh H r v
  later := fun {H H1 ad H' r v} s h => ⟨h.1, by
    have h2 := h.2
    cases r with
    | d x => trivial
    | kt x => trivial
    | fl xs => exact fun a e => none_of s (h2 a e)
    | fd t kvs => exact fun a e => none_of s (h2 a e)⟩
def vL (Γ : Gam) : Val (List D) (List V) where
  p _ ad H' r v := Rels Γ.K ad H' r v
  later := fun _ h => h
def vB : Val Bool Bool where
  p _ _ _ r v := r = v
  later := fun _ h => h
def vO : Val (Option Int) (Option Int) where
  p _ _ _ r v := r = v
  later := fun _ h => h

def Good {α β : Type} (Γ : Gam) (K : Ct) (W : WX) (σ : L2.St) (ad : List Addr) (H : Hp) (val : Val α β) (o : Out α) (Q : β → Hp → Prop) : Prop :=
  match o with
  | .ok r st' => ∀ ad' H' v, Step ad H ad' H' → Now Γ K ad' st' H' → val.p H ad' H' r v → Q v H'
  | .err x st' => ∀ ad' H' c d, Step ad H ad' H' → Now Γ K ad' st' H' → ExcR Γ ad' H' x c d → W c d σ H'
  | .bad => False
def EnvR (Γ : Gam) (ad : List Addr) (H : Hp) (ρ : Env) (σ : L2.St) : Prop :=
  ρ.length = σ.length ∧ ∀ (i : Nat) (d : D), ρ[i]? = some (some d) → ∃ v, σ[i]? = some (some v) ∧ Rel Γ.K ad H d v
/-- a reading: the run's ends are wanted -/
def tG {α β : Type} (Γ : Gam) (K : Ct) (W : WX) (val : Val α β) (m : Env → St → Out α) : L2.St → Hp → (β → Hp → Prop) → Prop := fun σ H Q =>
  ∃ ad st ρ, Now Γ K ad st H ∧ EnvR Γ ad H ρ σ ∧ Good Γ K W σ ad H val (m ρ st) Q
section
variable {Γ : Gam} {K : Ct} {W : WX} {σ : L2.St} {ad ad1 : List Addr} {H H1 : Hp} {st st1 : St} {ρ : Env} {α β α' β' : Type} {val : Val α β} {val' : Val α' β'}
theorem EnvR.mv {ad' : List Addr} {H' : Hp} (s : Mv ad H ad' H') (h : EnvR Γ ad H ρ σ) : EnvR Γ ad' H' ρ σ :=
  ⟨h.1, fun i d e => let ⟨v, a, b⟩ := h.2 i d e; ⟨v, a, Rel.mv s b⟩⟩
theorem Good.later {o : Out α} {Q : β → Hp → Prop} (s : Step ad H ad1 H1) (g : Good Γ K W σ ad H val o Q) : Good Γ K W σ ad1 H1 val o Q := by
  cases o with
  | ok r st' => exact fun ad' H' v s' n q => g ad' H' v (s.trans s') n (val.later s.some q)
  | err x st' => exact fun ad' H' c d s' n q => g ad' H' c d (s.trans s') n q
  | bad => exact g
theorem Good.imp {o : Out α} {Q Q' : β → Hp → Prop} (g : Good Γ K W σ ad H val o Q) (h : ∀ v H, Q v H → Q' v H) : Good Γ K W σ ad H val o Q' := by
  cases o with
  | ok r st' => exact fun ad' H' v s' n q => h v H' (g ad' H' v s' n q)
  | err x st' => exact g
  | bad => exact g
/-- m first, then f -/
theorem stage {m : Env → St → Out α'} {f : α' → St → Out α} {Q : β → Hp → Prop} {T : β' → Hp → Prop} (n : Now Γ K ad st H) (e : EnvR Γ ad H ρ σ) (g : Good Γ K W σ ad H val ((m ρ st).bind f) Q)
    (next : ∀ ad1 st1 r v H1, Step ad H ad1 H1 → Now Γ K ad1 st1 H1 → EnvR Γ ad1 H1 ρ σ → val'.p H ad1 H1 r v → Good Γ K W σ ad1 H1 val (f r st1) Q → T v H1) : tG Γ K W val' m σ H T := by
  refine ⟨ad, st, ρ, n, e, ?_⟩
  cases q : m ρ st with
  | ok r st' =>
    rw [q] at g
    intro ad' H' v s' n' p
    exact next ad' st' r v H' s' n' (e.mv s'.mv) p (Good.later s' g)
  | err x st' => rw [q] at g; exact g
  | bad => rw [q] at g; exact g
/-- the end of a run that is told -/
theorem Good.now {r : α} {Q : β → Hp → Prop} {v : β} (g : Good Γ K W σ ad H val (.ok r st) Q) (n : Now Γ K ad st H) (p : val.p H ad H r v) : Q v H := g ad H v (Step.refl _ _) n p
theorem Now.new (n : Now Γ K ad st H) {p : Addr} (hp : H p = none) (o : HO) : Step ad H ad (upd H p o) ∧ Now Γ K ad st (upd H p o) :=
  let ⟨a, b⟩ := n.rep.new hp o; ⟨a, b, n.base, n.lk⟩
/-- .. with a new object -/
theorem Good.new {r : α} {Q : β → Hp → Prop} {v : β} {p : Addr} {o : HO} (g : Good Γ K W σ ad H val (.ok r st) Q) (n : Now Γ K ad st H) (hp : H p = none) (q : val.p H ad (upd H p o) r v) : Q v (upd H p o) :=
  g ad _ v (n.new hp o).1 (n.new hp o).2 q
theorem rr_new {p : Addr} {xs : List D} {vs : List V} (n : Now Γ K ad st H) (hp : H p = none) (h : Rels Γ.K ad H xs vs) : (vR Γ).p H ad (upd H p (.lst vs)) (.fl xs) (.ref p) :=
  ⟨⟨p, vs, rfl, upd_same, n.rep.out hp, Rels.mv (n.new hp _).1.mv h⟩, fun a e => by cases e; exact hp⟩
theorem rr_tup {p : Addr} {xs : List D} {vs : List V} (n : Now Γ K ad st H) (hp : H p = none) (h : Rels Γ.K ad H xs vs) : (vR Γ).p H ad (upd H p (.tup vs)) (.d (.tup xs)) (.ref p) :=
  ⟨by simp only [RR, Rel]; exact ⟨p, vs, rfl, upd_same, Rels.mv (n.new hp _).1.mv h⟩, trivial⟩
/-! ### reading values -/
/-- the items of a list or a tuple -/
theorem items_k {x : R} {v : V} {xs : List D} (n : Now Γ K ad st H) (h : RR Γ ad H x v) (e : x.items st = some xs) :
    ∃ a vs, v = .ref a ∧ Rels Γ.K ad H xs vs ∧ (SqL Γ.K H a vs ∨ (x = .d (.tup xs) ∧ H a = some (.tup vs)) ∨ (x = .kt xs ∧ KTup Γ.K a vs) ∨ (x = .d (.ptup xs) ∧ SqT Γ.K H a vs)) := by
  cases x with
  | fl ys =>
    simp only [R.items, Option.some.injEq] at e
    subst e
    obtain ⟨a, vs, h1, h2, _, h4⟩ := h
    exact ⟨a, vs, h1, h4, .inl (SqL.of h2)⟩
  | kt ys =>
    simp only [R.items, Option.some.injEq] at e
    subst e
    obtain ⟨a, vs, h1, h2, h4⟩ := h
    exact ⟨a, vs, h1, h4, .inr (.inr (.inl ⟨rfl, h2⟩))⟩
  | fd t kvs => cases t <;> simp [R.items] at e
  | d y =>
    cases y <;> simp only [R.items, reduceCtorEq, Option.some.injEq] at e
    · subst e
      simp only [RR, Rel] at h
      obtain ⟨a, vs, h1, h2, h4⟩ := h
      exact ⟨a, vs, h1, h4, .inr (.inl ⟨rfl, h2⟩)⟩
    · rename_i k
      simp only [RR, Rel] at h
      obtain ⟨a, h1, h2⟩ := h
      cases q : pick st k with
      | none => rw [show St.get st k = none from q] at e; simp at e
      | some c =>
        obtain ⟨b, e1, e2⟩ := n.rep.cell k c q
        rw [h1] at e1; cases e1
        rw [show St.get st k = some c from q] at e
        cases c <;> simp only [reduceCtorEq, Option.some.injEq] at e
        subst e
        obtain ⟨vs, z1, z2⟩ := e2
        exact ⟨a, vs, h2, z2, .inl (.inl z1.rd)⟩
    · subst e
      simp only [RR, Rel] at h
      obtain ⟨a, vs, h1, h2, h4⟩ := h
      exact ⟨a, vs, h1, h4, .inl h2.sq⟩
    · subst e
      simp only [RR, Rel] at h
      obtain ⟨a, vs, h1, h2, h4⟩ := h
      exact ⟨a, vs, h1, h4, .inr (.inr (.inr ⟨rfl, h2.sq⟩))⟩
theorem items_ok {x : R} {v : V} {xs : List D} (n : Now Γ K ad st H) (h : RR Γ ad H x v) (e : x.items st = some xs) :
    ∃ a vs, v = .ref a ∧ (SqL Γ.K H a vs ∨ SqT Γ.K H a vs) ∧ Rels Γ.K ad H xs vs := by
  obtain ⟨a, vs, h1, h2, h3 | ⟨_, h3⟩ | ⟨_, h3⟩ | ⟨_, h3⟩⟩ := items_k n h e
  · exact ⟨a, vs, h1, .inl h3, h2⟩
  · exact ⟨a, vs, h1, .inr (SqT.of h3), h2⟩
  · exact ⟨a, vs, h1, .inr h3.sq, h2⟩
  · exact ⟨a, vs, h1, .inr h3, h2⟩
theorem lst_ok {x : R} {v : V} {xs : List D} (n : Now Γ K ad st H) (h : RR Γ ad H x v) (e : x.lst? st = some xs) :
    ∃ a vs, v = .ref a ∧ SqL Γ.K H a vs ∧ Rels Γ.K ad H xs vs := by
  cases x with
  | fl ys =>
    simp only [R.lst?, Option.some.injEq] at e
    subst e
    obtain ⟨a, vs, h1, h2, _, h4⟩ := h
    exact ⟨a, vs, h1, SqL.of h2, h4⟩
  | kt ys => simp [R.lst?] at e
  | fd t kvs => cases t <;> simp [R.lst?] at e
  | d y =>
    cases y <;> simp only [R.lst?, reduceCtorEq, Option.some.injEq] at e
    · rename_i k
      simp only [RR, Rel] at h
      obtain ⟨a, h1, h2⟩ := h
      cases q : pick st k with
      | none => rw [show St.get st k = none from q] at e; simp at e
      | some c =>
        obtain ⟨b, e1, e2⟩ := n.rep.cell k c q
        rw [h1] at e1; cases e1
        rw [show St.get st k = some c from q] at e
        cases c <;> simp only [reduceCtorEq, Option.some.injEq] at e
        subst e
        obtain ⟨vs, z1, z2⟩ := e2
        exact ⟨a, vs, h2, .inl z1.rd, z2⟩
    · subst e
      simp only [RR, Rel] at h
      obtain ⟨a, vs, h1, h2, h4⟩ := h
      exact ⟨a, vs, h1, h2.sq, h4⟩
/-- a dict's pairs -/
theorem kvs_ok {x : R} {v : V} {t : Bool} {kvs : Kvs} (n : Now Γ K ad st H) (h : RR Γ ad H x v) (e : x.kvs st = some (t, kvs)) :
    ∃ a, v = .ref a ∧ ((t = false ∧ ∃ kv, Rd H a (.dK kv) ∧ Kv keyK Γ.K ad H kvs kv) ∨ (t = true ∧ ∃ kv, Rd H a (.dT kv) ∧ Kv keyT Γ.K ad H kvs kv)) := by
  cases x with
  | fl ys => simp [R.kvs] at e
  | kt ys => simp [R.kvs] at e
  | fd t' kvs' =>
    simp only [R.kvs, Option.some.injEq, Prod.mk.injEq] at e
    obtain ⟨rfl, rfl⟩ := e
    cases t' with
    | false => obtain ⟨a, kv, h1, h2, _, h4⟩ := h; exact ⟨a, h1, .inl ⟨rfl, kv, .inl h2, h4⟩⟩
    | true => obtain ⟨a, kv, h1, h2, _, h4⟩ := h; exact ⟨a, h1, .inr ⟨rfl, kv, .inl h2, h4⟩⟩
  | d y =>
    cases y <;> simp only [R.kvs, reduceCtorEq] at e
    rename_i k
    simp only [RR, Rel] at h
    obtain ⟨a, h1, h2⟩ := h
    cases q : pick st k with
    | none => rw [show St.get st k = none from q] at e; simp at e
    | some c =>
      obtain ⟨b, e1, e2⟩ := n.rep.cell k c q
      rw [h1] at e1; cases e1
      rw [show St.get st k = some c from q] at e
      cases c with
      | lst xs => simp at e
      | ins c fs => simp at e
      | dic t' kvs' =>
        simp only [Option.some.injEq, Prod.mk.injEq] at e
        obtain ⟨rfl, rfl⟩ := e
        cases t' with
        | false => obtain ⟨kv, z1, z2⟩ := e2; exact ⟨a, h2, .inl ⟨rfl, kv, z1.rd, z2⟩⟩
        | true => obtain ⟨kv, z1, z2⟩ := e2; exact ⟨a, h2, .inr ⟨rfl, kv, z1.rd, z2⟩⟩
/-- what nobody holds becomes a cell -/
theorem toD_ok {r : R} {v : V} {H0 : Hp} {ad0 : List Addr} {x : D} {st1 : St} (s0 : Step ad0 H0 ad H) (n : Now Γ K ad st H) (h : (vR Γ).p H0 ad H r v) (ed : r.toD st = some (x, st1)) :
    ∃ ad1, Step ad0 H0 ad1 H ∧ Now Γ K ad1 st1 H ∧ Rel Γ.K ad1 H x v ∧ ∃ p, ad1 = p ++ ad := by
  obtain ⟨h, f⟩ := h
  have push : ∀ (a : Addr) (c : Cell), v = .ref a → a ∉ ad → H0 a = none → CellR Γ K.lk st.length (a :: ad) H a c → ∃ ad1, Step ad0 H0 ad1 H ∧ Now Γ K ad1 (c :: st) H ∧ Rel Γ.K ad1 H (.ref st.length) v ∧ ∃ p, ad1 = p ++ ad := by
    intro a c ev ha h0 hc
    refine ⟨a :: ad, ?_, ⟨n.rep.push ha hc, ⟨?_, n.base.out, ?_⟩, fun m hm => Nat.lt_succ_of_lt (n.lk m hm)⟩, ?_, [a], rfl⟩
    · obtain ⟨p, e, hp⟩ := s0.pre
      exact ⟨⟨a :: p, by rw [e]; rfl, fun b hb => by
        rcases List.mem_cons.mp hb with z | z
        · rw [z]; exact h0
        · exact hp b z⟩, s0.keep, s0.tups, s0.frzs, s0.some⟩
    · exact Nat.le_succ_of_le n.base.le
    · intro b hb m d hm e
      have h1 := n.base.le
      have h2 : b ≤ K.base := by
        rcases List.mem_cons.mp hb with z | z
        · omega
        · exact n.base.out b z
      simp only [pick] at e
      rw [if_neg (by omega)] at e
      exact n.base.cl b hb m d hm e
    · simp only [Rel]
      exact ⟨a, by simp [pick, n.rep.len], ev⟩
  have at_free : ∀ {a : Addr} {u : HO}, H a = some u → atL K.lk st.length H a u := fun {a u} e => by
    unfold atL
    rw [if_neg fun z => Nat.lt_irrefl _ (n.lk _ z)]
    exact e
  cases r with
  | d x => simp only [R.toD, Option.some.injEq, Prod.mk.injEq] at ed; obtain ⟨rfl, rfl⟩ := ed; exact ⟨ad, s0, n, h, [], rfl⟩
  | kt x => simp [R.toD] at ed
  | fl xs =>
    simp only [R.toD, Option.some.injEq, Prod.mk.injEq] at ed; obtain ⟨rfl, rfl⟩ := ed
    obtain ⟨a, vs, h1, h2, h3, h4⟩ := h
    exact push a (.lst xs) h1 h3 (f a h1) ⟨vs, at_free h2, Rels.mv (Mv.app [a] ad H) h4⟩
  | fd t kvs =>
    simp only [R.toD, Option.some.injEq, Prod.mk.injEq] at ed; obtain ⟨rfl, rfl⟩ := ed
    cases t with
    | false =>
      obtain ⟨a, vs, h1, h2, h3, h4⟩ := h
      exact push a (.dic false kvs) h1 h3 (f a h1) ⟨vs, at_free h2, Kv.mv (Mv.app [a] ad H) h4⟩
    | true =>
      obtain ⟨a, vs, h1, h2, h3, h4⟩ := h
      exact push a (.dic true kvs) h1 h3 (f a h1) ⟨vs, at_free h2, Kv.mv (Mv.app [a] ad H) h4⟩
end
end L3
/-! L3F: which text a term stands for; operations of one operand -/
namespace L3
open PySem L2 PySem.Spec PyProof.Rows

/-- the text's names -/
structure Nm where
  fname : Nat → Str
  mname : Nat → Str
  cname : Nat → Str
  con : Nat → Option Str
  fld : Nat → Str
  /-- the last parameter has a default: None -/
  dfl : Nat → Bool
  /-- the built-in names that the text uses -/
  blt : List Str

def plainNm (x : Str) : Bool := decide (x ≠ "__debug__") && decide (x ≠ "__classdict__") && decide (x ≠ "__name__")
def isVar (N : List Str) (sc : Scope) (i : Nat) (x : Str) : Bool :=
  decide (N[i]? = some x) && plainNm x && (match sc.names.lookup x with | some .local => true | some .cell => true | some .free => true | _ => false)
def isGl (sc : Scope) (x : Str) : Bool := plainNm x && (match sc.names.lookup x with | some .globalImplicit => true | _ => false)
def isB (G : Nm) (sc : Scope) (x : Str) (n : String) : Bool := decide (x = Str.ofString n) && isGl sc x && decide (Str.ofString n ∈ G.blt)

/-- built-in functions and types of one operand -/
def p1name : P1 → Option (String × Bool)
  | .len => some ("len", false) | .tup => some ("tuple", true) | .lst => some ("list", true) | .sum => some ("sum", false) | .all => some ("all", false) | .any => some ("any", false)
  | .sorted => some ("sorted", false) | .abs => some ("abs", false) | .int => some ("int", true) | .str => some ("str", true) | .min => some ("min", false) | .max => some ("max", false)
  | _ => none
def p1isi : P1 → Option String
  | .isTup => some "tuple" | .isInt => some "int" | .isBool => some "bool" | .isStr => some "str" | .isLst => some "list"
  | _ => none
def chkP1 (G : Nm) (sc : Scope) (f : P1) (k : Expr → Bool) (e : Expr) : Bool :=
  match e with
  | .UnaryOp .USub a _ => decide (f = .neg) && k a
  | .Compare a [.Is] [.Constant .none _ _] _ => decide (f = .isNone) && k a
  | .Compare a [.IsNot] [.Constant .none _ _] _ => decide (f = .notNone) && k a
  | .Compare a [.Is] [.Constant (.bool b) _ _] _ => decide (f = (if b then .isTrue else .isFalse)) && k a
  | .Call (.Name x _) [a] [] _ => (match p1name f with | some (n, _) => isB G sc x n && k a | none => decide (f = .lrev) && isB G sc x "list" && (match a with | .Call (.Name y _) [b] [] _ => isB G sc y "reversed" && k b | _ => false))
  | .Call (.Name x _) [a, .Name y _] [] _ => (match p1isi f with | some n => isB G sc x "isinstance" && isB G sc y n && k a | none => false)
  | .Call (.Attribute a m apos) [] [] cpos => decide (f = .pop) && decide (m = Str.ofString "pop") && (apos.endLine == cpos.line) && k a
  | _ => false

/-- the context of a body: what is known of it at depth n -/
structure CxOk (Γ : Gam) (G : Nm) (W : WX) (n : Nat) (X : Cx) : Prop where
  K : X.K = Γ.K
  nd : X.N.Nodup
  calm : X.calm = true
  room : Room n X.A
  blt : ∀ x ∈ G.blt, X.mg x = none
/-- what the callers of a def hand over, and what they get -/
def spF (Γ : Gam) (F : Calls) (f np : Nat) (lk : Bool) : Sp := fun vs H Q E =>
  vs.length = np ∧ ∃ ad0 H0 ad st ds K, Step ad0 H0 ad H ∧ (lk = false → ad0.length ≤ K.base ∧ ∀ n ∈ K.lk, n < K.base) ∧ Now Γ K ad st H ∧ Rels Γ.K ad H ds vs ∧ Good Γ K (fun c d _ H => E c d H) [] ad0 H0 (vR Γ) (F f K ds st) Q
structure FnAt (Γ : Gam) (G : Nm) (F : Calls) (n : Nat) (P : Program) (w : World) (K : PySem.W.Frag) (mg : Str → Option Value) (base : Heap) (f : Nat) (fd : Fn) : Prop where
  ex : ∃ a dat ps, mg (G.fname f) = some (.ref a) ∧ PySem.W.keepIn K (.ref a) = true ∧ Binds K dat ps [] ∧ (G.dfl f = true → Binds K dat ps [.none]) ∧ FnOk P w K mg base (L2.CX P w) n a dat ps (spF Γ F f fd.np fd.leaky)
/-- a constant of the text -/
def ConAt (w : World) (K : PySem.W.Frag) (mg : Str → Option Value) (y : Str) (d : D) : Prop :=
  match d with
  | .frz ds => ∃ a, mg y = some (.ref a) ∧ ∀ z u, D.dcGet ds z = some u → KDct K w a z (.str u)
  | .tup ds => ∃ a vs, mg y = some (.ref a) ∧ KTup K a vs ∧ Rels K [] (fun _ => none) ds vs
  | d => ∃ u v, mg y = some u ∧ RelV v u ∧ Rel K [] (fun _ => none) d v
/-- the text's defs and constants -/
structure TbOk (Γ : Gam) (G : Nm) (tb : Tb) (F : Calls) (n : Nat) (X : Cx) : Prop where
  fns : ∀ f fd, tb.fn f = some fd → FnAt Γ G F n X.prog X.w X.K X.mg X.base f fd
  cons : ∀ g y, G.con g = some y → ConAt X.w X.K X.mg y (tb.con g)
section
variable {Γ : Gam} {G : Nm} {K : Ct} {W : WX} {n m : Nat} {X : Cx}
theorem CxOk.hu (c : CxOk Γ G W n X) : X.A.units + 1 < cLine := hu_of c.room
theorem CxOk.units (c : CxOk Γ G W n X) : X.A.units + 64 < cLine := c.room.units
theorem plain_nm {x : Str} (h : plainNm x = true) : (x == ("__debug__" : Str)) = false ∧ (x == ("__classdict__" : Str)) = false ∧ x ≠ "__name__" := by
  simp only [plainNm, Bool.and_eq_true, decide_eq_true_eq] at h
  exact ⟨by simpa using h.1.1, by simpa using h.1.2, h.2⟩
theorem gl_of {x : Str} (h : isGl X.env.scope x = true) : Gl X x ∧ (x == ("__debug__" : Str)) = false ∧ x ≠ "__name__" := by
  simp only [isGl, Bool.and_eq_true] at h
  obtain ⟨h1, h2⟩ := h
  refine ⟨?_, (plain_nm h1).1, (plain_nm h1).2.2⟩
  show X.env.scope.names.lookup x = some .globalImplicit
  split at h2
  · assumption
  · cases h2
theorem isB_of {x : Str} {s : String} (h : isB G X.env.scope x s = true) : x = Str.ofString s ∧ Gl X (Str.ofString s) ∧ (Str.ofString s == ("__debug__" : Str)) = false ∧ Str.ofString s ≠ "__name__" ∧ Str.ofString s ∈ G.blt := by
  simp only [isB, Bool.and_eq_true, decide_eq_true_eq] at h
  obtain ⟨⟨rfl, h⟩, h3⟩ := h
  have q := gl_of h
  exact ⟨rfl, q.1, q.2.1, q.2.2, h3⟩
theorem PE.weak {e : Expr} {t t' : TE} (h : PE X e t) (i : ∀ σ H Q, t' σ H Q → t σ H Q) : PE X e t' := ⟨fun pins s σ H Q I q => h.run pins s σ H Q I (i σ H Q q)⟩
theorem PT.weak {e : Expr} {t t' : TT} (h : PT X e t) (i : ∀ σ H Q, t' σ H Q → t σ H Q) : PT X e t' := ⟨fun pins s σ H Q I q => h.run pins s σ H Q I (i σ H Q q)⟩
theorem CallR.or {f : Value} {r r' : List V → Hp → VK → Prop} (h : CallR X f r) (h' : CallR X f r') : CallR X f (fun xs H Q => r xs H Q ∨ r' xs H Q) :=
  fun pins s σ H xs us Q I q z => z.elim (h pins s σ H xs us Q I q) (h' pins s σ H xs us Q I q)

/-- no written star -/
def noStar : Expr → Bool
  | .Starred _ _ => false
  | _ => true
theorem star1 {e : Expr} {es : List Expr} {env : PySem.Env} (h : noStar e = true) : starEach (e :: es) env = (false, eval e env) :: starEach es env := by
  cases e <;> first | rfl | (simp [noStar] at h)
theorem star_any {env : PySem.Env} {pos : Pos} : ∀ {es : List Expr}, es.all noStar = true → (backTo pos (starEach es env)).any (·.1) = false
  | [], _ => by cases pos <;> rfl
  | e :: es, h => by
    simp only [List.all_cons, Bool.and_eq_true] at h
    rw [star1 h.1]
    show ((false, _) :: backTo pos (starEach es env)).any (·.1) = false
    simp only [List.any_cons, Bool.false_or]
    exact star_any h.2

/-- the sorted list is one -/
theorem sorted_one : ∀ {a b : List Int}, a.Perm b → a.Pairwise (· ≤ ·) → b.Pairwise (· ≤ ·) → a = b
  | [], b, p, _, _ => p.nil_eq.symm ▸ rfl
  | x :: a, b, p, h, h' => by
    cases b with
    | nil => exact absurd p.length_eq (by simp)
    | cons y b =>
      have hx : x ∈ y :: b := p.mem_iff.mp List.mem_cons_self
      have hy : y ∈ x :: a := p.mem_iff.mpr List.mem_cons_self
      have e : x = y := by
        rw [List.pairwise_cons] at h h'
        rcases List.mem_cons.mp hx with z | z
        · exact z
        · rcases List.mem_cons.mp hy with w | w
          · exact w.symm
          · have := h.1 y w; have := h'.1 x z; omega
      subst e
      rw [sorted_one (List.Perm.cons_inv p) (List.pairwise_cons.mp h).2 (List.pairwise_cons.mp h').2]
theorem sortI_perm (ns : List Int) : (sortI ns).Perm ns := List.mergeSort_perm _ _
theorem sortI_sorted (ns : List Int) : (sortI ns).Pairwise (· ≤ ·) := by
  have := List.pairwise_mergeSort (le := fun (a b : Int) => decide (a ≤ b)) (fun a b c h1 h2 => by simp only [decide_eq_true_eq] at *; omega) (fun a b => by simp only [Bool.or_eq_true, decide_eq_true_eq]; omega) ns
  exact this.imp fun h => by simpa using h
variable {σ : L2.St} {ad : List Addr} {H : Hp} {st : St}
theorem kv_len {κ : Type} {key : D → Option κ} : ∀ {kvs : Kvs} {kv : List (κ × V)}, Kv key Γ.K ad H kvs kv → kvs.length = kv.length
  | [], _, h => by simp only [Kv] at h; subst h; rfl
  | p :: r, _, h => by
    simp only [Kv] at h
    obtain ⟨k, v, t, rfl, _, _, h⟩ := h
    simp [kv_len h]

theorem kinds_ok {x : R} {v : V} {k : String} (n : Now Γ K ad st H) (h : RR Γ ad H x v) (e : x.kind st = some k) : ∃ t, TyX Γ.K H v (.type k) ∧ t = k := by
  refine ⟨k, ?_, rfl⟩
  have dk : ∀ {a : Addr} {kv : List (Key × V)}, Rd H a (.dK kv) → TyX Γ.K H (.ref a) (.type "dict") := fun {a kv} z => by
    rcases z with z | ⟨o, z⟩
    · exact .base (.dK z)
    · exact .fDict z
  cases x with
  | fl ys => simp only [R.kind, Option.some.injEq] at e; subst e; obtain ⟨a, vs, rfl, h2, _⟩ := h; exact .base (.lst h2)
  | kt ys =>
    simp only [R.kind, Option.some.injEq] at e; subst e
    obtain ⟨a, vs, rfl, ⟨⟨o, its, m, h3, h4, _⟩, _⟩, _⟩ := h
    exact .kTuple h3 h4
  | fd t kvs =>
    simp only [R.kind, Option.some.injEq] at e; subst e
    cases t with
    | false => obtain ⟨a, vs, rfl, h2, _⟩ := h; exact .base (.dK h2)
    | true => obtain ⟨a, vs, rfl, h2, _⟩ := h; exact .base (.dT h2)
  | d y =>
    cases y <;> simp only [R.kind, Option.some.injEq] at e
    · subst e; simp only [RR, Rel] at h; subst h; exact .base .non
    · subst e; simp only [RR, Rel] at h; subst h; exact .base (.bl _)
    · subst e; simp only [RR, Rel] at h; subst h; exact .base (.int _)
    · subst e; simp only [RR, Rel] at h; subst h; exact .base (.str _)
    · subst e; simp only [RR, Rel] at h
      obtain ⟨a, vs, rfl, h2, _⟩ := h
      exact .base (.tup h2)
    · rename_i m
      simp only [RR, Rel] at h
      obtain ⟨a, h1, rfl⟩ := h
      cases q : pick st m with
      | none => rw [show St.get st m = none from q] at e; simp at e
      | some c =>
        obtain ⟨b, e1, e2⟩ := n.rep.cell m c q
        rw [h1] at e1; cases e1
        rw [show St.get st m = some c from q] at e
        cases c with
        | lst xs =>
          simp only [Option.some.injEq] at e; subst e
          obtain ⟨vs, z1, z2⟩ := e2
          rcases z1.rd with z | ⟨o, z⟩
          · exact .base (.lst z)
          · exact .base (.frz z)
        | ins c fs => simp at e
        | dic t kvs =>
          cases t with
          | false => simp only [Option.some.injEq] at e; subst e; obtain ⟨vs, z1, z2⟩ := e2; exact dk z1.rd
          | true => simp at e
    · subst e; simp only [RR, Rel] at h
      obtain ⟨a, vs, rfl, h2, _⟩ := h
      rcases h2 with ⟨o, h2⟩ | ⟨o, its, m, h3, h4, _⟩
      · exact .base (.frz h2)
      · exact .kList h3 h4
    · subst e; simp only [RR, Rel] at h
      obtain ⟨a, vs, rfl, ⟨o, _, h2⟩, _⟩ := h
      exact .fTuple h2
theorem kvs_free {x : R} {v : V} {t : Bool} {kvs : Kvs} (n : Now Γ K ad st H) (hl : K.lk.isEmpty = true) (h : RR Γ ad H x v) (e : x.kvs st = some (t, kvs)) :
    ∃ a, v = .ref a ∧ ((t = false ∧ ∃ kv, H a = some (.dK kv) ∧ Kv keyK Γ.K ad H kvs kv) ∨ (t = true ∧ ∃ kv, H a = some (.dT kv) ∧ Kv keyT Γ.K ad H kvs kv)) := by
  have hl : K.lk = [] := List.isEmpty_iff.mp hl
  cases x with
  | fl ys => simp [R.kvs] at e
  | kt ys => simp [R.kvs] at e
  | fd t' kvs' =>
    simp only [R.kvs, Option.some.injEq, Prod.mk.injEq] at e
    obtain ⟨rfl, rfl⟩ := e
    cases t' with
    | false => obtain ⟨a, kv, h1, h2, _, h4⟩ := h; exact ⟨a, h1, .inl ⟨rfl, kv, h2, h4⟩⟩
    | true => obtain ⟨a, kv, h1, h2, _, h4⟩ := h; exact ⟨a, h1, .inr ⟨rfl, kv, h2, h4⟩⟩
  | d y =>
    cases y <;> simp only [R.kvs, reduceCtorEq] at e
    rename_i k
    simp only [RR, Rel] at h
    obtain ⟨a, h1, h2⟩ := h
    cases q : pick st k with
    | none => rw [show St.get st k = none from q] at e; simp at e
    | some c =>
      obtain ⟨b, e1, e2⟩ := n.rep.cell k c q
      rw [h1] at e1; cases e1
      rw [show St.get st k = some c from q] at e
      cases c with
      | lst xs => simp at e
      | ins c fs => simp at e
      | dic t' kvs' =>
        simp only [Option.some.injEq, Prod.mk.injEq] at e
        obtain ⟨rfl, rfl⟩ := e
        cases t' with
        | false => obtain ⟨kv, z1, z2⟩ := e2; exact ⟨a, h2, .inl ⟨rfl, kv, z1.free (by rw [hl]; simp), z2⟩⟩
        | true => obtain ⟨kv, z1, z2⟩ := e2; exact ⟨a, h2, .inr ⟨rfl, kv, z1.free (by rw [hl]; simp), z2⟩⟩
theorem Good.d {x : D} {v : V} {Q : VK} (g : Good Γ K W σ ad H (vR Γ) (okR x st) Q) (n : Now Γ K ad st H) (h : Rel Γ.K ad H x v) : Q v H := Good.now g n ⟨h, trivial⟩
/-- what a call of a built-in of one operand asks -/
theorem p1_ok (c : CxOk Γ G W m X) (f : P1) {nm : String} {ty : Bool} (e : p1name f = some (nm, ty)) :
    ∃ r, CallR X (if ty then .type nm else .builtin nm) r ∧ ∀ {x : R} {v : V} {ad : List Addr} {st : St} {H : Hp} {σ : L2.St} {Q : VK}, Now Γ K ad st H → RR Γ ad H x v → Good Γ K W σ ad H (vR Γ) (ev1 f K x st) Q → r [v] H Q := by
  have ck := c.K
  cases f <;> simp only [p1name, Option.some.injEq, Prod.mk.injEq, reduceCtorEq] at e <;> (obtain ⟨rfl, rfl⟩ := e)
  -- len
  · refine ⟨_, call_len.or (call_lenD.or call_len_dT), fun {x v ad st H σ Q} n h g => ?_⟩
    simp only [ev1] at g
    split at g
    · split at g
      · simp only [RR, Rel] at h; subst h
        rename_i hz
        exact .inl ⟨_, _, rfl, ⟨hz, rfl⟩, Good.d g n (by simp only [Rel])⟩
      · exact g.elim
    · split at g
      · rename_i q
        obtain ⟨a, vs, rfl, h1, h2⟩ := items_ok n h q
        refine .inl ⟨_, vs.length, rfl, ?_, ?_⟩
        · rw [ck]
          rcases h1 with h1 | h1
          · exact .inl ⟨vs, h1, rfl⟩
          · exact .inr ⟨vs, h1, rfl⟩
        · rw [← h2.length]; exact Good.d g n (by simp only [Rel])
      · split at g
        · split at g
          · rename_i t kvs q hl
            obtain ⟨a, rfl, ⟨_, kv, z, w⟩ | ⟨_, kv, z, w⟩⟩ := kvs_free n hl h q
            · exact .inr (.inl ⟨a, kv, rfl, z, by rw [← kv_len w]; exact Good.d g n (by simp only [Rel])⟩)
            · exact .inr (.inr ⟨a, kv, rfl, z, by rw [← kv_len w]; exact Good.d g n (by simp only [Rel])⟩)
          · exact g.elim
        · exact g.elim
  -- tuple
  · refine ⟨_, call_tuple_of, fun {x v ad st H σ Q} n h g => ?_⟩
    simp only [ev1] at g
    split at g
    · obtain ⟨a, vs, rfl, h1, h2⟩ := h
      rw [ck]
      exact ⟨a, vs, rfl, .inr ⟨h1.sq, Good.now g n ⟨⟨a, vs, rfl, h1, h2⟩, trivial⟩⟩⟩
    · rw [ck]
      have h' := h
      simp only [RR, Rel] at h'
      obtain ⟨a, vs, rfl, h1, h2⟩ := h'
      exact ⟨a, vs, rfl, .inr ⟨h1.sq, Good.d g n h⟩⟩
    · rename_i nk np
      split at g
      · rename_i q
        obtain ⟨a, vs, rfl, h2, h1 | ⟨rfl, h1⟩ | ⟨rfl, h1⟩ | ⟨rfl, h1⟩⟩ := items_k n h q
        · rw [ck]
          exact ⟨a, vs, rfl, .inl ⟨h1, fun l hl => Good.new g n hl (rr_tup n hl h2)⟩⟩
        · exact ⟨a, vs, rfl, .inr ⟨SqT.of h1, Good.d g n h⟩⟩
        · exact absurd rfl (nk _)
        · exact absurd rfl (np _)
      · exact g.elim
  -- list
  · refine ⟨_, call_list_of, fun {x v ad st H σ Q} n h g => ?_⟩
    simp only [ev1] at g
    split at g
    · rename_i q
      obtain ⟨a, vs, rfl, h1, h2⟩ := items_ok n h q
      rw [ck]
      exact ⟨a, vs, rfl, h1, fun l hl => Good.new g n hl (rr_new n hl h2)⟩
    · exact g.elim
  -- sum
  · refine ⟨_, cr_sum c.calm, fun {x v ad st H σ Q} n h g => ?_⟩
    simp only [ev1] at g
    split at g
    · rename_i q
      obtain ⟨a, vs, rfl, h1, h2⟩ := lst_ok n h q
      split at g
      · rename_i q2
        rw [rels_ints h2 q2] at h1
        rw [ck]
        exact ⟨a, _, rfl, h1, Good.d g n (by simp only [Rel])⟩
      · exact g.elim
    · exact g.elim
  -- all
  · refine ⟨_, cr_all c.calm, fun {x v ad st H σ Q} n h g => ?_⟩
    simp only [ev1] at g
    split at g
    · rename_i q
      obtain ⟨a, vs, rfl, h1, h2⟩ := lst_ok n h q
      split at g
      · rename_i q2
        rw [rels_bls h2 q2] at h1
        rw [ck]
        exact ⟨a, _, rfl, h1, Good.d g n (by simp only [Rel])⟩
      · exact g.elim
    · exact g.elim
  -- any
  · refine ⟨_, cr_any c.calm, fun {x v ad st H σ Q} n h g => ?_⟩
    simp only [ev1] at g
    split at g
    · rename_i q
      obtain ⟨a, vs, rfl, h1, h2⟩ := lst_ok n h q
      split at g
      · rename_i q2
        rw [rels_bls h2 q2] at h1
        rw [ck]
        exact ⟨a, _, rfl, h1, Good.d g n (by simp only [Rel])⟩
      · exact g.elim
    · exact g.elim
  -- sorted
  · refine ⟨_, cr_sortedI, fun {x v ad st H σ Q} n h g => ?_⟩
    simp only [ev1] at g
    split at g
    · rename_i q
      obtain ⟨a, vs, rfl, h1, h2⟩ := lst_ok n h q
      split at g
      · rename_i ns q2
        rw [rels_ints h2 q2] at h1
        rw [ck]
        refine ⟨a, ns, rfl, h1, fun ns' p hp hs hn => ?_⟩
        rw [sorted_one (hp.trans (sortI_perm ns).symm) hs (sortI_sorted ns)]
        exact Good.new g n hn (rr_new n hn (rels_of_ints _))
      · exact g.elim
    · exact g.elim
  -- abs
  · refine ⟨_, call_abs, fun {x v ad st H σ Q} n h g => ?_⟩
    simp only [ev1] at g
    split at g
    · simp only [RR, Rel] at h; subst h
      exact ⟨_, rfl, Good.d g n (by simp only [Rel])⟩
    · exact g.elim
  -- int
  · refine ⟨_, call_int1, fun {x v ad st H σ Q} n h g => ?_⟩
    simp only [ev1] at g
    split at g
    · simp only [RR, Rel] at h; subst h
      exact .inl ⟨_, rfl, Good.d g n (by simp only [Rel])⟩
    · simp only [RR, Rel] at h; subst h
      exact .inr ⟨_, rfl, Good.d g n (by simp only [Rel])⟩
    · exact g.elim
  -- str
  · refine ⟨_, call_str_int, fun {x v ad st H σ Q} n h g => ?_⟩
    simp only [ev1] at g
    split at g
    · split at g
      · rename_i hl
        simp only [RR, Rel] at h; subst h
        exact ⟨_, rfl, hl, Good.d g n (by simp only [Rel])⟩
      · exact g.elim
    · exact g.elim
  -- min
  · refine ⟨_, cr_min c.calm, fun {x v ad st H σ Q} n h g => ?_⟩
    simp only [ev1] at g
    split at g
    · rename_i q
      obtain ⟨a, vs, rfl, h1, h2⟩ := lst_ok n h q
      split at g
      · rename_i ns q2
        rw [rels_ints h2 q2] at h1
        rw [ck]
        split at g
        · rename_i y q3
          obtain ⟨m1, m2⟩ := List.min?_eq_some_iff.mp q3
          refine ⟨a, _, rfl, h1, List.length_pos_of_mem m1, fun z z1 z2 => ?_⟩
          rw [Int.le_antisymm (z2 y m1) (m2 z z1)]
          exact Good.d g n (by simp only [Rel])
        · exact g.elim
      · exact g.elim
    · exact g.elim
  -- max
  · refine ⟨_, cr_max c.calm, fun {x v ad st H σ Q} n h g => ?_⟩
    simp only [ev1] at g
    split at g
    · rename_i q
      obtain ⟨a, vs, rfl, h1, h2⟩ := lst_ok n h q
      split at g
      · rename_i ns q2
        rw [rels_ints h2 q2] at h1
        rw [ck]
        split at g
        · rename_i y q3
          obtain ⟨m1, m2⟩ := List.max?_eq_some_iff.mp q3
          refine ⟨a, _, rfl, h1, List.length_pos_of_mem m1, fun z z1 z2 => ?_⟩
          rw [Int.le_antisymm (m2 z z1) (z2 y m1)]
          exact Good.d g n (by simp only [Rel])
        · exact g.elim
      · exact g.elim
    · exact g.elim
end
end L3
/-! L3G: operations of two operands -/
namespace L3
open PySem L2 PySem.Spec PyProof.Rows
section
variable {Γ : Gam} {G : Nm} {K : Ct} {W : WX} {n m : Nat} {X : Cx} {σ : L2.St} {ad : List Addr} {H : Hp} {st : St}
/-- lists that are written -/
theorem mut_ok {x : R} {v : V} {xs : List D} (n : Now Γ K ad st H) (h : RR Γ ad H x v) (e : x.mut? K st = some xs) : ∃ a vs, v = .ref a ∧ H a = some (.lst vs) ∧ Rels Γ.K ad H xs vs := by
  cases x with
  | fl ys =>
    simp only [R.mut?, Option.some.injEq] at e
    subst e
    obtain ⟨a, vs, h1, h2, _, h4⟩ := h
    exact ⟨a, vs, h1, h2, h4⟩
  | kt ys => simp [R.mut?] at e
  | fd t kvs => cases t <;> simp [R.mut?] at e
  | d y =>
    cases y <;> simp only [R.mut?, reduceCtorEq] at e
    rename_i k
    split at e
    · cases e
    rename_i hk
    simp only [RR, Rel] at h
    obtain ⟨a, h1, h2⟩ := h
    cases q : pick st k with
    | none => rw [show St.get st k = none from q] at e; simp at e
    | some c =>
      obtain ⟨b, e1, e2⟩ := n.rep.cell k c q
      rw [h1] at e1; cases e1
      rw [show St.get st k = some c from q] at e
      cases c <;> simp only [reduceCtorEq, Option.some.injEq] at e
      subst e
      obtain ⟨vs, z1, z2⟩ := e2
      exact ⟨a, vs, h2, z1.free (by simpa using hk), z2⟩
mutual
theorem plain_dp : ∀ {k : Nat} {d : D} {v : V}, D.plain k d = true → Rel Γ.K ad H d v → Dp Γ.K H v d.py
  | _, .non, v, _, h => by simp only [Rel] at h; subst h; simp only [D.py]; exact .non
  | _, .bl b, v, _, h => by simp only [Rel] at h; subst h; simp only [D.py]; exact .bl b
  | _, .int i, v, _, h => by simp only [Rel] at h; subst h; simp only [D.py]; exact .int i
  | _, .str x, v, _, h => by simp only [Rel] at h; subst h; simp only [D.py]; exact .str x
  | k, .ref m, v, e, h => by cases k <;> simp [D.plain] at e
  | 0, .tup ds, v, e, h => by simp [D.plain] at e
  | 0, .frz ds, v, e, h => by simp [D.plain] at e
  | 0, .ptup ds, v, e, h => by simp [D.plain] at e
  | k + 1, .tup ds, v, e, h => by
    simp only [D.plain] at e
    simp only [Rel] at h
    obtain ⟨a, vs, rfl, h1, h2⟩ := h
    simp only [D.py]
    exact .tup (SqT.of h1) (plains_dp e h2)
  | k + 1, .frz ds, v, e, h => by
    simp only [D.plain] at e
    simp only [Rel] at h
    obtain ⟨a, vs, rfl, h1, h2⟩ := h
    simp only [D.py]
    exact .lst h1.sq (plains_dp e h2)
  | k + 1, .ptup ds, v, e, h => by
    simp only [D.plain] at e
    simp only [Rel] at h
    obtain ⟨a, vs, rfl, h1, h2⟩ := h
    simp only [D.py]
    exact .tup h1.sq (plains_dp e h2)
theorem plains_dp : ∀ {k : Nat} {ds : List D} {vs : List V}, D.plains k ds = true → Rels Γ.K ad H ds vs → DpAll Γ.K H vs (D.pys ds)
  | _, [], vs, _, h => by simp only [Rels] at h; subst h; simp only [D.pys]; exact .nil
  | k, d :: ds, vs, e, h => by
    simp only [D.plains, Bool.and_eq_true] at e
    simp only [Rels] at h
    obtain ⟨v, r, rfl, h1, h2⟩ := h
    simp only [D.pys]
    exact .cons (plain_dp e.1 h1) (plains_dp e.2 h2)
end
mutual
theorem plain_lay : ∀ {k : Nat} {d : D}, D.plain k d = true → PyData.canLay0 d.py = true ∧ d.py.depth ≤ k
  | _, .non, _ => by simp [D.py, PyData.canLay0, PyData.depth]
  | _, .bl b, _ => by simp [D.py, PyData.canLay0, PyData.depth]
  | _, .int i, _ => by simp [D.py, PyData.canLay0, PyData.depth]
  | k, .str x, e => by
    have e : PyData.strOk x = true := by cases k <;> simpa [D.plain] using e
    simp [D.py, PyData.canLay0, PyData.depth, e]
  | k, .ref m, e => by cases k <;> simp [D.plain] at e
  | 0, .tup ds, e => by simp [D.plain] at e
  | 0, .frz ds, e => by simp [D.plain] at e
  | 0, .ptup ds, e => by simp [D.plain] at e
  | k + 1, .tup ds, e => by
    simp only [D.plain] at e
    have q := plains_lay e
    simp only [D.py, PyData.canLay0, PyData.depth]
    exact ⟨q.1, by omega⟩
  | k + 1, .frz ds, e => by
    simp only [D.plain] at e
    have q := plains_lay e
    simp only [D.py, PyData.canLay0, PyData.depth]
    exact ⟨q.1, by omega⟩
  | k + 1, .ptup ds, e => by
    simp only [D.plain] at e
    have q := plains_lay e
    simp only [D.py, PyData.canLay0, PyData.depth]
    exact ⟨q.1, by omega⟩
theorem plains_lay : ∀ {k : Nat} {ds : List D}, D.plains k ds = true → PyData.canLayAll0 (D.pys ds) = true ∧ PyData.depthAll (D.pys ds) ≤ k
  | _, [], _ => by simp [D.pys, PyData.canLayAll0, PyData.depthAll]
  | k, d :: ds, e => by
    simp only [D.plains, Bool.and_eq_true] at e
    have q1 := plain_lay e.1
    have q2 := plains_lay e.2
    simp only [D.pys, PyData.canLayAll0, PyData.depthAll, Bool.and_eq_true]
    exact ⟨⟨q1.1, q2.1⟩, by omega⟩
end
theorem shaped_of {d : PyData} (h : d.canLay0 = true) (h2 : d.depth ≤ 64) : SeqAt.shaped d = true := by
  simp only [SeqAt.shaped, Bool.and_eq_true, decide_eq_true_eq]
  exact ⟨h, h2⟩
theorem cmp_dp {x : R} {v : V} {d : PyData} (n : Now Γ K ad st H) (h : RR Γ ad H x v) (e : x.cmp st = some d) : Dp Γ.K H v d ∧ SeqAt.shaped d = true := by
  have ls : ∀ {xs : List D} {vs : List V} {a : Addr}, (if D.plains 40 xs = true then some (PyData.list (D.pys xs)) else none) = some d → SqL Γ.K H a vs → Rels Γ.K ad H xs vs → Dp Γ.K H (.ref a) d ∧ SeqAt.shaped d = true :=
    fun {xs vs a} e h1 h2 => by
      split at e
      · rename_i p
        cases e
        have q := plains_lay p
        exact ⟨.lst h1 (plains_dp p h2), shaped_of (by simp only [PyData.canLay0]; exact q.1) (by simp only [PyData.depth]; omega)⟩
      · cases e
  cases x with
  | fl ys =>
    obtain ⟨a, vs, rfl, h2, _, h4⟩ := h
    exact ls e (SqL.of h2) h4
  | kt ys =>
    obtain ⟨a, vs, rfl, h2, h4⟩ := h
    simp only [R.cmp] at e
    split at e
    · rename_i p
      cases e
      have q := plains_lay p
      exact ⟨.tup h2.sq (plains_dp p h4), shaped_of (by simp only [PyData.canLay0]; exact q.1) (by simp only [PyData.depth]; omega)⟩
    · cases e
  | fd t kvs => simp [R.cmp] at e
  | d y =>
    have gen : (if D.plain 40 y = true then some y.py else none) = some d → Dp Γ.K H v d ∧ SeqAt.shaped d = true := fun e => by
      split at e
      · rename_i p
        cases e
        have q := plain_lay p
        exact ⟨plain_dp p h, shaped_of q.1 (by omega)⟩
      · cases e
    cases y <;> first | exact gen e | skip
    rename_i k
    simp only [R.cmp] at e
    simp only [RR, Rel] at h
    obtain ⟨a, h1, rfl⟩ := h
    cases q : pick st k with
    | none => rw [show St.get st k = none from q] at e; simp at e
    | some c =>
      obtain ⟨b, e1, e2⟩ := n.rep.cell k c q
      rw [h1] at e1; cases e1
      rw [show St.get st k = some c from q] at e
      cases c <;> simp only [reduceCtorEq] at e
      obtain ⟨vs, z1, z2⟩ := e2
      exact ls e (.inl z1.rd) z2

/-! ### x in t of data -/
def rInT (K : PySem.W.Frag) (neg : Bool) : R2 := fun x y H Q => ∃ d ds, Dp K H x d ∧ Dp K H y (.tuple ds) ∧ SeqAt.shaped d = true ∧ SeqAt.shaped (.tuple ds) = true ∧ Q (.bl (if neg then !(ds.any fun z => PyData.eqv z d) else ds.any fun z => PyData.eqv z d)) H
theorem lay_plainAll : ∀ {ds : List PyData}, PyData.canLayAll0 ds = true → PyData.plainAll ds = true
  | [], _ => by simp [PyData.plainAll]
  | d :: ds, h => by
    simp only [PyData.canLayAll0, Bool.and_eq_true] at h
    simp only [PyData.plainAll, Bool.and_eq_true]
    exact ⟨PyData.plain_of_canLay0 d h.1, lay_plainAll h.2⟩
theorem op_inT (hu : X.A.units + 65 < cLine) : OpR X (compareOp .In) (rInT X.K false) := by
  intro pins s σ H x y v u Q I rx ry h
  obtain ⟨d, ds, hd, he, sd, se, q⟩ := h
  obtain ⟨as, r1⟩ := Dp.reads I d x v hd rx
  obtain ⟨bs, r2⟩ := Dp.reads I (.tuple ds) y u he ry
  have l1 := SeqAt.canLay_of_shaped sd
  have l2 := SeqAt.canLay_of_shaped se
  simp only [PyData.canLay0] at l2
  exact SeqAt.in_tuple_data r2 r1 (lay_plainAll l2) (PyData.plain_of_canLay0 d l1) (room_in_shaped sd hu) ⟨.bl _, H, I, rfl, q⟩
theorem op_notInT (hu : X.A.units + 65 < cLine) : OpR X (compareOp .NotIn) (rInT X.K true) := by
  intro pins s σ H x y v u Q I rx ry h
  obtain ⟨d, ds, hd, he, sd, se, q⟩ := h
  obtain ⟨as, r1⟩ := Dp.reads I d x v hd rx
  obtain ⟨bs, r2⟩ := Dp.reads I (.tuple ds) y u he ry
  have l1 := SeqAt.canLay_of_shaped sd
  have l2 := SeqAt.canLay_of_shaped se
  simp only [PyData.canLay0] at l2
  exact SeqAt.notIn_tuple_data r2 r1 (lay_plainAll l2) (PyData.plain_of_canLay0 d l1) (room_in_shaped sd hu) ⟨.bl _, H, I, rfl, q⟩
theorem pys_any (f : PyData → Bool) : ∀ xs : List D, (D.pys xs).any f = xs.any fun z => f z.py
  | [] => rfl
  | x :: xs => by simp only [D.pys, List.any_cons, pys_any f xs]
end
end L3
/-! L3GA: lists put together, also such as nobody writes -/
namespace L3
open PySem L2 PySem.Spec PyProof.Rows
section
variable {X : Cx}
theorem op_catL : OpR X (binaryOp .Add) (fun x y H Q => ∃ (l b : Addr) (xs zs : List V), x = .ref l ∧ y = .ref b ∧ SqL X.K H l xs ∧ SqL X.K H b zs ∧ xs.length + zs.length ≤ sizeLine ∧ ∀ p, H p = none → Q (.ref p) (upd H p (.lst (xs ++ zs)))) := by
  intro pins s σ H x y v u Q I rx ry h
  obtain ⟨l, b, xs, zs, rfl, rfl, hH, hB, hz, q⟩ := h
  cases rx
  cases ry
  obtain ⟨its, r, p1, z1⟩ := I.list hH
  obtain ⟨its2, r2, p2, z2⟩ := I.list hB
  obtain ⟨⟨cls, dd, data, sl⟩, ho, hc, n, hd⟩ := id p1.isList
  obtain ⟨⟨cls2, dd2, data2, sl2⟩, ho2, hc2, n2, hd2⟩ := id p2.isList
  simp only at hc hd hc2 hd2
  subst hc hd hc2 hd2
  have sz : its.toArray.size + its2.toArray.size ≤ sizeLine := by rw [List.size_toArray, List.size_toArray, ← r.length, ← r2.length]; exact hz
  refine concat_meets ⟨_, ho, rfl⟩ ⟨_, ho2, rfl⟩ noFill_list_add seq_list_add PySem.F.slot_list_add PySem.F.entry_list_add (PySem.F.args_list_add_2 _ _) (list_addW l b its.toArray its2.toArray n n2 dd dd2 sl sl2 sz) ⟨ho, ho2, ?_⟩
  rw [show its.toArray ++ its2.toArray = (its ++ its2).toArray by simp]
  exact ⟨.ref _, _, I.lnew (t' := s.toks) (r.append r2) (by rw [List.length_append]; omega), rfl, q _ I.fresh⟩
end
end L3
/-! L3H: operators -/
namespace L3
open PySem L2 PySem.Spec PyProof.Rows
section
variable {Γ : Gam} {G : Nm} {K : Ct} {W : WX} {n m : Nat} {X : Cx} {σ : L2.St} {ad ad1 : List Addr} {H H1 : Hp} {st : St} {ρ : Env}
theorem RR.step {x : R} {v : V} (s : Step ad H ad1 H1) (h : RR Γ ad H x v) : RR Γ ad1 H1 x v := by
  obtain ⟨p, e, hp⟩ := s.pre
  have out : ∀ {a : Addr}, H a ≠ none → a ∉ ad → a ∉ ad1 := fun {a} z w q => by
    rw [e] at q
    rcases List.mem_append.mp q with q | q
    · exact z (hp a q)
    · exact w q
  cases x with
  | d y => exact Rel.mv s.mv h
  | kt ys => obtain ⟨a, vs, h1, h2, h4⟩ := h; exact ⟨a, vs, h1, h2, Rels.mv s.mv h4⟩
  | fl xs =>
    obtain ⟨a, vs, h1, h2, h3, h4⟩ := h
    exact ⟨a, vs, h1, s.keep _ _ h2 h3, out (by rw [h2]; simp) h3, Rels.mv s.mv h4⟩
  | fd t kvs =>
    cases t with
    | false =>
      obtain ⟨a, vs, h1, h2, h3, h4⟩ := h
      exact ⟨a, vs, h1, s.keep _ _ h2 h3, out (by rw [h2]; simp) h3, Kv.mv s.mv h4⟩
    | true =>
      obtain ⟨a, vs, h1, h2, h3, h4⟩ := h
      exact ⟨a, vs, h1, s.keep _ _ h2 h3, out (by rw [h2]; simp) h3, Kv.mv s.mv h4⟩
/-- two operands, then what they ask -/
theorem two {α β : Type} {val : Val α β} {da db : Env → St → Out R} {pre : R → St → Bool} {ev : R → R → St → Out α} {T : V → V → Hp → Prop} {P : V → Hp → Prop} {Q : β → Hp → Prop} (now : Now Γ K ad st H) (env : EnvR Γ ad H ρ σ)
    (g : Good Γ K W σ ad H val ((da ρ st).bind fun x st => if pre x st then (db ρ st).bind fun y st => ev x y st else .bad) Q)
    (hp : ∀ {ad st H x v}, Now Γ K ad st H → RR Γ ad H x v → pre x st = true → P v H)
    (fin : ∀ {ad st H x y v w}, Now Γ K ad st H → RR Γ ad H x v → RR Γ ad H y w → Good Γ K W σ ad H val (ev x y st) Q → T v w H) :
    tG Γ K W (vR Γ) da σ H (fun v H1 => P v H1 ∧ tG Γ K W (vR Γ) db σ H1 (fun w H2 => T v w H2)) := by
  refine stage now env g fun ad1 st1 x v H1 s1 n1 e1 r1 g1 => ?_
  split at g1
  · rename_i hpre
    refine ⟨hp n1 r1.1 hpre, ?_⟩
    exact stage n1 e1 g1 fun ad2 st2 y w H2 s2 n2 e2 r2 g2 => fin n2 (r1.1.step s2) r2.1 g2
  · exact g1.elim
theorem two' {α β : Type} {val : Val α β} {da db : Env → St → Out R} {ev : R → R → St → Out α} {T : V → V → Hp → Prop} {Q : β → Hp → Prop} (now : Now Γ K ad st H) (env : EnvR Γ ad H ρ σ)
    (g : Good Γ K W σ ad H val ((da ρ st).bind fun x st => (db ρ st).bind fun y st => ev x y st) Q)
    (fin : ∀ {ad st H x y v w}, Now Γ K ad st H → RR Γ ad H x v → RR Γ ad H y w → Good Γ K W σ ad H val (ev x y st) Q → T v w H) :
    tG Γ K W (vR Γ) da σ H (fun v H1 => tG Γ K W (vR Γ) db σ H1 (fun w H2 => T v w H2)) := by
  refine stage now env g fun ad1 st1 x v H1 s1 n1 e1 r1 g1 => ?_
  exact stage n1 e1 g1 fun ad2 st2 y w H2 s2 n2 e2 r2 g2 => fin n2 (r1.1.step s2) r2.1 g2

theorem mulX_of {i j : Int} (h : i.natAbs.log2 + j.natAbs.log2 < 100000000) : CMulX i j := by
  have b : ∀ x : Int, Builtin.Int.intBits x ≤ x.natAbs.log2 + 1 := fun x => by
    unfold Builtin.Int.intBits
    split <;> omega
  have h1 := b i
  have h2 := b j
  show (Builtin.Int.intBits i : Int) + (Builtin.Int.intBits j : Int) ≤ 134217728
  omega
/-- a text, no times or once -/
theorem op_mulS : OpR X (binaryOp .Mult) (fun x y H Q => (∃ z, x = .str z ∧ y = .int 0 ∧ Q (.str Str.empty) H) ∨ ∃ z, x = .str z ∧ y = .int 1 ∧ Q (.str z) H) := by
  intro pins s σ H x y v u Q I rx ry h
  rcases h with ⟨z, rfl, rfl, q⟩ | ⟨z, rfl, rfl, q⟩
  · obtain ⟨t, rfl⟩ := rx
    obtain ⟨t', rfl⟩ := ry
    exact P.mul_str_none (by decide) (by decide) ⟨.str Str.empty, H, I.tok _, ⟨_, rfl⟩, q⟩
  · obtain ⟨t, rfl⟩ := rx
    obtain ⟨t', rfl⟩ := ry
    refine P.mul_str (by decide) (fun _ e => by simp at e) (fun _ e => by simp at e) ?_
    rw [if_neg (by decide), if_pos (by simp)]
    exact ⟨.str z, H, I, ⟨_, rfl⟩, q⟩
def p2op : P2 → Option Operator
  | .add => some .Add | .sub => some .Sub | .mul => some .Mult | .fdiv => some .FloorDiv | .mod => some .Mod | .pow => some .Pow
  | _ => none
def p2cmp : P2 → Option CmpOp
  | .eq => some .Eq | .ne => some .NotEq | .lt => some .Lt | .le => some .LtE | .gt => some .Gt | .ge => some .GtE | .inn => some .In | .notin => some .NotIn
  | _ => none
theorem rel_int {v : V} {i : Int} (h : RR Γ ad H (.d (.int i)) v) : v = .int i := by simpa only [RR, Rel] using h
theorem rel_str {v : V} {i : Str} (h : RR Γ ad H (.d (.str i)) v) : v = .str i := by simpa only [RR, Rel] using h
theorem rel_bl {v : V} {i : Bool} (h : RR Γ ad H (.d (.bl i)) v) : v = .bl i := by simpa only [RR, Rel] using h
theorem d_int {i : Int} : Rel Γ.K ad H (.int i) (.int i) := by simp only [Rel]
theorem d_bl {i : Bool} : Rel Γ.K ad H (.bl i) (.bl i) := by simp only [Rel]
theorem d_str {i : Str} : Rel Γ.K ad H (.str i) (.str i) := by simp only [Rel]
theorem rels_nil {vs : List V} (h : Rels Γ.K ad H [] vs) : vs = [] := by simpa only [Rels] using h
theorem rels_flat {xs : List D} {vs : List V} (k : Nat) (h : Rels Γ.K ad H xs vs) : Rels Γ.K ad H (List.replicate k xs).flatten (List.replicate k vs).flatten := by
  induction k with
  | zero => simp [Rels]
  | succ k ih => rw [List.replicate_succ, List.replicate_succ, List.flatten_cons, List.flatten_cons]; exact h.append ih
/-- what an operator asks -/
theorem op_ok (c : CxOk Γ G W m X) (f : P2) {op : Operator} (e : p2op f = some op) :
    ∃ r, OpR X (binaryOp op) r ∧ ∀ {x y : R} {v w : V} {ad : List Addr} {st : St} {H : Hp} {σ : L2.St} {Q : VK}, Now Γ K ad st H → RR Γ ad H x v → RR Γ ad H y w → Good Γ K W σ ad H (vR Γ) (ev2 f K x y st) Q → r v w H Q := by
  have ck := c.K
  cases f <;> simp only [p2op, Option.some.injEq, reduceCtorEq] at e <;> subst e
  -- add
  · refine ⟨_, op_add.or (op_add_str.or (op_catA.or op_catL)), fun {x y v w ad st H σ Q} n h h' g => ?_⟩
    simp only [ev2] at g
    split at g
    · cases rel_int h; cases rel_int h'
      exact .inl ⟨_, _, rfl, rfl, Good.d g n d_int⟩
    · split at g
      · rename_i hz
        cases rel_str h; cases rel_str h'
        exact .inr (.inl ⟨_, _, rfl, rfl, hz, Good.d g n d_str⟩)
      · exact g.elim
    · split at g
      · rename_i a b hz
        simp only [RR, Rel] at h h'
        obtain ⟨p, vs, rfl, h1, h2⟩ := h
        obtain ⟨q, us, rfl, h3, h4⟩ := h'
        refine .inr (.inr (.inl ⟨p, q, vs, us, rfl, rfl, SqT.of h1, SqT.of h3, by rw [← h2.length, ← h4.length]; exact hz, fun z => ?_, fun z z' => ?_, fun z z' l hl => ?_⟩))
        · subst z
          have : a = [] := List.length_eq_zero_iff.mp (by rw [h2.length]; rfl)
          subst this
          exact Good.d g n (by simp only [Rel]; exact ⟨q, us, rfl, h3, h4⟩)
        · subst z'
          have : b = [] := List.length_eq_zero_iff.mp (by rw [h4.length]; rfl)
          subst this
          rw [List.append_nil] at g
          exact Good.d g n (by simp only [Rel]; exact ⟨p, vs, rfl, h1, h2⟩)
        · exact Good.new g n hl (rr_tup n hl (h2.append h4))
      · exact g.elim
    · split at g
      · split at g
        · rename_i a b q1 q2 hz
          obtain ⟨p, vs, rfl, h1, h2⟩ := lst_ok n h q1
          obtain ⟨q, us, rfl, h3, h4⟩ := lst_ok n h' q2
          exact .inr (.inr (.inr ⟨p, q, vs, us, rfl, rfl, by rw [ck]; exact h1, by rw [ck]; exact h3, by rw [← h2.length, ← h4.length]; exact hz, fun l hl => Good.new g n hl (rr_new n hl (h2.append h4))⟩))
        · exact g.elim
      · exact g.elim
  -- sub
  · refine ⟨_, op_sub, fun {x y v w ad st H σ Q} n h h' g => ?_⟩
    simp only [ev2] at g
    split at g
    · cases rel_int h; cases rel_int h'
      exact ⟨_, _, rfl, rfl, Good.d g n d_int⟩
    · exact g.elim
  -- mul
  · refine ⟨_, (op_mulX.or (op_mulS.or op_rep)), fun {x y v w ad st H σ Q} n h h' g => ?_⟩
    simp only [ev2] at g
    split at g
    · split at g
      · rename_i hz
        cases rel_int h; cases rel_int h'
        exact .inl ⟨_, _, rfl, rfl, mulX_of hz, Good.d g n d_int⟩
      · exact g.elim
    · cases rel_str h; cases rel_int h'
      split at g
      · rename_i hz
        subst hz
        exact .inr (.inl (.inl ⟨_, rfl, rfl, Good.d g n (by simp only [Rel])⟩))
      · split at g
        · rename_i hz
          subst hz
          exact .inr (.inl (.inr ⟨_, rfl, rfl, Good.d g n (by simp only [Rel])⟩))
        · exact g.elim
    · split at g
      · split at g
        · rename_i q hz
          simp only [Bool.and_eq_true, decide_eq_true_eq] at hz
          obtain ⟨p, vs, rfl, h1, h2⟩ := mut_ok n h q
          cases rel_int h'
          exact .inr (.inr ⟨p, _, vs, rfl, rfl, h1, hz.1.1, hz.1.2, by rw [← h2.length]; exact hz.2, fun l hl => Good.new g n hl (rr_new n hl (rels_flat _ h2))⟩)
        · exact g.elim
      · exact g.elim
    · exact g.elim
  -- fdiv
  · refine ⟨_, op_fdivW.or op_fdivN, fun {x y v w ad st H σ Q} n h h' g => ?_⟩
    simp only [ev2] at g
    split at g
    · cases rel_int h; cases rel_int h'
      split at g
      · rename_i hz
        exact .inl ⟨_, _, rfl, rfl, hz, Good.d g n d_int⟩
      · split at g
        · rename_i hz
          exact .inr ⟨_, _, rfl, rfl, hz, Good.d g n d_int⟩
        · exact g.elim
    · exact g.elim
  -- mod
  · refine ⟨_, op_mod.or op_modN, fun {x y v w ad st H σ Q} n h h' g => ?_⟩
    simp only [ev2] at g
    split at g
    · cases rel_int h; cases rel_int h'
      split at g
      · rename_i hz
        exact .inl ⟨_, _, rfl, rfl, hz, Good.d g n d_int⟩
      · split at g
        · rename_i hz
          exact .inr ⟨_, _, rfl, rfl, hz, Good.d g n d_int⟩
        · exact g.elim
    · exact g.elim
  -- pow
  · refine ⟨_, op_pow, fun {x y v w ad st H σ Q} n h h' g => ?_⟩
    simp only [ev2] at g
    split at g
    · cases rel_int h; cases rel_int h'
      split at g
      · rename_i hz
        exact ⟨_, _, rfl, rfl, hz, Good.d g n d_int⟩
      · exact g.elim
    · exact g.elim
/-! ### dict reads -/
theorem key_v {k : D} {v : V} {q : Key} (e : keyK k = some q) (h : Rel Γ.K ad H k v) : v = kV q := by
  cases k <;> simp only [keyK, Option.some.injEq, reduceCtorEq] at e <;> subst e <;> simpa only [Rel, kV] using h
theorem keyK_inj {a b : D} {q : Key} (e : keyK a = some q) (e' : keyK b = some q) : a = b := by
  cases a <;> simp only [keyK, Option.some.injEq, reduceCtorEq] at e <;> subst e <;> cases b <;> simp only [keyK, Option.some.injEq, reduceCtorEq, Sum.inl.injEq, Sum.inr.injEq] at e' <;> subst e' <;> rfl
theorem keysK_inj : ∀ {a b : List D} {q : List Key}, keysK a = some q → keysK b = some q → a = b
  | [], [], _, _, _ => rfl
  | [], y :: b, q, e, e' => by
    simp only [keysK, Option.some.injEq] at e; subst e
    simp only [keysK, Option.bind_eq_some_iff, Option.map_eq_some_iff] at e'
    obtain ⟨_, _, _, _, z⟩ := e'; cases z
  | x :: a, [], q, e, e' => by
    simp only [keysK, Option.some.injEq] at e'; subst e'
    simp only [keysK, Option.bind_eq_some_iff, Option.map_eq_some_iff] at e
    obtain ⟨_, _, _, _, z⟩ := e; cases z
  | x :: a, y :: b, q, e, e' => by
    simp only [keysK, Option.bind_eq_some_iff, Option.map_eq_some_iff] at e e'
    obtain ⟨k, k1, l, l1, rfl⟩ := e
    obtain ⟨k', k2, l', l2, z⟩ := e'
    injection z with z1 z2
    subst z1 z2
    rw [keyK_inj k1 k2, keysK_inj l1 l2]
theorem keyT_inj {a b : D} {q : List Key} (e : keyT a = some q) (e' : keyT b = some q) : a = b := by
  cases a <;> simp only [keyT, reduceCtorEq] at e
  cases b <;> simp only [keyT, reduceCtorEq] at e'
  rw [keysK_inj e e']
/-- looked up in a dict -/
theorem kv_get {κ : Type} [DecidableEq κ] {key : D → Option κ} (inj : ∀ {a b q}, key a = some q → key b = some q → a = b) {k : D} {q : κ} (ek : key k = some q) :
    ∀ {kvs : Kvs} {kv : List (κ × V)}, Kv key Γ.K ad H kvs kv → (kvGet kvs k = none ∧ valV kv q = none) ∨ ∃ d v, kvGet kvs k = some d ∧ valV kv q = some v ∧ Rel Γ.K ad H d v
  | [], _, h => by simp only [Kv] at h; subst h; exact .inl ⟨rfl, rfl⟩
  | p :: r, _, h => by
    simp only [Kv] at h
    obtain ⟨k', v, t, rfl, h1, h2, h3⟩ := h
    by_cases e : p.1 = k
    · have e' : k' = q := Option.some.inj (by rw [← h1, ← ek, e])
      subst e'
      exact .inr ⟨p.2, v, by simp [kvGet, List.find?_cons, e], valV_pos rfl, h2⟩
    · have e' : ¬ k' = q := fun z => e (inj h1 (by rw [z]; exact ek))
      have a1 : kvGet (p :: r) k = kvGet r k := by simp [kvGet, List.find?_cons, e]
      rw [a1, valV_neg e']
      exact kv_get inj ek h3
theorem kv_has {κ : Type} [DecidableEq κ] {key : D → Option κ} (inj : ∀ {a b q}, key a = some q → key b = some q → a = b) {k : D} {q : κ} (ek : key k = some q) {kvs : Kvs} {kv : List (κ × V)} (h : Kv key Γ.K ad H kvs kv) : kvHas kvs k = (valV kv q).isSome := by
  have e : kvHas kvs k = (kvGet kvs k).isSome := by
    unfold kvHas kvGet
    clear ek
    induction kvs generalizing kv with
    | nil => rfl
    | cons p r ih =>
      by_cases e : p.1 = k
      · simp [List.find?_cons, e]
      · simp only [List.any_cons, List.find?_cons, e, decide_false, Bool.false_or]
        simp only [Kv] at h
        obtain ⟨_, _, t, _, _, _, h⟩ := h
        exact ih h
  rcases kv_get inj ek h with ⟨a, b⟩ | ⟨d, v, a, b, _⟩
  · rw [e, a, b]; rfl
  · rw [e, a, b]; rfl
theorem atoms_keys : ∀ {ds : List D}, D.atoms ds = true → ∃ q, keysK ds = some q
  | [], _ => ⟨[], rfl⟩
  | d :: ds, h => by
    simp only [D.atoms, Bool.and_eq_true] at h
    obtain ⟨q, e⟩ := atoms_keys h.2
    cases d <;> simp only [D.atom, Bool.false_eq_true, false_and] at h
    · rename_i i; exact ⟨.inl i :: q, by simp [keysK, keyK, e]⟩
    · rename_i i; exact ⟨.inr i :: q, by simp [keysK, keyK, e]⟩
theorem keys_vs : ∀ {ds : List D} {vs : List V} {q : List Key}, keysK ds = some q → Rels Γ.K ad H ds vs → vs = q.map kV
  | [], _, _, e, h => by simp only [keysK, Option.some.injEq] at e; subst e; simpa only [Rels, List.map_nil] using h
  | d :: ds, _, _, e, h => by
    simp only [keysK, Option.bind_eq_some_iff, Option.map_eq_some_iff] at e
    obtain ⟨k, k1, l, l1, rfl⟩ := e
    simp only [Rels] at h
    obtain ⟨v, r, rfl, h1, h2⟩ := h
    rw [key_v k1 h1, keys_vs l1 h2]; rfl
theorem keyOk_K {k : D} (h : keyOk false k = true) : ∃ q, keyK k = some q := by
  cases k <;> simp [keyOk] at h
  · exact ⟨_, rfl⟩
  · exact ⟨_, rfl⟩
theorem keyOk_T {k : D} (h : keyOk true k = true) : ∃ ds q, k = .tup ds ∧ keysK ds = some q := by
  cases k <;> simp [keyOk] at h
  obtain ⟨q, e⟩ := atoms_keys h
  exact ⟨_, q, rfl, e⟩
end
end L3
/-! L3I: comparisons, subscripts, methods -/
namespace L3
open PySem L2 PySem.Spec PyProof.Rows
section
variable {Γ : Gam} {G : Nm} {K : Ct} {W : WX} {n m : Nat} {X : Cx} {σ : L2.St} {ad ad1 : List Addr} {H H1 : Hp} {st : St} {ρ : Env}
/-! ### dicts -/
theorem op_dinR (hu : X.A.units + 1 < cLine) : OpR X (compareOp .In) (fun x y H Q => ∃ a o, y = .ref a ∧ DGet H a x o ∧ Q (.bl o.isSome) H) := by
  intro pins s σ H x y v u Q I rx ry h
  obtain ⟨a, o, rfl, g, q⟩ := h
  obtain rfl : u = Value.ref a := ry
  exact d_in hu I g rx fun s3 I3 => ⟨.bl _, H, I3, rfl, q⟩
theorem op_dnotinR (hu : X.A.units + 1 < cLine) : OpR X (compareOp .NotIn) (fun x y H Q => ∃ a o, y = .ref a ∧ DGet H a x o ∧ Q (.bl (!o.isSome)) H) := by
  intro pins s σ H x y v u Q I rx ry h
  obtain ⟨a, o, rfl, g, q⟩ := h
  obtain rfl : u = Value.ref a := ry
  exact d_notIn hu I g rx fun s3 I3 => ⟨.bl _, H, I3, rfl, q⟩
theorem ix_dict (hu : X.A.units + 1 < cLine) : IxR X (fun x y H Q => ∃ a v, x = .ref a ∧ DGet H a y (some v) ∧ Q v H) := by
  intro value slice pins s σ H x y v u Q I rx ry h hs
  obtain ⟨a, r, rfl, g, q⟩ := h
  obtain rfl : v = Value.ref a := rx
  exact tail_any (dict_typeIs I g) PySem.F.slot_dict_getitem.lookup (d_getItem hu I g ry fun w' s' I' rw' => ⟨r, H, I', rw', q⟩) hs
/-- looked up -/
theorem dget_ok {x : R} {v kv : V} {t : Bool} {kvs : Kvs} {k : D} (n : Now Γ K ad st H) (h : RR Γ ad H x v) (e : x.kvs st = some (t, kvs)) (hk : keyOk t k = true) (h' : Rel Γ.K ad H k kv) :
    ∃ a o, v = .ref a ∧ DGet H a kv o ∧ IsD H a ∧ kvHas kvs k = o.isSome ∧ ((kvGet kvs k = none ∧ o = none) ∨ ∃ d w, kvGet kvs k = some d ∧ o = some w ∧ Rel Γ.K ad H d w) := by
  obtain ⟨a, rfl, ⟨rfl, kv', r, w⟩ | ⟨rfl, kv', r, w⟩⟩ := kvs_ok n h e
  · obtain ⟨q, eq⟩ := keyOk_K hk
    have z := kv_get (fun e e' => keyK_inj e e') eq w
    refine ⟨a, _, rfl, .inl ⟨kv', q, r, key_v eq h', rfl⟩, .inl ⟨kv', r⟩, kv_has (fun e e' => keyK_inj e e') eq w, ?_⟩
    rcases z with ⟨z1, z2⟩ | ⟨d, u, z1, z2, z3⟩
    · exact .inl ⟨z1, z2⟩
    · exact .inr ⟨d, u, z1, z2, z3⟩
  · obtain ⟨ds, q, rfl, eq⟩ := keyOk_T hk
    simp only [Rel] at h'
    obtain ⟨b, vs, rfl, hb, hv⟩ := h'
    have eq' : keyT (.tup ds) = some q := eq
    have z := kv_get (fun e e' => keyT_inj e e') eq' w
    refine ⟨a, _, rfl, .inr ⟨kv', q, b, r, rfl, ?_, rfl⟩, .inr ⟨kv', r⟩, kv_has (fun e e' => keyT_inj e e') eq' w, ?_⟩
    · rw [hb, keys_vs eq hv]
    · rcases z with ⟨z1, z2⟩ | ⟨d, u, z1, z2, z3⟩
      · exact .inl ⟨z1, z2⟩
      · exact .inr ⟨d, u, z1, z2, z3⟩
/-- what a comparison asks -/
theorem cmp_ok (c : CxOk Γ G W m X) (f : P2) {op : CmpOp} (e : p2cmp f = some op) :
    ∃ r, OpR X (compareOp op) r ∧ ∀ {x y : R} {v w : V} {ad : List Addr} {st : St} {H : Hp} {σ : L2.St} {Q : VK}, Now Γ K ad st H → RR Γ ad H x v → RR Γ ad H y w → Good Γ K W σ ad H (vR Γ) (ev2 f K x y st) Q → r v w H Q := by
  have ck := c.K
  have dg : ∀ {x y : R} {v w : V} {ad : List Addr} {st : St} {H : Hp} {k : D} {t : Bool} {kvs : Kvs}, Now Γ K ad st H → RR Γ ad H (.d k) v → RR Γ ad H y w → y.kvs st = some (t, kvs) → keyOk t k = true → ∃ a o, w = .ref a ∧ DGet H a v o ∧ kvHas kvs k = o.isSome :=
    fun n h h' e hk => let ⟨a, o, h1, h2, _, h4, _⟩ := dget_ok n h' e hk h; ⟨a, o, h1, h2, h4⟩
  have sh : ∀ {xs : List D}, D.plains 40 xs = true → SeqAt.shaped (.list (D.pys xs)) = true ∧ SeqAt.shaped (.tuple (D.pys xs)) = true := fun {xs} p => by
    have q := plains_lay p
    exact ⟨shaped_of (by simp only [PyData.canLay0]; exact q.1) (by simp only [PyData.depth]; omega), shaped_of (by simp only [PyData.canLay0]; exact q.1) (by simp only [PyData.depth]; omega)⟩
  have s1 : ∀ {x : D}, D.plain 40 x = true → SeqAt.shaped x.py = true := fun {x} p => by
    have q := plain_lay p
    exact shaped_of q.1 (by omega)
  cases f <;> simp only [p2cmp, Option.some.injEq, reduceCtorEq] at e <;> subst e
  -- eq
  · refine ⟨_, op_eqD c.units, fun {x y v w ad st H σ Q} n h h' g => ?_⟩
    simp only [ev2] at g
    split at g
    · rename_i a b q1 q2
      obtain ⟨p1, p2⟩ := cmp_dp n h q1
      obtain ⟨p3, p4⟩ := cmp_dp n h' q2
      rw [ck]
      exact ⟨a, b, p1, p3, p2, p4, Good.d g n d_bl⟩
    · exact g.elim
  -- ne
  · refine ⟨_, op_neD c.units, fun {x y v w ad st H σ Q} n h h' g => ?_⟩
    simp only [ev2] at g
    split at g
    · rename_i a b q1 q2
      obtain ⟨p1, p2⟩ := cmp_dp n h q1
      obtain ⟨p3, p4⟩ := cmp_dp n h' q2
      rw [ck]
      exact ⟨a, b, p1, p3, p2, p4, Good.d g n d_bl⟩
    · exact g.elim
  iterate 4
    · refine ⟨_, by first | exact op_lt | exact op_le | exact op_gt | exact op_ge, fun {x y v w ad st H σ Q} n h h' g => ?_⟩
      simp only [ev2] at g
      split at g
      · cases rel_int h; cases rel_int h'
        exact ⟨_, _, rfl, rfl, Good.d g n d_bl⟩
      · exact g.elim
  -- in
  · refine ⟨_, (op_dinR c.hu).or ((op_inD (by have := c.room.un; omega)).or ((op_inT (by have := c.room.un; omega)).or op_in_sign)), fun {x y v w ad st H σ Q} n h h' g => ?_⟩
    simp only [ev2, if_true] at g
    split at g
    · split at g
      · split at g
        · rename_i t kvs q _ k hk
          obtain ⟨a, o, h1, h2, h3⟩ := dg (x := .d k) n h h' q hk
          exact .inl ⟨a, o, h1, h2, by rw [← h3]; exact Good.d g n d_bl⟩
        · exact g.elim
      · exact g.elim
    · split at g
      · split at g
        · split at g
          · rename_i c1 _ z hi hz hc
            cases rel_str h; cases rel_str h'
            refine .inr (.inr (.inr ⟨c1.cps.toList.headD 0, z, ?_, rfl, Good.d g n d_bl⟩))
            obtain ⟨a, ha⟩ := List.length_eq_one_iff.mp hc
            rw [ha]
            show V.str c1 = V.str ⟨#[a]⟩
            have : c1.cps = #[a] := by rw [← Array.toList_inj]; exact ha
            cases c1
            simp only at this
            rw [this]
          · exact g.elim
        · exact g.elim
      · split at g
        · rename_i k xs q hp
          simp only [Bool.and_eq_true] at hp
          rw [ck]
          obtain ⟨a, vs, rfl, h2, h1 | ⟨rfl, h1⟩ | ⟨rfl, h1⟩ | ⟨rfl, h1⟩⟩ := items_k n h' q
          · exact .inr (.inl ⟨k.py, D.pys xs, plain_dp hp.1 h, .lst h1 (plains_dp hp.2 h2), s1 hp.1, (sh hp.2).1, by rw [pys_any]; exact Good.d g n d_bl⟩)
          · exact .inr (.inr (.inl ⟨k.py, D.pys xs, plain_dp hp.1 h, .tup (SqT.of h1) (plains_dp hp.2 h2), s1 hp.1, (sh hp.2).2, by rw [pys_any]; exact Good.d g n d_bl⟩))
          · exact .inr (.inr (.inl ⟨k.py, D.pys xs, plain_dp hp.1 h, .tup h1.sq (plains_dp hp.2 h2), s1 hp.1, (sh hp.2).2, by rw [pys_any]; exact Good.d g n d_bl⟩))
          · exact .inr (.inr (.inl ⟨k.py, D.pys xs, plain_dp hp.1 h, .tup h1 (plains_dp hp.2 h2), s1 hp.1, (sh hp.2).2, by rw [pys_any]; exact Good.d g n d_bl⟩))
        · exact g.elim
      · exact g.elim
  -- not in
  · refine ⟨_, (op_dnotinR c.hu).or ((op_notInD (by have := c.room.un; omega)).or ((op_notInT (by have := c.room.un; omega)).or op_notIn_sign)), fun {x y v w ad st H σ Q} n h h' g => ?_⟩
    simp only [ev2, reduceCtorEq, if_false] at g
    split at g
    · split at g
      · split at g
        · rename_i t kvs q _ k hk
          obtain ⟨a, o, h1, h2, h3⟩ := dg (x := .d k) n h h' q hk
          exact .inl ⟨a, o, h1, h2, by rw [← h3]; exact Good.d g n d_bl⟩
        · exact g.elim
      · exact g.elim
    · split at g
      · split at g
        · split at g
          · rename_i c1 _ z hi hz hc
            cases rel_str h; cases rel_str h'
            refine .inr (.inr (.inr ⟨c1.cps.toList.headD 0, z, ?_, rfl, Good.d g n d_bl⟩))
            obtain ⟨a, ha⟩ := List.length_eq_one_iff.mp hc
            rw [ha]
            show V.str c1 = V.str ⟨#[a]⟩
            have : c1.cps = #[a] := by rw [← Array.toList_inj]; exact ha
            cases c1
            simp only at this
            rw [this]
          · exact g.elim
        · exact g.elim
      · split at g
        · rename_i k xs q hp
          simp only [Bool.and_eq_true] at hp
          rw [ck]
          obtain ⟨a, vs, rfl, h2, h1 | ⟨rfl, h1⟩ | ⟨rfl, h1⟩ | ⟨rfl, h1⟩⟩ := items_k n h' q
          · exact .inr (.inl ⟨k.py, D.pys xs, plain_dp hp.1 h, .lst h1 (plains_dp hp.2 h2), s1 hp.1, (sh hp.2).1, by rw [pys_any]; exact Good.d g n d_bl⟩)
          · exact .inr (.inr (.inl ⟨k.py, D.pys xs, plain_dp hp.1 h, .tup (SqT.of h1) (plains_dp hp.2 h2), s1 hp.1, (sh hp.2).2, by rw [pys_any]; exact Good.d g n d_bl⟩))
          · exact .inr (.inr (.inl ⟨k.py, D.pys xs, plain_dp hp.1 h, .tup h1.sq (plains_dp hp.2 h2), s1 hp.1, (sh hp.2).2, by rw [pys_any]; exact Good.d g n d_bl⟩))
          · exact .inr (.inr (.inl ⟨k.py, D.pys xs, plain_dp hp.1 h, .tup h1 (plains_dp hp.2 h2), s1 hp.1, (sh hp.2).2, by rw [pys_any]; exact Good.d g n d_bl⟩))
        · exact g.elim
      · exact g.elim
theorem atD_V {xs : List D} {vs : List V} {i : Int} {d : D} (h : Rels Γ.K ad H xs vs) (e : atD xs i = some d) : ∃ v, atI vs i = some v ∧ Rel Γ.K ad H d v := by
  unfold atD at e
  obtain ⟨j, e1, e2⟩ := Option.bind_eq_some_iff.mp e
  obtain ⟨v, h1, h2⟩ := h.get e2
  refine ⟨v, ?_, h2⟩
  unfold atI
  rw [← h.length]
  exact Option.bind_eq_some_iff.mpr ⟨j, e1, h1⟩
/-- what a subscript asks -/
theorem item_ok (c : CxOk Γ G W m X) :
    ∃ r, IxR X r ∧ ∀ {x y : R} {v w : V} {ad : List Addr} {st : St} {H : Hp} {σ : L2.St} {Q : VK}, Now Γ K ad st H → RR Γ ad H x v → RR Γ ad H y w → Good Γ K W σ ad H (vR Γ) (ev2 .item K x y st) Q → r v w H Q := by
  have ck := c.K
  refine ⟨_, (ix_dict c.hu).or ix_seq, fun {x y v w ad st H σ Q} n h h' g => ?_⟩
  simp only [ev2] at g
  split at g
  · split at g
    · rename_i z i hz
      split at g
      · rename_i c1 hc
        cases rel_str h; cases rel_int h'
        exact .inr (.inr (.inr ⟨z, i, c1, rfl, rfl, hz, hc, Good.d g n d_str⟩))
      · exact g.elim
    · exact g.elim
  · split at g
    · split at g
      · rename_i t kvs q hk
        obtain ⟨a, o, h1, h2, _, _, z⟩ := dget_ok n h q hk h'
        rcases z with ⟨z1, z2⟩ | ⟨d, u, z1, z2, z3⟩
        · rw [z1] at g; exact g.elim
        · rw [z1] at g
          subst z2
          exact .inl ⟨a, u, h1, h2, Good.d g n z3⟩
      · exact g.elim
    · split at g
      · rename_i xs i q _
        split at g
        · rename_i d hd
          obtain ⟨a, vs, rfl, h1, h2⟩ := items_ok n h q
          obtain ⟨u, e1, e2⟩ := atD_V h2 hd
          cases rel_int h'
          rw [ck]
          rcases h1 with h1 | h1
          · exact .inr (.inl ⟨a, vs, _, u, rfl, rfl, h1, e1, Good.d g n e2⟩)
          · exact .inr (.inr (.inl ⟨a, vs, _, u, rfl, rfl, h1, e1, Good.d g n e2⟩))
        · exact g.elim
      · exact g.elim
  · exact g.elim
end
end L3
/-! L3J: written texts' shapes; methods of lists, dicts, texts -/
namespace L3
open PySem L2 PySem.Spec PyProof.Rows
/-- no star, no slice, no set, no super() -/
def shapeOk : Expr → Bool
  | .Starred _ _ => false
  | .Slice _ _ _ _ => false
  | .Set _ _ _ => false
  | .Call (.Name id _) [] [] _ => decide (id ≠ "super")
  | _ => true
theorem shape_star {e : Expr} (h : shapeOk e = true) : noStar e = true := by cases e <;> first | rfl | (simp [shapeOk] at h)
theorem shape_ix {e : Expr} (h : shapeOk e = true) : PlainIx e := by cases e <;> first | exact fun _ _ => rfl | (simp [shapeOk] at h)
theorem shape_marks {e : Expr} {op : CmpOp} (h : shapeOk e = true) : behindInMarks op e = false := by cases e <;> first | rfl | (simp [shapeOk] at h)
theorem shape_fold {e : Expr} {env : PySem.Env} (h : shapeOk e = true) : ∀ x, foldedSetIterable e env x = pure x := by cases e <;> first | exact fun _ => rfl | (simp [shapeOk] at h)
theorem shape_base {e : Expr} {m : Str} {env : PySem.Env} {w : Sem Value} (h : shapeOk e = true) : attributeBase e m env w = w := by
  unfold attributeBase
  split
  · rename_i id _ _
    have q : id ≠ "super" := by simpa [shapeOk] using h
    have : (id != ("super" : Str)) = true := by simpa using q
    simp [this]
  · rfl
theorem shape_one {e : Expr} {env : PySem.Env} (h : shapeOk e = true) : starEach [e] env = [(false, eval e env)] := star1 (shape_star h)
theorem shape_m1 {X : Cx} {o e : Expr} {m : Str} {apos cpos : Pos} (ho : shapeOk o = true) (he : shapeOk e = true) (hl : (apos.endLine == cpos.line) = true) : M1 X o m apos e cpos :=
  ⟨shape_base ho, by rw [shape_one he]; rfl, hl, by rw [shape_one he]; rfl⟩
theorem shape_m2 {X : Cx} {o e f : Expr} {m : Str} {apos cpos : Pos} (ho : shapeOk o = true) (he : shapeOk e = true) (hf : shapeOk f = true) (hl : (apos.endLine == cpos.line) = true) : M2 X o m apos e f cpos := by
  have e1 : starEach [e, f] X.env = [(false, eval e X.env), (false, eval f X.env)] := by rw [star1 (shape_star he), shape_one hf]
  exact ⟨shape_base ho, by rw [e1]; rfl, hl, by rw [e1]; rfl⟩
section
variable {Γ : Gam} {G : Nm} {K : Ct} {W : WX} {n m : Nat} {X : Cx} {σ : L2.St} {ad ad1 : List Addr} {H H1 : Hp} {st : St} {ρ : Env}
theorem Now.write (n : Now Γ K ad st H) {k : Nat} {a : Addr} {c : Cell} {u u' : HO} (h1 : pick ad k = some a) (h2 : H a = some u) (nt : ∀ xs, u ≠ .tup xs) (nf : ∀ o w, u ≠ .frz o w)
    (h3 : ∀ ad' H', Step ad H ad' H' → H' a = some u' → CellR Γ K.lk k ad' H' a c) (hb : ∀ b ∈ K.base :: K.out, k < b → c.under b = true) : Step ad H ad (upd H a u') ∧ Now Γ K ad (St.set st k c) (upd H a u') := by
  obtain ⟨s, r⟩ := n.rep.write h1 h2 nt nf h3
  refine ⟨s, r, ⟨by rw [St.set_len]; exact n.base.le, n.base.out, fun b hbm j d hj e => ?_⟩, fun j hj => by rw [St.set_len]; exact n.lk j hj⟩
  rw [St.set_pick] at e
  split at e
  · rename_i q
    cases e
    exact hb b hbm (by omega)
  · exact n.base.cl b hbm j d hj e
theorem unders_app {b : Nat} : ∀ {xs ys : List D}, D.unders b xs = true → D.unders b ys = true → D.unders b (xs ++ ys) = true
  | [], _, _, h => h
  | x :: xs, ys, h, h' => by
    simp only [D.unders, Bool.and_eq_true, List.cons_append] at h ⊢
    exact ⟨h.1, unders_app h.2 h'⟩
theorem unders_mem {b : Nat} : ∀ {xs : List D}, D.unders b xs = true ↔ ∀ x ∈ xs, D.under b x = true
  | [] => by simp [D.unders]
  | x :: xs => by simp [D.unders, unders_mem (xs := xs)]
mutual
theorem flat_under {b : Nat} : ∀ {d : D}, d.flat = true → d.under b = true
  | .non, _ => rfl
  | .bl _, _ => rfl
  | .int _, _ => rfl
  | .str _, _ => rfl
  | .ref _, h => by simp [D.flat] at h
  | .tup ds, h => by simp only [D.flat] at h; simp only [D.under]; exact flats_unders h
  | .frz ds, h => by simp only [D.flat] at h; simp only [D.under]; exact flats_unders h
  | .ptup ds, h => by simp only [D.flat] at h; simp only [D.under]; exact flats_unders h
theorem flats_unders {b : Nat} : ∀ {ds : List D}, D.flats ds = true → D.unders b ds = true
  | [], _ => rfl
  | d :: ds, h => by
    simp only [D.flats, Bool.and_eq_true] at h
    simp only [D.unders, Bool.and_eq_true]
    exact ⟨flat_under h.1, flats_unders h.2⟩
end
theorem may_under (n : Now Γ K ad st H) {k : Nat} {d : D} (h : K.may k d = true) : k ∉ K.lk ∧ ∀ b ∈ K.base :: K.out, k < b → d.under b = true := by
  simp only [Ct.may, Bool.and_eq_true, Bool.or_eq_true, decide_eq_true_eq, Bool.not_eq_true'] at h
  refine ⟨by simpa using h.1, fun b hb hk => ?_⟩
  rcases h.2 with z | z
  · exact flat_under z
  · have : b ≤ K.base := by
      rcases List.mem_cons.mp hb with w | w
      · omega
      · exact n.base.out b w
    omega
theorem base_lst (n : Now Γ K ad st H) {k b : Nat} {xs : List D} (hb : b ∈ K.base :: K.out) (h : pick st k = some (.lst xs)) (hk : k < b) : D.unders b xs = true := n.base.cl b hb k _ hk h
/-- a list's cell -/
theorem lst_cell (n : Now Γ K ad st H) {k : Nat} {a : Addr} {xs : List D} (h1 : pick ad k = some a) (h2 : pick st k = some (.lst xs)) (hk : k ∉ K.lk) : ∃ vs, H a = some (.lst vs) ∧ Rels Γ.K ad H xs vs := by
  obtain ⟨b, e1, e2⟩ := n.rep.cell k _ h2
  rw [h1] at e1; cases e1
  obtain ⟨vs, z1, z2⟩ := e2
  exact ⟨vs, z1.free hk, z2⟩
/-- a list's cell is written -/
theorem Now.putL (n : Now Γ K ad st H) {k : Nat} {a : Addr} {ys : List D} {vs us : List V} (h1 : pick ad k = some a) (h2 : H a = some (.lst vs)) (hk : k ∉ K.lk) (hr : Rels Γ.K ad H ys us)
    (hb : ∀ b ∈ K.base :: K.out, k < b → D.unders b ys = true) : Step ad H ad (upd H a (.lst us)) ∧ Now Γ K ad (St.set st k (.lst ys)) (upd H a (.lst us)) :=
  n.write h1 h2 (by intro _ z; cases z) (by intro _ _ z; cases z) (fun ad' H' s e => ⟨us, by unfold atL; rw [if_neg hk]; exact e, Rels.mv s.mv hr⟩) hb
/-- the receiver, then the argument, from the state behind the receiver -/
theorem twoS {da db : Env → St → Out R} {pre : R → St → Bool} {ev : R → R → St → Out R} {T : V → V → Hp → Prop} {P : V → Hp → Prop} {Q : V → Hp → Prop} (now : Now Γ K ad st H) (env : EnvR Γ ad H ρ σ)
    (g : Good Γ K W σ ad H (vR Γ) ((da ρ st).bind fun x st => if pre x st then (db ρ st).bind fun y st => ev x y st else .bad) Q)
    (hp : ∀ {ad st H x v}, Now Γ K ad st H → RR Γ ad H x v → pre x st = true → P v H)
    (fin : ∀ {ad0 H0 ad st H x y v w}, Step ad0 H0 ad H → Now Γ K ad st H → RR Γ ad H x v → (vR Γ).p H0 ad H y w → Good Γ K W σ ad0 H0 (vR Γ) (ev x y st) Q → T v w H) :
    tG Γ K W (vR Γ) da σ H (fun v H1 => P v H1 ∧ tG Γ K W (vR Γ) db σ H1 (fun w H2 => T v w H2)) := by
  refine stage now env g fun ad1 st1 x v H1 s1 n1 e1 r1 g1 => ?_
  split at g1
  · rename_i hpre
    refine ⟨hp n1 r1.1 hpre, ad1, st1, ρ, n1, e1, ?_⟩
    cases q : db ρ st1 with
    | ok y st2 =>
      rw [q] at g1
      intro ad' H' w s' n' p
      exact fin s' n' (r1.1.step s') p g1
    | err x st' => rw [q] at g1; exact g1
    | bad => rw [q] at g1; exact g1
  · exact g1.elim
theorem rel_refK {x : R} {v : V} {k : Nat} (h : RR Γ ad H x v) (e : x = .d (.ref k)) : ∃ a, pick ad k = some a ∧ v = .ref a := by
  subst e
  simpa only [RR, Rel] using h
theorem vd {H0 : Hp} {x : D} {v : V} (h : Rel Γ.K ad H x v) : (vR Γ).p H0 ad H (.d x) v := ⟨h, trivial⟩
theorem d_non : Rel Γ.K ad H .non .non := by simp only [Rel]
theorem lst_ty (n : Now Γ K ad st H) {x : R} {v : V} (h : RR Γ ad H x v) (e : pre2 .append x st = true) : tyV Γ.K "list" v H := by
  simp only [pre2] at e
  split at e
  · rename_i k
    split at e
    · rename_i xs q
      obtain ⟨a, h1, rfl⟩ := rel_refK h rfl
      obtain ⟨b, e1, vs, z1, z2⟩ := n.rep.cell k _ q
      rw [h1] at e1; cases e1
      exact .inl ⟨rfl, vs, .inl z1.rd⟩
    · cases e
  · cases e
theorem append_pe (c : CxOk Γ G W m X) {o e : Expr} {apos cpos : Pos} {da db : Env → St → Out R} (ho : PE X o (tG Γ K W (vR Γ) da)) (he : PE X e (tG Γ K W (vR Γ) db)) (so : shapeOk o = true) (se : shapeOk e = true) (hl : (apos.endLine == cpos.line) = true) :
    PE X (.Call (.Attribute o "append" apos) [e] [] cpos) (tG Γ K W (vR Γ) fun ρ st => (da ρ st).bind fun x st => if pre2 .append x st then (db ρ st).bind fun y st => ev2 .append K x y st else .bad) := by
  refine PE.weak (pe_bm PySem.F.plainAttrs_list PySem.F.slot_list_append PySem.F.type_list_append mt_append ho (pa_cons he pa_nil (shape_one se)) (shape_base so) (by rw [shape_one se]; rfl) hl (shape_one se) rfl) fun σ H Q ⟨ad, st, ρ, now, env, g⟩ => ?_
  refine twoS (P := fun v H => tyV X.K "list" v H) (T := fun v w H => rAppend v [w] H Q) now env g (fun {ad st H x v} n h e => by rw [c.K]; exact lst_ty n h e) fun {ad0 H0 ad st H x y v w} s n h h' g => ?_
  simp only [ev2] at g
  split at g
  · rename_i k
    obtain ⟨a, h1, rfl⟩ := rel_refK h rfl
    split at g
    · rename_i d st1 ed
      split at g
      · rename_i xs q
        split at g
        · rename_i hz
          simp only [setCell] at g
          split at g
          · rename_i hm
            simp only [Bool.and_eq_true, Bool.not_eq_true'] at hm
            obtain ⟨ad1, s1, n1, r1, p, rfl⟩ := toD_ok s n h' ed
            have h1' : pick (p ++ ad) k = some a := pick_app h1
            obtain ⟨hk, hu⟩ := may_under n hm.1
            obtain ⟨vs, z1, z2⟩ := lst_cell n1 h1' q hk
            have z3 : Rels Γ.K (p ++ ad) H (xs ++ [d]) (vs ++ [w]) := z2.append (by simp only [Rels]; exact ⟨w, [], rfl, r1, rfl⟩)
            obtain ⟨s2, n2⟩ := n1.putL h1' z1 hk z3 fun b hb hlt => unders_app (base_lst n1 hb q hlt) (by simp [D.unders, hu b hb hlt])
            refine ⟨a, vs, w, rfl, rfl, z1, by rw [← z2.length]; exact hz, ?_⟩
            exact g _ _ _ (s1.trans s2) n2 (vd d_non)
          · exact g.elim
        · exact g.elim
      · exact g.elim
    · exact g.elim
  · exact g.elim
theorem ixD_seq {n : Nat} {i : Int} {k : Nat} (h : ixD n i = some k) : seqIndex? i n = some k ∧ k < n := let q := ixN_seq (n := n) (i := i) (j := k) h; ⟨q.1, q.2.1⟩
theorem popAt_pe (c : CxOk Γ G W m X) {o e : Expr} {apos cpos : Pos} {da db : Env → St → Out R} (ho : PE X o (tG Γ K W (vR Γ) da)) (he : PE X e (tG Γ K W (vR Γ) db)) (so : shapeOk o = true) (se : shapeOk e = true) (hl : (apos.endLine == cpos.line) = true) :
    PE X (.Call (.Attribute o "pop" apos) [e] [] cpos) (tG Γ K W (vR Γ) fun ρ st => (da ρ st).bind fun x st => if pre2 .popAt x st then (db ρ st).bind fun y st => ev2 .popAt K x y st else .bad) := by
  refine PE.weak (pe_bm PySem.F.plainAttrs_list PySem.F.slot_list_pop PySem.F.type_list_pop mt_popAt ho (pa_cons he pa_nil (shape_one se)) (shape_base so) (by rw [shape_one se]; rfl) hl (shape_one se) rfl) fun σ H Q ⟨ad, st, ρ, now, env, g⟩ => ?_
  refine two (P := fun v H => tyV X.K "list" v H) (T := fun v w H => rPopAt v [w] H Q) now env g (fun {ad st H x v} n h e => by rw [c.K]; exact lst_ty n h e) fun {ad st H x y v w} n h h' g => ?_
  simp only [ev2] at g
  split at g
  · rename_i k i
    obtain ⟨a, h1, rfl⟩ := rel_refK h rfl
    cases rel_int h'
    split at g
    · rename_i xs q
      split at g
      · rename_i hi
        simp only [Bool.and_eq_true, decide_eq_true_eq] at hi
        split at g
        · rename_i j hj
          split at g
          · rename_i d hd
            simp only [setCell, Bool.true_and] at g
            split at g
            · rename_i hm
              have hk : k ∉ K.lk := by simpa using hm
              obtain ⟨vs, z1, z2⟩ := lst_cell n h1 q hk
              obtain ⟨u, hu, hr⟩ := z2.get hd
              obtain ⟨s2, n2⟩ := n.putL h1 z1 hk (z2.eraseIdx j) fun b hb hlt => unders_mem.mpr fun y hy => unders_mem.mp (base_lst n hb q hlt) y (List.mem_of_mem_eraseIdx hy)
              refine ⟨a, vs, i, j, u, rfl, rfl, z1, hi.1, hi.2, by rw [← z2.length]; exact (ixD_seq hj).1, hu, ?_⟩
              exact g _ _ _ s2 n2 (vd (Rel.mv s2.mv hr))
            · exact g.elim
          · exact g.elim
        · exact g.elim
      · exact g.elim
    · exact g.elim
  · exact g.elim
theorem get1_pe (c : CxOk Γ G W m X) {o e : Expr} {apos cpos : Pos} {da db : Env → St → Out R} (ho : PE X o (tG Γ K W (vR Γ) da)) (he : PE X e (tG Γ K W (vR Γ) db)) (so : shapeOk o = true) (se : shapeOk e = true) (hl : (apos.endLine == cpos.line) = true) :
    PE X (.Call (.Attribute o "get" apos) [e] [] cpos) (tG Γ K W (vR Γ) fun ρ st => (da ρ st).bind fun x st => if pre2 .get1 x st then (db ρ st).bind fun y st => ev2 .get1 K x y st else .bad) := by
  refine PE.weak (pe_dget1 c.hu ho he (shape_m1 so se hl)) fun σ H Q ⟨ad, st, ρ, now, env, g⟩ => ?_
  have := two (P := fun v H => ∃ a, v = .ref a ∧ IsD H a) (T := fun v w H => ∃ a o, v = .ref a ∧ DGet H a w o ∧ Q (o.getD .non) H) now env g (fun {ad st H x v} n h e => ?_) fun {ad st H x y v w} n h h' g => ?_
  · obtain ⟨ad', st', ρ', n', e', g'⟩ := this
    refine ⟨ad', st', ρ', n', e', g'.imp fun v H1 ⟨⟨a, ha, hd⟩, ad2, st2, ρ2, n2, e2, g2⟩ => ⟨a, ha, hd, ad2, st2, ρ2, n2, e2, g2.imp fun w H2 ⟨b, o, hb, hg, hq⟩ => ?_⟩⟩
    rw [ha] at hb; cases hb
    exact ⟨o, hg, hq⟩
  · simp only [pre2, Option.isSome_iff_exists] at e
    obtain ⟨⟨t, kvs⟩, e⟩ := e
    obtain ⟨a, rfl, ⟨_, kv, z, _⟩ | ⟨_, kv, z, _⟩⟩ := kvs_ok n h e
    · exact ⟨a, rfl, .inl ⟨kv, z⟩⟩
    · exact ⟨a, rfl, .inr ⟨kv, z⟩⟩
  · simp only [ev2] at g
    split at g
    · split at g
      · rename_i t kvs k q hk
        obtain ⟨a, o, h1, h2, _, _, z⟩ := dget_ok n h q hk h'
        refine ⟨a, o, h1, h2, ?_⟩
        rcases z with ⟨z1, rfl⟩ | ⟨d, u, z1, rfl, z3⟩
        · rw [z1] at g; exact Good.d g n d_non
        · rw [z1] at g; exact Good.d g n z3
      · exact g.elim
    · exact g.elim
theorem index_pe (c : CxOk Γ G W m X) {o e : Expr} {apos cpos : Pos} {da db : Env → St → Out R} (ho : PE X o (tG Γ K W (vR Γ) da)) (he : PE X e (tG Γ K W (vR Γ) db)) (so : shapeOk o = true) (se : shapeOk e = true) (hl : (apos.endLine == cpos.line) = true) :
    PE X (.Call (.Attribute o "index" apos) [e] [] cpos) (tG Γ K W (vR Γ) fun ρ st => (da ρ st).bind fun x st => if pre2 .index x st then (db ρ st).bind fun y st => ev2 .index K x y st else .bad) := by
  refine PE.weak (pe_bm PySem.F.plainAttrs_list PySem.F.slot_list_index PySem.F.type_list_index (mt_indexD (by have := c.room.un; omega)) ho (pa_cons he pa_nil (shape_one se)) (shape_base so) (by rw [shape_one se]; rfl) hl (shape_one se) rfl) fun σ H Q ⟨ad, st, ρ, now, env, g⟩ => ?_
  refine two (P := fun v H => tyV X.K "list" v H) (T := fun v w H => rIndexD X.K v [w] H Q) now env g (fun {ad st H x v} n h e => ?_) fun {ad st H x y v w} n h h' g => ?_
  · rw [c.K]
    simp only [pre2, Option.isSome_iff_exists] at e
    obtain ⟨xs, e⟩ := e
    obtain ⟨a, vs, rfl, h1, _⟩ := lst_ok n h e
    exact .inl ⟨rfl, vs, h1⟩
  · simp only [ev2] at g
    split at g
    · split at g
      · rename_i xs k q hp
        simp only [Bool.and_eq_true] at hp
        split at g
        · rename_i j hj
          obtain ⟨a, vs, rfl, h1, h2⟩ := lst_ok n h q
          rw [c.K]
          obtain ⟨hj1, hj2, hj3⟩ := List.findIdx?_eq_some_iff_getElem.mp hj
          have pj : ∀ (m : Nat), (D.pys xs)[m]? = (xs[m]?).map D.py := by
            have : ∀ (ys : List D), D.pys ys = ys.map D.py := fun ys => by induction ys with | nil => rfl | cons y ys ih => simp [D.pys, ih]
            intro m; rw [this, List.getElem?_map]
          have l1 := plains_lay hp.2
          have l2 := plain_lay hp.1
          refine ⟨a, w, k.py, D.pys xs, j, xs[j].py, rfl, rfl, .lst h1 (plains_dp hp.2 h2), plain_dp hp.1 h', shaped_of (by simp only [PyData.canLay0]; exact l1.1) (by simp only [PyData.depth]; omega), shaped_of l2.1 (by omega),
            by rw [pj, List.getElem?_eq_getElem hj1]; rfl, hj2, fun i z hi hz => ?_, Good.d g n d_int⟩
          rw [pj, List.getElem?_eq_getElem (by omega)] at hz
          cases hz
          simpa using hj3 i hi
        · exact g.elim
      · exact g.elim
    · exact g.elim
theorem join_pe (c : CxOk Γ G W m X) {o e : Expr} {apos cpos : Pos} {da db : Env → St → Out R} (ho : PE X o (tG Γ K W (vR Γ) da)) (he : PE X e (tG Γ K W (vR Γ) db)) (so : shapeOk o = true) (se : shapeOk e = true) (hl : (apos.endLine == cpos.line) = true) :
    PE X (.Call (.Attribute o "join" apos) [e] [] cpos) (tG Γ K W (vR Γ) fun ρ st => (da ρ st).bind fun x st => if pre2 .join x st then (db ρ st).bind fun y st => ev2 .join K x y st else .bad) := by
  refine PE.weak (pe_join ho he (shape_one se) (shape_base so) hl) fun σ H Q ⟨ad, st, ρ, now, env, g⟩ => ?_
  refine two (P := fun v H => ∃ a, v = .str a) now env g (fun {ad st H x v} n h e => ?_) fun {ad st H x y v w} n h h' g => ?_
  · simp only [pre2] at e
    split at e
    · exact ⟨_, rel_str h⟩
    · cases e
  · simp only [ev2] at g
    split at g
    · rename_i z xs q
      split at g
      · rename_i ys q2
        split at g
        · rename_i hz
          cases rel_str h
          obtain ⟨a, vs, rfl, h1, h2⟩ := items_ok n h' q
          rw [rels_strs h2 q2] at h1
          rw [c.K]
          exact ⟨z, a, ys, rfl, rfl, h1, hz, by rw [TL.join_eq]; exact Good.d g n d_str⟩
        · exact g.elim
      · exact g.elim
    · exact g.elim
end
end L3
/-! L3K: calls of the text's defs; more operations -/
namespace L3
open PySem L2 PySem.Spec PyProof.Rows
section
variable {X : Cx} {CX : CXT} {k : Nat} {f C : Addr} {fd : FuncData} {ps : List Str} {sp : Sp} {E : L2.St → XK} {x m : Str} {p pos apos : Pos} {e o : Expr} {es : List Expr} {ta : TE} {t : TA} {dvs : List V} {ds : List Value}
theorem run_fnD {pins : List (Addr × Obj)} {σ : L2.St} {H : Hp} {s : Shared} {Q : VK} {us : List Value} {vs : List V} (F : FnOk X.prog X.w X.K X.mg X.base CX k f fd ps sp) (hr : Room k X.A) (hb : Binds X.K fd ps ds) (hd : Vals dvs ds) (hx : PassesAt CX X σ (E σ))
    (I : Inv X pins σ H s) (r : Vals vs us) (h : sp (vs ++ dvs) H Q (E σ)) : wpAny (model X.prog X.w) X.A (call (.ref f) us) (EP X pins σ Q) X.xe s := by
  have r2 : Vals (vs ++ dvs) (us ++ ds) := r.append hd
  have hl : (us ++ ds).length = ps.length := by rw [← r2.length]; exact F.len _ _ _ _ h
  refine wpAny_call (codeAny_mono (F.run X.A X.stack s H ⟨us, []⟩ (us ++ ds) (vs ++ dvs) Q (E σ) hr I.env0 (hb s us I.kIn hl) r2 h) fun r s' hq => ?_)
  cases r with
  | error e => exact hx pins H s e s' I hq
  | ok fl =>
    cases fl with
    | ret u => exact I.after hq
    | next => exact False.elim hq
    | brk => exact False.elim hq
    | cont => exact False.elim hq
def tCallD (sp : Sp) (dvs : List V) (E : L2.St → XK) (t : TA) : TE := fun σ H Q => t σ H fun vs H1 => sp (vs ++ dvs) H1 Q (E σ)
theorem pe_callD (F : FnOk X.prog X.w X.K X.mg X.base CX k f fd ps sp) (hr : Room k X.A) (hg : Gl X x) (hm : X.mg x = some (.ref f)) (hk : PySem.W.keepIn X.K (.ref f) = true) (hb : Binds X.K fd ps ds) (hd : Vals dvs ds) (hx : ∀ σ, PassesAt CX X σ (E σ))
    (ha : PA X (e :: es) t) (hdb : (x == ("__debug__" : Str)) = false) (hs : (e :: es).all noStar = true) :
    PE X (.Call (.Name x p) (e :: es) [] pos) (tCallD sp dvs E t) := by
  refine ⟨fun pins s σ H Q I h => ?_⟩
  refine wpAny_Call_Name_kw (ld_glob I hg hm ?_ hdb)
  simp only [List.all_cons, Bool.and_eq_true] at hs
  refine PySem.W.callWith_K (h₀ := X.base) I.ok.mod.kin hk (thn (ha.run pos pins s σ H _ I h) fun us s1 ⟨vs, H1, I1, r, q⟩ => ⟨I1.kIn, ?_⟩) (star1 hs.1) (star_any hs.2)
  exact run_fnD F hr hb hd (hx σ) I1 r q
theorem pe_callD0 (F : FnOk X.prog X.w X.K X.mg X.base CX k f fd ps sp) (hr : Room k X.A) (hg : Gl X x) (hm : X.mg x = some (.ref f)) (hk : PySem.W.keepIn X.K (.ref f) = true) (hb : Binds X.K fd ps ds) (hd : Vals dvs ds) (hx : ∀ σ, PassesAt CX X σ (E σ))
    (hdb : (x == ("__debug__" : Str)) = false) : PE X (.Call (.Name x p) [] [] pos) (tCallD sp dvs E tNil) := by
  refine ⟨fun pins s σ H Q I h => ?_⟩
  refine wpAny_Call_Name_kw (ld_glob I hg hm ?_ hdb)
  exact PySem.W.callWith_K0 I.kIn hk (run_fnD (us := []) F hr hb hd (hx σ) I .nil h)
end
end L3
/-! L3L: the text of a term; walked things -/
namespace L3
open PySem L2 PySem.Spec PyProof.Rows

def p2name : P2 → Option String
  | .min2 => some "min" | .max2 => some "max" | _ => none
def p2meth : P2 → Option String
  | .append => some "append" | .popAt => some "pop" | .get1 => some "get" | .index => some "index" | .tindex => some "index" | .join => some "join"
  | _ => none
def p3meth : P3 → Option String
  | .get2 => some "get" | .insert => some "insert" | _ => none
def chkP2 (G : Nm) (sc : Scope) (f : P2) (ka kb : Expr → Bool) (e : Expr) : Bool :=
  match e with
  | .BinOp a op b _ => decide (p2op f = some op) && ka a && kb b
  | .Compare a [op] [b] _ => decide (p2cmp f = some op) && ka a && kb b
  | .Subscript a i _ => decide (f = .item) && ka a && kb i
  | .Call (.Attribute o m apos) [a] [] cpos => (match p2meth f with | some x => decide (m = Str.ofString x) && (apos.endLine == cpos.line) && ka o && kb a | none => false)
  | .Call (.Name x _) [a] [⟨some nm, b, _⟩] _ => decide (f = .maxd) && decide (nm = Str.ofString "default") && isB G sc x "max" && ka a && kb b
  | .Call (.Name x _) [a, b] [] _ => (match p2name f with | some n => isB G sc x n && ka a && kb b | none => false)
  | _ => false
def chkP3 (G : Nm) (sc : Scope) (f : P3) (ka kb kc : Expr → Bool) (e : Expr) : Bool :=
  match e with
  | .Call (.Attribute o m apos) [a, b] [] cpos => (match p3meth f with | some x => decide (m = Str.ofString x) && (apos.endLine == cpos.line) && ka o && kb a && kc b | none => false)
  | _ => false
def litOk (d : D) (e : Expr) : Bool :=
  match d, e with
  | .non, .Constant .none _ _ => true
  | .bl b, .Constant (.bool c) _ _ => decide (b = c)
  | .int i, .Constant (.int j) _ _ => decide (i = j)
  | .str x, .Constant (.str y) _ _ => decide (x = y)
  | _, _ => false
/-- a target: names of the frame -/
def chkNm (N : List Str) (sc : Scope) (i : Nat) (e : Expr) : Bool :=
  match e with
  | .Name x _ => decide (N[i]? = some x) && plainNm x && (match sc.names.lookup x with | some .local => true | some .cell => true | _ => false)
  | _ => false
def chkNms (N : List Str) (sc : Scope) : List Nat → List Expr → Bool
  | [], [] => true
  | i :: is, e :: es => chkNm N sc i e && chkNms N sc is es
  | _, _ => false
def chkTg (N : List Str) (sc : Scope) (tg : Tg) (e : Expr) : Bool :=
  match tg, e with
  | .one i, e => chkNm N sc i e
  | .many is, .Tuple es _ _ => chkNms N sc is es
  | _, _ => false
def Tg.slots : Tg → List Nat
  | .one i => [i]
  | .many is => is
/-- names of slots -/
def ownOf (N : List Str) (tg : Tg) : List (Str × Nat) := tg.slots.filterMap fun i => (N[i]?).map fun x => (x, i)

mutual
def chkE (G : Nm) (N : List Str) (sc : Scope) (e : E) (x : Expr) : Bool :=
  match e with
  | .var i => (match x with | .Name y _ => isVar N sc i y | _ => false)
  | .lit d => litOk d x
  | .con g => (match x with | .Name y _ => isGl sc y && decide (G.con g = some y) | _ => false)
  | .p1 f a => shapeOk x && chkP1 G sc f (fun y => chkE G N sc a y) x
  | .p2 f a b => shapeOk x && chkP2 G sc f (fun y => chkE G N sc a y) (fun y => chkE G N sc b y) x
  | .p3 f a b c => shapeOk x && chkP3 G sc f (fun y => chkE G N sc a y) (fun y => chkE G N sc b y) (fun y => chkE G N sc c y) x
  | .chain f g a b c => (match x with
    | .Compare x1 [o1, o2] [x2, x3] _ => decide (p2cmp f = some o1) && decide (p2cmp g = some o2) && chkE G N sc a x1 && chkE G N sc b x2 && chkE G N sc c x3
    | _ => false)
  | .tup es => (match x with | .Tuple xs _ _ => chkEs G N sc es xs | _ => false)
  | .lst es => (match x with | .List xs _ => chkEs G N sc es xs | _ => false)
  | .dnew _ => (match x with | .Dict [] [] _ => true | _ => false)
  | .slc a lo hi => (match x with | .Subscript y (.Slice l h none _) _ => chkE G N sc a y && chkEo G N sc lo l && chkEo G N sc hi h | _ => false)
  | .one a => (match x with | .BoolOp _ [y] _ => chkE G N sc a y | _ => false)
  | .and a b => (match x with | .BoolOp .And (y :: z :: r) pos => chkE G N sc a y && chkE G N sc b (.BoolOp .And (z :: r) pos) | _ => false)
  | .or a b => (match x with | .BoolOp .Or (y :: z :: r) pos => chkE G N sc a y && chkE G N sc b (.BoolOp .Or (z :: r) pos) | _ => false)
  | .not a => (match x with | .UnaryOp .Not y _ => chkE G N sc a y | _ => false)
  | .ife t a b => (match x with | .IfExp y z w _ => chkE G N sc t y && chkE G N sc a z && chkE G N sc b w | _ => false)
  | .call f es => (match x with
    | .Call (.Name y _) xs [] _ => shapeOk x && isGl sc y && decide (y = G.fname f) && chkArgs G N sc (G.dfl f) es xs
    | _ => false)
  | .meth _ _ _ => false
  | .make _ _ => false
  | .fld _ _ => false
  | .lc e tg it c => (match x with
    | .ListComp y [⟨t, i, cs, 0⟩] cscope _ => chkIt G N sc it tg i && blkC N sc cscope (ownOf N tg) && chkTg N cscope tg t && decide (tg.slots.Nodup) && decide ((ownOf N tg).map (·.2) = tg.slots) &&
      (match cs with | [] => (match c with | .no => true | .yes _ => false) | [z] => (match c with | .yes w => chkE G N (relS cscope sc) w z | .no => false) | _ => false) && chkE G N (relS cscope sc) e y
    | _ => false)
  | .lof t it => (match x with
    | .Call (.Name y _) [z] [] _ => isB G sc y (if t then "tuple" else "list") && (match it with | .range1 _ => true | .range2 _ _ => true | _ => false) && chkIt G N sc it (.one 0) z
    | _ => false)
  | .dsp _ => false
  | .cget g k => (match x with | .Subscript (.Name y _) z _ => isGl sc y && decide (G.con g = some y) && chkE G N sc k z | _ => false)
  | .fz a => (match x with | .ListComp _ _ _ _ => true | .List _ _ => true | .Call _ _ _ _ => true | .Subscript _ _ _ => true | .BinOp _ _ _ _ => true | .Name _ _ => true | _ => false) && (match a with | .fz _ => false | _ => true) && chkE G N sc a x
  | .pt a => (match x with | .Call (.Name y _) [z] [] _ => isB G sc y "tuple" && chkE G N sc a z | _ => false)
  | .dt a => (match x with | .Call (.Name y _) [z] [] _ => isB G sc y "dict" && chkE G N sc a z | _ => false)
def chkEo (G : Nm) (N : List Str) (sc : Scope) (o : Eo) (x : Option Expr) : Bool :=
  match o with
  | .no => (match x with | none => true | some _ => false)
  | .yes e => (match x with | some y => chkE G N sc e y | none => false)
def chkEs (G : Nm) (N : List Str) (sc : Scope) (es : Es) (xs : List Expr) : Bool :=
  match es with
  | .nil => (match xs with | [] => true | _ => false)
  | .cons e es => (match xs with | x :: r => chkE G N sc e x && chkEs G N sc es r | [] => false)
/-- arguments; the last one may be the default's None -/
def chkArgs (G : Nm) (N : List Str) (sc : Scope) (d : Bool) (es : Es) (xs : List Expr) : Bool :=
  match es with
  | .nil => (match xs with | [] => true | _ => false)
  | .cons e es => (match xs with
    | x :: r => chkE G N sc e x && chkArgs G N sc d es r
    | [] => d && (match e, es with | .lit .non, .nil => true | _, _ => false))
def chkIt (G : Nm) (N : List Str) (sc : Scope) (it : It) (tg : Tg) (x : Expr) : Bool :=
  match it with
  | .seq e => chkE G N sc e x
  | .range1 a => (match x with | .Call (.Name y _) [b] [] _ => isB G sc y "range" && chkE G N sc a b | _ => false)
  | .range2 a b => (match x with | .Call (.Name y _) [c, d] [] _ => isB G sc y "range" && chkE G N sc a c && chkE G N sc b d | _ => false)
  | .rev _ => false
  | .enum a => (match tg with | .many [_, _] => true | _ => false) && (match x with | .Call (.Name y _) [c] [] _ => isB G sc y "enumerate" && chkE G N sc a c | _ => false)
  | .zipS a b => (match tg with | .many [_, _] => true | _ => false) && (match x with | .Call (.Name y _) [c, d] [] _ => isB G sc y "zip" && chkE G N sc a c && chkE G N sc b d | _ => false)
  | .zip a b => (match tg with | .many [_, _] => true | _ => false) && (match x with | .Call (.Name y _) [c, d] [] _ => isB G sc y "zip" && chkE G N sc a c && chkE G N sc b d | _ => false)
  | .str _ => false
  | .keys _ => false
end
mutual
theorem chkE_shape (G : Nm) (N : List Str) (sc : Scope) : ∀ (e : E) {x : Expr}, chkE G N sc e x = true → shapeOk x = true
  | .var i, x, h => by simp only [chkE] at h; split at h <;> first | rfl | cases h
  | .lit d, x, h => by simp only [chkE] at h; unfold litOk at h; split at h <;> first | rfl | cases h
  | .con g, x, h => by simp only [chkE] at h; split at h <;> first | rfl | cases h
  | .p1 f a, x, h => by simp only [chkE, Bool.and_eq_true] at h; exact h.1
  | .p2 f a b, x, h => by simp only [chkE, Bool.and_eq_true] at h; exact h.1
  | .p3 f a b c, x, h => by simp only [chkE, Bool.and_eq_true] at h; exact h.1
  | .chain f g a b c, x, h => by simp only [chkE] at h; split at h <;> first | rfl | cases h
  | .tup es, x, h => by simp only [chkE] at h; split at h <;> first | rfl | cases h
  | .lst es, x, h => by simp only [chkE] at h; split at h <;> first | rfl | cases h
  | .dnew t, x, h => by simp only [chkE] at h; split at h <;> first | rfl | cases h
  | .slc a lo hi, x, h => by simp only [chkE] at h; split at h <;> first | rfl | cases h
  | .one a, x, h => by simp only [chkE] at h; split at h <;> first | rfl | cases h
  | .and a b, x, h => by simp only [chkE] at h; split at h <;> first | rfl | cases h
  | .or a b, x, h => by simp only [chkE] at h; split at h <;> first | rfl | cases h
  | .not a, x, h => by simp only [chkE] at h; split at h <;> first | rfl | cases h
  | .ife t a b, x, h => by simp only [chkE] at h; split at h <;> first | rfl | cases h
  | .call f es, x, h => by
    simp only [chkE] at h
    split at h
    · simp only [Bool.and_eq_true] at h; exact h.1.1.1
    · cases h
  | .meth _ _ _, x, h => by simp only [chkE] at h; cases h
  | .make _ _, x, h => by simp only [chkE] at h; cases h
  | .fld _ _, x, h => by simp only [chkE] at h; cases h
  | .lc e tg it c, x, h => by unfold chkE at h; split at h <;> first | rfl | cases h
  | .lof t it, x, h => by unfold chkE at h; split at h <;> first | rfl | cases h
  | .dsp _, x, h => by simp only [chkE] at h; cases h
  | .cget _ _, x, h => by simp only [chkE] at h; split at h <;> first | rfl | cases h
  | .fz a, x, h => by simp only [chkE, Bool.and_eq_true] at h; exact chkE_shape G N sc a h.2
  | .pt _, x, h => by simp only [chkE] at h; split at h <;> first | rfl | cases h
  | .dt _, x, h => by simp only [chkE] at h; split at h <;> first | rfl | cases h
end
end L3
/-! L3M: what is walked; comprehensions -/
namespace L3
open PySem L2 PySem.Spec PyProof.Rows
section
variable {Γ : Gam} {G : Nm} {K : Ct} {W : WX} {n m : Nat} {X : Cx} {σ : L2.St} {ad ad1 : List Addr} {H H1 : Hp} {st : St} {ρ : Env}
mutual
theorem rel_under : ∀ {d : D} {v : V}, Rel Γ.K ad H d v → d.under ad.length = true
  | .non, _, _ => rfl
  | .bl _, _, _ => rfl
  | .int _, _, _ => rfl
  | .str _, _, _ => rfl
  | .ref k, _, h => by
    simp only [Rel] at h
    obtain ⟨a, h1, _⟩ := h
    simp only [D.under, decide_eq_true_eq]
    exact pick_lt h1
  | .tup ds, _, h => by
    simp only [Rel] at h
    obtain ⟨a, vs, _, _, h⟩ := h
    simp only [D.under]
    exact rels_under h
  | .frz ds, _, h => by
    simp only [Rel] at h
    obtain ⟨a, vs, _, _, h⟩ := h
    simp only [D.under]
    exact rels_under h
  | .ptup ds, _, h => by
    simp only [Rel] at h
    obtain ⟨a, vs, _, _, h⟩ := h
    simp only [D.under]
    exact rels_under h
theorem rels_under : ∀ {ds : List D} {vs : List V}, Rels Γ.K ad H ds vs → D.unders ad.length ds = true
  | [], _, _ => rfl
  | d :: ds, _, h => by
    simp only [Rels] at h
    obtain ⟨v, r, _, h1, h2⟩ := h
    simp only [D.unders, Bool.and_eq_true]
    exact ⟨rel_under h1, rels_under h2⟩
end
theorem kv_under {κ : Type} {key : D → Option κ} : ∀ {kvs : Kvs} {kv : List (κ × V)}, Kv key Γ.K ad H kvs kv → D.unders ad.length (kvs.map (·.2)) = true
  | [], _, _ => rfl
  | p :: r, _, h => by
    simp only [Kv] at h
    obtain ⟨k, v, t, _, _, h1, h2⟩ := h
    simp only [List.map_cons, D.unders, Bool.and_eq_true]
    exact ⟨rel_under h1, kv_under h2⟩
theorem fs_under : ∀ {fs : Fs} {fv : List (Str × V)}, FsR Γ ad H fs fv → D.unders ad.length (fs.map (·.2)) = true
  | [], _, _ => rfl
  | p :: r, _, h => by
    simp only [FsR] at h
    obtain ⟨v, t, _, h1, h2⟩ := h
    simp only [List.map_cons, D.unders, Bool.and_eq_true]
    exact ⟨rel_under h1, fs_under h2⟩
/-- a frame of its own within -/
theorem Now.sub (n : Now Γ K ad st H) : Now Γ (K.sub st) ad st H := by
  refine ⟨n.rep, ⟨Nat.le_refl _, fun b hb => ?_, fun b hb k c hk e => ?_⟩, n.lk⟩
  · rcases List.mem_cons.mp hb with z | z
    · rw [z]; exact n.base.le
    · exact Nat.le_trans (n.base.out b z) n.base.le
  · rcases List.mem_cons.mp hb with z | z
    · rw [z]
      obtain ⟨a, h1, h2⟩ := n.rep.cell k c e
      show c.under st.length = true
      rw [← n.rep.len]
      cases c with
      | lst xs => obtain ⟨vs, _, h⟩ := h2; exact rels_under h
      | dic t kvs => cases t <;> (obtain ⟨kv, _, h⟩ := h2; exact kv_under h)
      | ins c fs => obtain ⟨dx, fv, _, h⟩ := h2; exact fs_under h
    · exact n.base.cl b z k c hk e
theorem Now.unsub {st0 : St} (n0 : Base K st0) (n : Now Γ (K.sub st0) ad st H) : Now Γ K ad st H :=
  ⟨n.rep, ⟨Nat.le_trans n0.le n.base.le, n0.out, fun b hb => n.base.cl b (List.mem_cons_of_mem _ hb)⟩, n.lk⟩
/-- a walk yields the items -/
def ItOk (Γ : Gam) (K : Ct) (J : L2.It) (items : List D) (g : Option (Nat × List D)) (ad0 : List Addr) (H0 : Hp) : Prop :=
  ∀ i ad H st, Step ad0 H0 ad H → Now Γ K ad st H → still g st = true →
    (i < items.length → J.go i H ∧ ∀ x H', J.yld i H x H' → ∃ d, items[i]? = some d ∧ Step ad H ad H' ∧ Now Γ K ad st H' ∧ Rel Γ.K ad H' d x) ∧ (items.length ≤ i → J.stop i H)
def vI (Γ : Gam) (K : Ct) : Val (List D × Option (Nat × List D)) L2.It where
  p _ ad H r J := ItOk Γ K J r.1 r.2 ad H
  later := fun _ h => h
/-- a list that stands at each turn -/
theorem it_list {a : Addr} {xs : List D} {g : Option (Nat × List D)} (h : ∀ ad1 H1 st1, Step ad H ad1 H1 → Now Γ K ad1 st1 H1 → still g st1 = true → ∃ vs, SqL Γ.K H1 a vs ∧ Rels Γ.K ad1 H1 xs vs) : ItOk Γ K (Itl Γ.K a) xs g ad H := by
  intro i ad1 H1 st1 s n hg
  obtain ⟨vs, h1, h2⟩ := h ad1 H1 st1 s n hg
  refine ⟨fun hi => ?_, fun hi => ⟨vs, h1, by rw [← h2.length]; exact hi⟩⟩
  obtain ⟨v, e, _⟩ := h2.get (i := i) (d := xs[i]) (by simp [hi])
  refine ⟨⟨vs, v, h1, e⟩, fun x H' hy => ?_⟩
  obtain ⟨rfl, hx⟩ := hy
  obtain ⟨d, e1, e2⟩ := h2.getV (hx vs h1)
  exact ⟨d, e1, Step.refl _ _, n, e2⟩
theorem it_tup {a : Addr} {xs : List D} {g : Option (Nat × List D)} (h : ∀ ad1 H1, Step ad H ad1 H1 → ∃ vs, SqT Γ.K H1 a vs ∧ Rels Γ.K ad1 H1 xs vs) : ItOk Γ K (Itt Γ.K a) xs g ad H := by
  intro i ad1 H1 st1 s n hg
  obtain ⟨vs, h1, h2⟩ := h ad1 H1 s
  refine ⟨fun hi => ?_, fun hi => ⟨vs, h1, by rw [← h2.length]; exact hi⟩⟩
  obtain ⟨v, e, _⟩ := h2.get (i := i) (d := xs[i]) (by simp [hi])
  refine ⟨⟨vs, v, h1, e⟩, fun x H' hy => ?_⟩
  obtain ⟨rfl, hx⟩ := hy
  obtain ⟨d, e1, e2⟩ := h2.getV (hx vs h1)
  exact ⟨d, e1, Step.refl _ _, n, e2⟩
theorem it_rng {lo : Int} {k : Nat} : ItOk Γ K (Itr lo k) ((List.range k).map fun (i : Nat) => D.int (lo + i)) none ad H := by
  intro i ad1 H1 st1 s n hg
  refine ⟨fun hi => ⟨by show i < k; simpa using hi, fun x H' hy => ?_⟩, fun hi => by show k ≤ i; simpa using hi⟩
  obtain ⟨rfl, rfl⟩ := hy
  exact ⟨.int (lo + i), by simp at hi; simp [hi], Step.refl _ _, n, d_int⟩
/-- a walk over a list or a tuple -/
theorem pi_seqD {tg e : Expr} {de : Env → St → Out R} (c : CxOk Γ G W n X) (he : PE X e (tG Γ K W (vR Γ) de)) :
    PI X tg e (tG Γ K W (vI Γ K) fun ρ st => (de ρ st).bind fun r st => (match r.items st with | some xs => .ok (xs, guardOf r xs) st | none => .bad)) := by
  refine ⟨fun pins s σ H R I h => ?_⟩
  obtain ⟨ad, st, ρ, now, env, g⟩ := h
  replace g : Good Γ K W σ ad H (vI Γ K) ((de ρ st).bind fun r st => (match r.items st with | some xs => .ok (xs, guardOf r xs) st | none => .bad)) R := g
  have li : (∀ ad1 st1 r v H1, Step ad H ad1 H1 → Now Γ K ad1 st1 H1 → RR Γ ad1 H1 r v → Good Γ K W σ ad1 H1 (vI Γ K) (match r.items st1 with | some xs => .ok (xs, guardOf r xs) st1 | none => .bad) R → de ρ st = .ok r st1 →
      ∃ a, v = .ref a ∧ (∃ xs, SqL X.K H1 a xs) ∧ R (Itl X.K a) H1) → wpAny (model X.prog X.w) X.A (eval e X.env) (fun v s1 => wpAny (model X.prog X.w) X.A (pyIter v) (PIE X pins σ tg R) X.xe s1) X.xe s := fun hh => by
    refine (pi_list he).run pins s σ H R I ⟨ad, st, ρ, now, env, ?_⟩
    cases q : de ρ st with
    | ok r st1 =>
      intro ad1 H1 v s1 n1 p1
      rw [q] at g
      exact hh ad1 st1 r v H1 s1 n1 p1.1 (Good.later s1 g) q
    | err x st' => rw [q] at g; exact g
    | bad => rw [q] at g; exact g
  have ti : (∀ ad1 st1 r v H1, Step ad H ad1 H1 → Now Γ K ad1 st1 H1 → RR Γ ad1 H1 r v → Good Γ K W σ ad1 H1 (vI Γ K) (match r.items st1 with | some xs => .ok (xs, guardOf r xs) st1 | none => .bad) R → de ρ st = .ok r st1 →
      ∃ a, v = .ref a ∧ (∃ xs, SqT X.K H1 a xs) ∧ R (Itt X.K a) H1) → wpAny (model X.prog X.w) X.A (eval e X.env) (fun v s1 => wpAny (model X.prog X.w) X.A (pyIter v) (PIE X pins σ tg R) X.xe s1) X.xe s := fun hh => by
    refine (pi_tup he).run pins s σ H R I ⟨ad, st, ρ, now, env, ?_⟩
    cases q : de ρ st with
    | ok r st1 =>
      intro ad1 H1 v s1 n1 p1
      rw [q] at g
      exact hh ad1 st1 r v H1 s1 n1 p1.1 (Good.later s1 g) q
    | err x st' => rw [q] at g; exact g
    | bad => rw [q] at g; exact g
  cases q : de ρ st with
  | err x st' => exact li fun _ _ _ _ _ _ _ _ _ e => by rw [q] at e; cases e
  | bad => exact li fun _ _ _ _ _ _ _ _ _ e => by rw [q] at e; cases e
  | ok r0 st0 =>
    have same : ∀ {r : L3.R} {st1 : St}, de ρ st = .ok r st1 → r = r0 ∧ st1 = st0 := fun {r st1} e => by rw [q] at e; cases e; exact ⟨rfl, rfl⟩
    rw [c.K] at li ti
    cases r0 with
    | fl xs =>
      refine li fun ad1 st1 r v H1 s1 n1 r1 g1 e => ?_
      obtain ⟨rfl, rfl⟩ := same e
      obtain ⟨a, vs, rfl, h2, h3, h4⟩ := r1
      refine ⟨a, rfl, ⟨vs, SqL.of h2⟩, Good.now g1 n1 ?_⟩
      exact it_list fun ad2 H2 st2 s2 n2 _ => ⟨vs, SqL.of (s2.keep _ _ h2 h3), Rels.mv s2.mv h4⟩
    | fd t kvs =>
      refine li fun ad1 st1 r v H1 s1 n1 r1 g1 e => ?_
      obtain ⟨rfl, rfl⟩ := same e
      exact g1.elim
    | kt xs =>
      refine ti fun ad1 st1 r v H1 s1 n1 r1 g1 e => ?_
      obtain ⟨rfl, rfl⟩ := same e
      obtain ⟨a, vs, rfl, h2, h4⟩ := r1
      refine ⟨a, rfl, ⟨vs, h2.sq⟩, Good.now g1 n1 ?_⟩
      exact it_tup fun ad2 H2 s2 => ⟨vs, h2.sq, Rels.mv s2.mv h4⟩
    | d y =>
      cases y with
      | tup xs =>
        refine ti fun ad1 st1 r v H1 s1 n1 r1 g1 e => ?_
        obtain ⟨rfl, rfl⟩ := same e
        simp only [RR, Rel] at r1
        obtain ⟨a, vs, rfl, h2, h4⟩ := r1
        refine ⟨a, rfl, ⟨vs, SqT.of h2⟩, Good.now g1 n1 ?_⟩
        exact it_tup fun ad2 H2 s2 => ⟨vs, SqT.of (s2.tups _ _ h2), Rels.mv s2.mv h4⟩
      | ptup xs =>
        refine ti fun ad1 st1 r v H1 s1 n1 r1 g1 e => ?_
        obtain ⟨rfl, rfl⟩ := same e
        simp only [RR, Rel] at r1
        obtain ⟨a, vs, rfl, h2, h4⟩ := r1
        refine ⟨a, rfl, ⟨vs, h2.sq⟩, Good.now g1 n1 ?_⟩
        exact it_tup fun ad2 H2 s2 => ⟨vs, (PTup.mv s2.mv h2).sq, Rels.mv s2.mv h4⟩
      | frz xs =>
        refine li fun ad1 st1 r v H1 s1 n1 r1 g1 e => ?_
        obtain ⟨rfl, rfl⟩ := same e
        simp only [RR, Rel] at r1
        obtain ⟨a, vs, rfl, h2, h4⟩ := r1
        refine ⟨a, rfl, ⟨vs, h2.sq⟩, Good.now g1 n1 ?_⟩
        exact it_list fun ad2 H2 st2 s2 n2 _ => ⟨vs, (FrzL.mv s2.mv h2).sq, Rels.mv s2.mv h4⟩
      | ref k =>
        refine li fun ad1 st1 r v H1 s1 n1 r1 g1 e => ?_
        obtain ⟨rfl, rfl⟩ := same e
        cases z : L3.R.items st1 (L3.R.d (.ref k)) with
        | none => rw [z] at g1; exact g1.elim
        | some xs =>
          rw [z] at g1
          obtain ⟨a, vs, rfl, h2, h3⟩ := items_k n1 r1 z
          obtain ⟨a', h4, h5⟩ := rel_refK r1 rfl
          cases h5
          rcases h3 with h3 | ⟨e1, _⟩ | ⟨e1, _⟩ | ⟨e1, _⟩
          · refine ⟨a, rfl, ⟨vs, h3⟩, Good.now g1 n1 ?_⟩
            refine it_list fun ad2 H2 st2 s2 n2 hg => ?_
            simp only [guardOf, still, decide_eq_true_eq] at hg
            obtain ⟨b, e1, us, w1, w2⟩ := n2.rep.cell k _ hg
            obtain ⟨p, ep, _⟩ := s2.pre
            rw [ep, pick_app h4] at e1
            cases e1
            exact ⟨us, .inl w1.rd, w2⟩
          · cases e1
          · cases e1
          · cases e1
      | non => exact li fun ad1 st1 r v H1 s1 n1 r1 g1 e => by obtain ⟨rfl, rfl⟩ := same e; exact g1.elim
      | bl b => exact li fun ad1 st1 r v H1 s1 n1 r1 g1 e => by obtain ⟨rfl, rfl⟩ := same e; exact g1.elim
      | int b => exact li fun ad1 st1 r v H1 s1 n1 r1 g1 e => by obtain ⟨rfl, rfl⟩ := same e; exact g1.elim
      | str b => exact li fun ad1 st1 r v H1 s1 n1 r1 g1 e => by obtain ⟨rfl, rfl⟩ := same e; exact g1.elim
theorem PI.weak {tg e : Expr} {t t' : TI} (h : PI X tg e t) (i : ∀ σ H R, t' σ H R → t σ H R) : PI X tg e t' := ⟨fun pins s σ H R I q => h.run pins s σ H R I (i σ H R q)⟩
/-- a list or a tuple, as it stands later -/
theorem stands {r : L3.R} {v : V} {xs : List D} (n : Now Γ K ad st H) (h : RR Γ ad H r v) (e : r.items st = some xs) : ∃ a, v = .ref a ∧ (r.tup?.isSome = true → ∀ ad1 H1, Step ad H ad1 H1 → ∃ vs, SqT Γ.K H1 a vs ∧ Rels Γ.K ad1 H1 xs vs) ∧
    (r.tup?.isSome = false → ∀ ad1 H1 st1, Step ad H ad1 H1 → Now Γ K ad1 st1 H1 → still (guardOf r xs) st1 = true → ∃ vs, SqL Γ.K H1 a vs ∧ Rels Γ.K ad1 H1 xs vs) := by
  cases r with
  | fl ys =>
    simp only [R.items, Option.some.injEq] at e; subst e
    obtain ⟨a, vs, rfl, h2, h3, h4⟩ := h
    exact ⟨a, rfl, fun z => by simp [R.tup?] at z, fun _ ad1 H1 st1 s _ _ => ⟨vs, SqL.of (s.keep _ _ h2 h3), Rels.mv s.mv h4⟩⟩
  | fd t kvs => simp [R.items] at e
  | kt ys =>
    simp only [R.items, Option.some.injEq] at e; subst e
    obtain ⟨a, vs, rfl, h2, h4⟩ := h
    exact ⟨a, rfl, fun _ ad1 H1 s => ⟨vs, h2.sq, Rels.mv s.mv h4⟩, fun z => by simp [R.tup?] at z⟩
  | d y =>
    cases y with
    | tup ys =>
      simp only [R.items, Option.some.injEq] at e; subst e
      simp only [RR, Rel] at h
      obtain ⟨a, vs, rfl, h2, h4⟩ := h
      exact ⟨a, rfl, fun _ ad1 H1 s => ⟨vs, SqT.of (s.tups _ _ h2), Rels.mv s.mv h4⟩, fun z => by simp [R.tup?] at z⟩
    | ptup ys =>
      simp only [R.items, Option.some.injEq] at e; subst e
      simp only [RR, Rel] at h
      obtain ⟨a, vs, rfl, h2, h4⟩ := h
      exact ⟨a, rfl, fun _ ad1 H1 s => ⟨vs, (PTup.mv s.mv h2).sq, Rels.mv s.mv h4⟩, fun z => by simp [R.tup?] at z⟩
    | frz ys =>
      simp only [R.items, Option.some.injEq] at e; subst e
      simp only [RR, Rel] at h
      obtain ⟨a, vs, rfl, h2, h4⟩ := h
      exact ⟨a, rfl, fun z => by simp [R.tup?] at z, fun _ ad1 H1 st1 s _ _ => ⟨vs, (FrzL.mv s.mv h2).sq, Rels.mv s.mv h4⟩⟩
    | ref k =>
      obtain ⟨a, h4, rfl⟩ := rel_refK h rfl
      refine ⟨a, rfl, fun z => by simp [R.tup?] at z, fun _ ad1 H1 st1 s n1 hg => ?_⟩
      simp only [guardOf, still, decide_eq_true_eq] at hg
      obtain ⟨b, e1, us, w1, w2⟩ := n1.rep.cell k _ hg
      obtain ⟨p, ep, _⟩ := s.pre
      rw [ep, pick_app h4] at e1
      cases e1
      exact ⟨us, .inl w1.rd, w2⟩
    | non => simp [R.items] at e
    | bl b => simp [R.items] at e
    | int b => simp [R.items] at e
    | str b => simp [R.items] at e
theorem still_now {r : L3.R} {xs : List D} (e : r.items st = some xs) : still (guardOf r xs) st = true := by
  cases r with
  | d y =>
    cases y with
    | ref k =>
      simp only [R.items] at e
      simp only [guardOf, still, decide_eq_true_eq]
      split at e
      · rename_i q; cases e; exact q
      · cases e
    | _ => rfl
  | _ => rfl
/-- pairs of two walked things -/
theorem it_zip {Sq : Hp → Addr → List V → Prop} {a b : Addr} {xs ys : List D} {g : Option (Nat × List D)} (h : ∀ ad1 H1 st1, Step ad H ad1 H1 → Now Γ K ad1 st1 H1 → still g st1 = true → (∃ vs, Sq H1 a vs ∧ Rels Γ.K ad1 H1 xs vs) ∧ ∃ ws, Sq H1 b ws ∧ Rels Γ.K ad1 H1 ys ws) :
    ItOk Γ K ⟨fun i H => ∃ (xs ys : List V) (x y : V), Sq H a xs ∧ Sq H b ys ∧ xs[i]? = some x ∧ ys[i]? = some y, fun i H v H' => ∃ T x y, v = .ref T ∧ H T = none ∧ H' = upd H T (.tup [x, y]) ∧ (∀ xs, Sq H a xs → xs[i]? = some x) ∧ ∀ ys, Sq H b ys → ys[i]? = some y,
      fun i H => ∃ xs ys : List V, Sq H a xs ∧ Sq H b ys ∧ (xs.length ≤ i ∨ ys.length ≤ i)⟩ (List.zipWith (fun x y => D.tup [x, y]) xs ys) g ad H := by
  intro i ad1 H1 st1 s n hg
  obtain ⟨⟨vs, h1, h2⟩, ws, h3, h4⟩ := h ad1 H1 st1 s n hg
  refine ⟨fun hi => ?_, fun hi => ⟨vs, ws, h1, h3, ?_⟩⟩
  · rw [List.length_zipWith] at hi
    have hx : i < xs.length := by omega
    have hy : i < ys.length := by omega
    obtain ⟨v, ev, rv⟩ := h2.get (List.getElem?_eq_getElem hx)
    obtain ⟨w, ew, rw'⟩ := h4.get (List.getElem?_eq_getElem hy)
    refine ⟨⟨vs, ws, v, w, h1, h3, ev, ew⟩, fun x H' ⟨T, x1, y1, e1, e2, e3, e4, e5⟩ => ?_⟩
    subst e1 e3
    have k1 := e4 vs h1
    have k2 := e5 ws h3
    rw [ev] at k1
    rw [ew] at k2
    cases k1; cases k2
    obtain ⟨s2, n2⟩ := n.new e2 (.tup [v, w])
    refine ⟨.tup [xs[i], ys[i]], by simp [List.getElem?_zipWith, hx, hy], s2, n2, ?_⟩
    simp only [Rel, Rels]
    exact ⟨T, [v, w], rfl, upd_same, v, [w], rfl, Rel.mv s2.mv rv, w, [], rfl, Rel.mv s2.mv rw', rfl⟩
  · rw [List.length_zipWith] at hi
    rw [← h2.length, ← h4.length]
    omega
theorem pi_zipD {e e2 : Expr} {p pos tpos : Pos} {elts : List Expr} {kk : Nat} {da db : Env → St → Out R} (c : CxOk Γ G W n X) (hg : Gl X "zip") (hm : X.mg "zip" = none) (ha : PE X e (tG Γ K W (vR Γ) da)) (hb : PE X e2 (tG Γ K W (vR Γ) db)) (sa : shapeOk e = true) (sb : shapeOk e2 = true) :
    PI X (.Tuple elts kk tpos) (.Call (.Name "zip" p) [e, e2] [] pos) (tG Γ K W (vI Γ K) fun ρ st => (da ρ st).bind fun r st => (db ρ st).bind fun q st => (match r.items st, q.items st with
    | some xs, some ys => (match guardOf r xs, guardOf q ys with
      | some _, some _ => .bad
      | some g, none => if r.tup?.isSome == q.tup?.isSome then .ok (List.zipWith (fun x y => D.tup [x, y]) xs ys, some g) st else .bad
      | none, g => if r.tup?.isSome == q.tup?.isSome then .ok (List.zipWith (fun x y => D.tup [x, y]) xs ys, g) st else .bad)
    | _, _ => .bad)) := by
  refine PI.weak (RZ.pi_zipA hg hm (pa_cons ha (pa_cons hb pa_nil (shape_one sb)) (star1 (shape_star sa))) (by rw [star1 (shape_star sa)]) (star_any (by simp [shape_star sb]))) fun σ H R ⟨ad, st, ρ, now, env, g⟩ => ?_
  refine two' (ev := fun r q st => (match r.items st, q.items st with
    | some xs, some ys => (match guardOf r xs, guardOf q ys with
      | some _, some _ => .bad
      | some g, none => if r.tup?.isSome == q.tup?.isSome then .ok (List.zipWith (fun x y => D.tup [x, y]) xs ys, some g) st else .bad
      | none, g => if r.tup?.isSome == q.tup?.isSome then .ok (List.zipWith (fun x y => D.tup [x, y]) xs ys, g) st else .bad)
    | _, _ => .bad)) now env g fun {ad st H x y v w} n1 h h' g1 => ?_
  rcases q1 : x.items st with _ | xs
  · rw [q1] at g1; exact g1.elim
  rcases q2 : y.items st with _ | ys
  · rw [q1, q2] at g1; exact g1.elim
  rw [q1, q2] at g1
  dsimp only at g1
  obtain ⟨a, rfl, t1, l1⟩ := stands n1 h q1
  obtain ⟨b, rfl, t2, l2⟩ := stands n1 h' q2
  show ∃ a' b' us ws, [V.ref a, V.ref b] = [.ref a', .ref b'] ∧ _
  rw [c.K]
  have fin : ∀ g0, (x.tup?.isSome == y.tup?.isSome) = true → (∀ st1, still g0 st1 = true → still (guardOf x xs) st1 = true ∧ still (guardOf y ys) st1 = true) → 
      Good Γ K W σ ad H (vI Γ K) (.ok (List.zipWith (fun x y => D.tup [x, y]) xs ys, g0) st) R →
      ∃ a' b' us ws, [V.ref a, V.ref b] = [.ref a', .ref b'] ∧ ((SqL Γ.K H a' us ∧ SqL Γ.K H b' ws ∧ R (L2.Itz Γ.K a' b') H) ∨ (SqT Γ.K H a' us ∧ SqT Γ.K H b' ws ∧ R (RZ.ItzT Γ.K a' b') H)) := by
    intro g0 ht hs g2
    cases hx : x.tup?.isSome with
    | true =>
      have hy : y.tup?.isSome = true := by rw [hx] at ht; simpa using ht
      obtain ⟨us, u1, _⟩ := t1 hx ad H (Step.refl _ _)
      obtain ⟨ws, u2, _⟩ := t2 hy ad H (Step.refl _ _)
      exact ⟨a, b, us, ws, rfl, .inr ⟨u1, u2, Good.now g2 n1 (it_zip (Sq := SqT Γ.K) fun ad1 H1 st1 s n hg => ⟨t1 hx ad1 H1 s, t2 hy ad1 H1 s⟩)⟩⟩
    | false =>
      have hy : y.tup?.isSome = false := by rw [hx] at ht; simpa using ht
      obtain ⟨us, u1, _⟩ := l1 hx ad H st (Step.refl _ _) n1 (still_now q1)
      obtain ⟨ws, u2, _⟩ := l2 hy ad H st (Step.refl _ _) n1 (still_now q2)
      exact ⟨a, b, us, ws, rfl, .inl ⟨u1, u2, Good.now g2 n1 (it_zip (Sq := SqL Γ.K) fun ad1 H1 st1 s n hg => ⟨l1 hx ad1 H1 st1 s n (hs st1 hg).1, l2 hy ad1 H1 st1 s n (hs st1 hg).2⟩)⟩⟩
  rcases e1 : guardOf x xs with _ | ga
  · rw [e1] at g1
    dsimp only at g1
    split at g1
    · rename_i ht
      exact fin _ ht (fun st1 z => ⟨by rw [e1]; rfl, z⟩) g1
    · exact g1.elim
  · rcases e2 : guardOf y ys with _ | gb
    · rw [e1, e2] at g1
      dsimp only at g1
      split at g1
      · rename_i ht
        exact fin _ ht (fun st1 z => ⟨by rw [e1]; exact z, by rw [e2]; rfl⟩) g1
      · exact g1.elim
    · rw [e1, e2] at g1
      exact g1.elim
theorem pi_range1D {tg a : Expr} {p pos : Pos} {de : Env → St → Out R} (hg : Gl X "range") (hm : X.mg "range" = none) (ha : PE X a (tG Γ K W (vR Γ) de)) (sa : shapeOk a = true) :
    PI X tg (.Call (.Name "range" p) [a] [] pos) (tG Γ K W (vI Γ K) fun ρ st => (de ρ st).bind fun r st => (match r with
    | .d (.int n) => if -(2 ^ 62) ≤ n ∧ n < 2 ^ 62 then .ok ((List.range n.toNat).map fun (i : Nat) => D.int i, none) st else .bad
    | _ => .bad)) := by
  refine PI.weak (pi_range1 hg hm (pa_cons ha pa_nil (shape_one sa)) (shape_one sa)) fun σ H R ⟨ad, st, ρ, now, env, g⟩ => ?_
  refine stage (val' := vR Γ) now env g fun ad1 st1 r v H1 s1 n1 e1 r1 g1 => ?_
  show ∃ j : Int, [v] = [.int j] ∧ _
  split at g1
  · split at g1
    · rename_i k hk
      cases rel_int r1.1
      refine ⟨k, rfl, hk.1, hk.2, Good.now g1 n1 ?_⟩
      have : (fun (i : Nat) => D.int ((i : Nat) : Int)) = fun (i : Nat) => D.int (0 + (i : Nat)) := by funext i; simp
      show ItOk Γ K (Itr 0 k.toNat) _ none ad1 H1
      rw [this]
      exact it_rng
    · exact g1.elim
  · exact g1.elim
theorem pi_range2D {tg a b : Expr} {p pos : Pos} {da db : Env → St → Out R} (hg : Gl X "range") (hm : X.mg "range" = none) (ha : PE X a (tG Γ K W (vR Γ) da)) (hb : PE X b (tG Γ K W (vR Γ) db)) (sa : shapeOk a = true) (sb : shapeOk b = true) :
    PI X tg (.Call (.Name "range" p) [a, b] [] pos) (tG Γ K W (vI Γ K) fun ρ st => (da ρ st).bind fun r st => (db ρ st).bind fun q st => (match r, q with
    | .d (.int m), .d (.int n) => if -(2 ^ 62) ≤ m ∧ m < 2 ^ 62 ∧ -(2 ^ 62) ≤ n ∧ n < 2 ^ 62 then .ok ((List.range (n - m).toNat).map fun (i : Nat) => D.int (m + i), none) st else .bad
    | _, _ => .bad)) := by
  refine PI.weak (pi_range2 hg hm (pa_cons ha (pa_cons hb pa_nil (shape_one sb)) (star1 (shape_star sa))) (by rw [star1 (shape_star sa), shape_one sb]) (shape_one sb)) fun σ H R ⟨ad, st, ρ, now, env, g⟩ => ?_
  refine two' (ev := fun r q st => (match r, q with
    | .d (.int m), .d (.int n) => if -(2 ^ 62) ≤ m ∧ m < 2 ^ 62 ∧ -(2 ^ 62) ≤ n ∧ n < 2 ^ 62 then .ok ((List.range (n - m).toNat).map fun (i : Nat) => D.int (m + i), none) st else .bad
    | _, _ => .bad)) now env g fun {ad st H x y v w} n1 h h' g1 => ?_
  show ∃ i j : Int, [v, w] = [.int i, .int j] ∧ _
  split at g1
  · split at g1
    · rename_i k l hk
      cases rel_int h; cases rel_int h'
      exact ⟨k, l, rfl, hk, Good.now g1 n1 it_rng⟩
    · exact g1.elim
  · exact g1.elim

/-! ### targets -/
theorem env_set {d : D} {v : V} (e : EnvR Γ ad H ρ σ) (h : Rel Γ.K ad H d v) (i : Nat) : EnvR Γ ad H (ρ.set i (some d)) (σ.set i (some v)) := by
  refine ⟨by rw [List.length_set, List.length_set]; exact e.1, fun j x q => ?_⟩
  rw [List.getElem?_set] at q ⊢
  split at q
  · rename_i hij
    subst hij
    split at q
    · rename_i hl
      rw [if_pos rfl, if_pos (by rw [← e.1]; exact hl)]
      cases q
      exact ⟨v, rfl, h⟩
    · cases q
  · rename_i hij
    rw [if_neg hij]
    exact e.2 j x q
def setVs : List Nat → List V → L2.St → L2.St
  | i :: is, v :: vs, σ => setVs is vs (σ.set i (some v))
  | _, _, σ => σ
theorem env_setAll : ∀ {is : List Nat} {ds : List D} {vs : List V} {ρ : Env} {σ : L2.St}, EnvR Γ ad H ρ σ → Rels Γ.K ad H ds vs → EnvR Γ ad H (setAll is ds ρ) (setVs is vs σ)
  | [], ds, vs, _, _, e, h => by simp only [setAll, setVs]; exact e
  | i :: is, [], vs, _, _, e, h => by simp only [Rels] at h; subst h; simp only [setAll, setVs]; exact e
  | i :: is, d :: ds, vs, _, _, e, h => by
    simp only [Rels] at h
    obtain ⟨v, r, rfl, h1, h2⟩ := h
    simp only [setAll, setVs]
    exact env_setAll (env_set e h1 i) h2
/-- a target's reading -/
def gTg (K : PySem.W.Frag) : Tg → TG
  | .one i => gName i
  | .many is => fun v σ H Q => ∃ a xs, v = .ref a ∧ SqT K H a xs ∧ xs.length = is.length ∧ Q (setVs is xs σ) H
def gVs : List Nat → TGs
  | [] => gNil
  | i :: is => gCons (gName i) (gVs is)
theorem gVs_ok : ∀ {is : List Nat} {vs : List V} {σ : L2.St} {H : Hp} {Q : L2.St → Hp → Prop}, vs.length = is.length → Q (setVs is vs σ) H → gVs is vs σ H Q
  | [], [], _, _, _, _, h => ⟨rfl, h⟩
  | [], _ :: _, _, _, _, e, _ => by simp at e
  | _ :: _, [], _, _, _, e, _ => by simp at e
  | i :: is, v :: vs, _, _, _, e, h => ⟨v, vs, rfl, gVs_ok (by simpa using e) h⟩
/-- a name of the frame: how it is stored -/
theorem chkNm_of {N : List Str} {sc : Scope} {i : Nat} {e : Expr} (h : chkNm N sc i e = true) : ∃ x pos, e = .Name x pos ∧ N[i]? = some x ∧ (sc.names.lookup x = some .local ∨ sc.names.lookup x = some .cell) := by
  unfold chkNm at h
  split at h
  · rename_i x pos
    simp only [Bool.and_eq_true, decide_eq_true_eq] at h
    refine ⟨x, pos, rfl, h.1.1, ?_⟩
    have h2 := h.2
    split at h2
    · exact .inl (by assumption)
    · exact .inr (by assumption)
    · cases h2
  · cases h
/-- names are stored so in this context -/
def Stores (X : Cx) (sc : Scope) : Prop := ∀ x, (sc.names.lookup x = some .local ∨ sc.names.lookup x = some .cell) → Loc X.env.scope x ∧ (X.fn x = true ∨ X.env.scope.names.lookup x = some .local)
theorem pg_nm {sc : Scope} {i : Nat} {e : Expr} (nd : X.N.Nodup) (s : Stores X sc) (h : chkNm X.N sc i e = true) : PG X e (gName i) := by
  obtain ⟨x, pos, rfl, h1, h2⟩ := chkNm_of h
  obtain ⟨h3, h4⟩ := s x h2
  exact pg_name nd h1 h3 h4
theorem chkNm_star {N : List Str} {sc : Scope} {i : Nat} {e : Expr} {env : PySem.Env} {es : List Expr} (h : chkNm N sc i e = true) : assignEach (e :: es) env = (false, assign e env) :: assignEach es env := by
  obtain ⟨x, pos, rfl, _⟩ := chkNm_of h
  rfl
theorem pgs_nms {sc : Scope} (nd : X.N.Nodup) (s : Stores X sc) : ∀ {is : List Nat} {es : List Expr}, chkNms X.N sc is es = true → PGs X es (gVs is) ∧ (assignEach es X.env).length = is.length ∧ (assignEach es X.env).findIdx? (·.1) = none
  | [], [], _ => ⟨pgs_nil, rfl, rfl⟩
  | [], _ :: _, h => by simp [chkNms] at h
  | _ :: _, [], h => by simp [chkNms] at h
  | i :: is, e :: es, h => by
    simp only [chkNms, Bool.and_eq_true] at h
    obtain ⟨p1, p2, p3⟩ := pgs_nms nd s h.2
    refine ⟨pgs_cons (pg_nm nd s h.1) p1 (by rw [chkNm_star h.1]; rfl), by rw [chkNm_star h.1]; simp [p2], ?_⟩
    rw [chkNm_star h.1, List.findIdx?_cons, p3]
    rfl
theorem pg_tg {sc : Scope} {tg : Tg} {e : Expr} (nd : X.N.Nodup) (cm : X.calm = true) (s : Stores X sc) (h : chkTg X.N sc tg e = true) : PG X e (gTg X.K tg) := by
  cases tg with
  | one i => exact pg_nm nd s h
  | many is =>
    unfold chkTg at h
    split at h
    · rename_i e1; cases e1
    · rename_i is' es k pos e1
      cases e1
      obtain ⟨p1, p2, p3⟩ := pgs_nms nd s h
      refine ⟨fun pins s σ H v u Q I r ⟨a, xs, e2, h1, h2, h3⟩ => ?_⟩
      exact (pg_tup (n := is.length) cm p1 p2 p3).run pins s σ H v u Q I r ⟨a, xs, e2, h1, h2, gVs_ok h2 h3⟩
    · cases h
/-- a target's store, in both worlds -/
theorem tg_put {tg : Tg} {d : D} {v : V} {ρ' : Env} {Q : L2.St → Hp → Prop} (e : EnvR Γ ad H ρ σ) (h : Rel Γ.K ad H d v) (hp : tg.put d ρ = some ρ')
    (q : ∀ σ', EnvR Γ ad H ρ' σ' → (∀ j, j ∉ tg.slots → σ'[j]? = σ[j]?) → σ'.length = σ.length → Q σ' H) : gTg Γ.K tg v σ H Q := by
  cases tg with
  | one i =>
    simp only [Tg.put, Option.some.injEq] at hp
    subst hp
    exact q _ (env_set e h i) (fun j hj => by rw [List.getElem?_set_ne (by intro z; subst z; simp [Tg.slots] at hj)]) (by rw [List.length_set])
  | many is =>
    simp only [Tg.put] at hp
    split at hp
    · split at hp
      · rename_i ds hl
        cases hp
        simp only [Rel] at h
        obtain ⟨a, vs, rfl, h1, h2⟩ := h
        refine ⟨a, vs, rfl, SqT.of h1, by rw [← h2.length]; exact hl, q _ (env_setAll e h2) ?_ ?_⟩
        · have : ∀ (is : List Nat) (vs : List V) (σ : L2.St) (j : Nat), j ∉ is → (setVs is vs σ)[j]? = σ[j]? := by
            intro is
            induction is with
            | nil => intro vs σ j _; rfl
            | cons i is ih =>
              intro vs σ j hj
              cases vs with
              | nil => rfl
              | cons v vs =>
                simp only [List.mem_cons, not_or] at hj
                simp only [setVs]
                rw [ih vs _ j hj.2, List.getElem?_set_ne (Ne.symm hj.1)]
          exact fun j hj => this is vs σ j hj
        · have : ∀ (is : List Nat) (vs : List V) (σ : L2.St), (setVs is vs σ).length = σ.length := by
            intro is
            induction is with
            | nil => intro vs σ; rfl
            | cons i is ih =>
              intro vs σ
              cases vs with
              | nil => rfl
              | cons v vs => simp only [setVs]; rw [ih, List.length_set]
          exact this is vs σ
      · cases hp
    · cases hp
end
end L3
/-! L3MA: pairs of walked things of any kind -/
namespace L3
open PySem L2 PySem.Spec PyProof.Rows
/-- what is walked: a list, a tuple, a text -/
inductive Src where
  | l (a : Addr) (xs : List V) | t (a : Addr) (xs : List V) | s (z : Str)
def Src.val : Src → V
  | .l a _ => .ref a | .t a _ => .ref a | .s z => .str z
def Src.items : Src → List V
  | .l _ xs => xs | .t _ xs => xs | .s z => z.cps.toList.map fun c => .str ⟨#[c]⟩
def Src.at (K : PySem.W.Frag) (H : Hp) : Src → Prop
  | .l a xs => SqL K H a xs | .t a xs => SqT K H a xs | .s _ => True
def Src.adr : Src → List Addr
  | .l a _ => [a] | .t a _ => [a] | .s _ => []
/-- its iterator behind i turns; v: the value that is walked -/
def Src.it (h : Heap) (it : Addr) (i : Nat) (v : Value) : Src → Prop
  | .l a _ => h.IsListIter it a i | .t a _ => h.IsTupleIter it a i | .s z => ∃ t, v = .str z t ∧ h.IsStrIter it (strIterType z) z t i
theorem vals_back : ∀ {xs : List V} {us : List Value} {i : Nat} {u : Value}, Vals xs us → us[i]? = some u → ∃ x, xs[i]? = some x ∧ RelV x u
  | _, _, _, _, .nil, e => by simp at e
  | _, _, 0, _, .cons r _, e => by simp at e; subst e; exact ⟨_, rfl, r⟩
  | _, _, i + 1, u, .cons _ t, e => by
    obtain ⟨x, e1, e2⟩ := vals_back (i := i) t (by simpa using e)
    exact ⟨x, by simpa using e1, e2⟩
section
variable {X : Cx} {pins : List (Addr × Obj)} {σ : L2.St} {H : Hp} {s : Shared}
theorem Src.lt {S : Src} (I : Inv X pins σ H s) (h : S.at X.K H) : ∀ b ∈ S.adr, b < s.heap.objs.size := by
  intro b hb
  cases S with
  | l a xs => obtain ⟨its, rv, p, _⟩ := I.list h; rw [List.mem_singleton.mp hb]; exact p.lt
  | t a xs => obtain ⟨its, rv, p, _⟩ := I.tuple h; rw [List.mem_singleton.mp hb]; obtain ⟨o, ho, _⟩ := p; exact Heap.lt_size ho
  | s z => cases hb
theorem Src.begin {S : Src} {v : Value} (I : Inv X pins σ H s) (h : S.at X.K H) (r : RelV S.val v) : ∃ (o : Obj) (Hh : Heap → Prop), Begins v o Hh ∧ Hh s.heap ∧ ∀ h' it, h'.get? it = some o → S.it h' it 0 v := by
  cases S with
  | l a xs =>
    obtain ⟨its, rv, p, _⟩ := I.list h
    obtain rfl : v = Value.ref a := r
    exact ⟨_, _, begins_list a its.toArray, p.isList, fun h' it e => ⟨_, e, rfl, rfl⟩⟩
  | t a xs =>
    obtain ⟨its, rv, p, _⟩ := I.tuple h
    obtain rfl : v = Value.ref a := r
    exact ⟨_, _, begins_tuple a its.toArray, p, fun h' it e => ⟨_, e, rfl, rfl⟩⟩
  | s z =>
    obtain ⟨t, rfl⟩ := (show ∃ t, v = Value.str z t from r)
    exact ⟨_, _, begins_text z t, trivial, fun h' it e => ⟨t, rfl, _, e, rfl, rfl⟩⟩
theorem Src.draws {S : Src} {v : Value} {A : Around} {it : Addr} {i : Nat} (I : Inv X pins σ H s) (h : S.at X.K H) (hh : A.handled = none) (ne : ∀ b ∈ S.adr, b ≠ it) (hit : S.it s.heap it i v) :
    ∃ (fp : List Addr) (P : Nat → Value → Prop) (St : Nat → Heap → Prop), Draws X.prog X.w A it (it :: fp) S.items.length P St ∧ (∀ b ∈ fp, b ∈ S.adr) ∧ St i s.heap ∧ (∀ j h', St j h' → S.it h' it j v) ∧ ∀ j x, P j x → ∃ y, S.items[j]? = some y ∧ RelV y x := by
  cases S with
  | l a xs =>
    obtain ⟨its, rv, p, _⟩ := I.list h
    have e : its.toArray.size = xs.length := by rw [List.size_toArray, rv.length]
    refine ⟨[a], fun i v => its.toArray[i]? = some v, fun i h => h.IsListIter it a i ∧ h.IsList a its.toArray, ?_, fun b hb => hb, ⟨hit, p.isList⟩, fun j h' st => st.1, fun j x hx => ?_⟩
    · have := Draws.list (prog := X.prog) (w := X.w) hh it a (ne a (List.mem_singleton.mpr rfl)) its.toArray
      rw [e] at this; exact this
    · exact vals_back rv (by simpa using hx)
  | t a xs =>
    obtain ⟨its, rv, p, _⟩ := I.tuple h
    have e : its.toArray.size = xs.length := by rw [List.size_toArray, rv.length]
    refine ⟨[a], fun i v => its.toArray[i]? = some v, fun i h => h.IsTupleIter it a i ∧ h.IsTuple a its.toArray, ?_, fun b hb => hb, ⟨hit, p⟩, fun j h' st => st.1, fun j x hx => ?_⟩
    · have := Draws.tuple (prog := X.prog) (w := X.w) hh it a (ne a (List.mem_singleton.mpr rfl)) its.toArray
      rw [e] at this; exact this
    · exact vals_back rv (by simpa using hx)
  | s z =>
    obtain ⟨t, rfl, hit⟩ := hit
    refine ⟨[], fun i v => ∃ c u, z.cps[i]? = some c ∧ v = .str ⟨#[c]⟩ u, fun i h => h.IsStrIter it (strIterType z) z t i, ?_, fun b hb => absurd hb (by simp), hit, fun j h' st => ⟨t, rfl, st⟩, fun j x hx => ?_⟩
    · have := Draws.text (prog := X.prog) (w := X.w) hh it z t
      have e : z.cps.size = (Src.s z).items.length := by simp [Src.items]
      rw [e] at this; exact this
    · obtain ⟨c, u, hc, ex⟩ := hx
      subst ex
      exact ⟨.str ⟨#[c]⟩, by simp [Src.items, hc], u, rfl⟩
end
/-- the items of two walked things, in new pairs -/
def Itp (K : PySem.W.Frag) (S1 S2 : Src) : L2.It :=
  ⟨fun i H => S1.at K H ∧ S2.at K H ∧ i < min S1.items.length S2.items.length, fun i H v H' => ∃ T x y, v = .ref T ∧ H T = none ∧ H' = upd H T (.tup [x, y]) ∧ S1.items[i]? = some x ∧ S2.items[i]? = some y,
    fun i H => S1.at K H ∧ S2.at K H ∧ min S1.items.length S2.items.length ≤ i⟩
theorem turn_pair {P : Program} {w : World} {K : PySem.W.Frag} {elts : List Expr} {kk : Nat} {tpos : Pos} {S1 S2 : Src} {v1 v2 : Value} {N : Nat} (a1 : ∀ b ∈ S1.adr, b < N) (a2 : ∀ b ∈ S2.adr, b < N) :
    Turn P w K (.Tuple elts kk tpos) (Itp K S1 S2) [N + 4, N + 2, N + 3, N, N + 1] (N + 4) (fun i h => i ≤ min S1.items.length S2.items.length ∧ IsZip h (N + 4) (N + 2) (N + 3) .none ∧ IsTupOf2 h (N + 2) (.ref N) (.ref (N + 1)) ∧ (∃ x y, IsTupOf2 h (N + 3) x y) ∧ S1.it h N i v1 ∧ S2.it h (N + 1) i v2) where
  mem := by simp
  obj := fun i h st c hc => by
    obtain ⟨_, hz, hTI, ⟨x, y, hTO⟩, h1, h2⟩ := st
    have e' : c = N + 4 ∨ c = N + 2 ∨ c = N + 3 ∨ c = N ∨ c = N + 1 := by simpa using hc
    have itO : ∀ {S : Src} {it : Addr} {v : Value}, S.it h it i v → ∃ o, h.get? it = some o ∧ ∀ v, o.data ≠ .cell v := fun {S it v} q => by
      cases S with
      | l a xs => obtain ⟨o, e, _, d⟩ := q; exact ⟨o, e, fun v q => by rw [d] at q; cases q⟩
      | t a xs => obtain ⟨o, e, _, d⟩ := q; exact ⟨o, e, fun v q => by rw [d] at q; cases q⟩
      | s z => obtain ⟨t, _, o, e, _, d⟩ := q; exact ⟨o, e, fun v q => by rw [d] at q; cases q⟩
    rcases e' with q | q | q | q | q
    · rw [q]; exact ⟨_, hz, fun v q => nomatch q⟩
    · rw [q]; exact ⟨_, hTI, fun v q => nomatch q⟩
    · rw [q]; exact ⟨_, hTO, fun v q => nomatch q⟩
    · rw [q]; exact itO h1
    · rw [q]; exact itO h2
  keep := fun i h h' st k => by
    obtain ⟨hi, hz, hTI, ⟨x, y, hTO⟩, h1, h2⟩ := st
    have itK : ∀ {S : Src} {it : Addr} {v : Value}, (∀ o, h.get? it = some o → h'.get? it = some o) → S.it h it i v → S.it h' it i v := fun {S it v} kk q => by
      cases S with
      | l a xs => obtain ⟨o, e, r⟩ := q; exact ⟨o, kk o e, r⟩
      | t a xs => obtain ⟨o, e, r⟩ := q; exact ⟨o, kk o e, r⟩
      | s z => obtain ⟨t, ev, o, e, r⟩ := q; exact ⟨t, ev, o, kk o e, r⟩
    exact ⟨hi, k _ (by simp) _ hz, k _ (by simp) _ hTI, ⟨x, y, k _ (by simp) _ hTO⟩, itK (fun o q => k _ (by simp) o q) h1, itK (fun o q => k _ (by simp) o q) h2⟩
  item := by
    intro X hP hw hK hc i pins s σ H E I hf st hg
    subst hP hw hK
    obtain ⟨hi, hz, hTI, hTO, h1, h2⟩ := st
    obtain ⟨q1, q2, hlt⟩ := hg
    have hh : X.A.in1.handled = none := I.ok.hd hc
    obtain ⟨fp1, P1, St1, D1, f1, b1, e1, r1⟩ := Src.draws (A := X.A.in1) I q1 hh (fun b hb => Nat.ne_of_lt (a1 b hb)) h1
    obtain ⟨fp2, P2, St2, D2, f2, b2, e2, r2⟩ := Src.draws (A := X.A.in1) I q2 hh (fun b hb => Nat.ne_of_lt (Nat.lt_succ_of_lt (a2 b hb))) h2
    have W := GoesN.zip2 (prog := X.prog) (w := X.w) (A := X.A) (elts := elts) (x1 := kk) (pos := tpos) (zip_sep2 (fun b hb => a1 b (f1 b hb)) (fun b hb => a2 b (f2 b hb))) D1 D2
    refine W.goes i s (fun u s2 => ∃ x H', Inv X pins σ H' s2 ∧ RelV x u ∧ (Itp X.K S1 S2).yld i H x H' ∧ (i + 1 ≤ min S1.items.length S2.items.length ∧ IsZip s2.heap (N + 4) (N + 2) (N + 3) .none ∧ IsTupOf2 s2.heap (N + 2) (.ref N) (.ref (N + 1)) ∧ (∃ x y, IsTupOf2 s2.heap (N + 3) x y) ∧ S1.it s2.heap N (i + 1) v1 ∧ S2.it s2.heap (N + 1) (i + 1) v2) ∧
      ∀ b ∈ [N + 4, N + 2, N + 3, N, N + 1], H' b = none) E hlt ⟨hz, hTI, hTO, b1, b2⟩ fun u h' tk hY st2 hk htk => ?_
    obtain ⟨T, x, y, ev, hT, hx, hy, hTup⟩ := hY
    subst ev
    obtain ⟨x', hx1, hx2⟩ := r1 i x hx
    obtain ⟨y', hy1, hy2⟩ := r2 i y hy
    have new : ObjOk X.prog X.w (upd H T (.tup [x', y'])) h' T (.tup [x', y']) := ⟨by show 2 ≤ sizeLine; decide, [x, y], .cons hx2 (.cons hy2 .nil), hTup⟩
    have I1 : Inv X pins σ (upd H T (.tup [x', y'])) { s with heap := h', toks := tk } := I.turnedNew (t' := tk) (ch := [N + 4, N + 3, N, N + 1]) hk (fun b hb => hf b (by simp only [List.mem_cons, List.not_mem_nil, or_false] at hb ⊢; rcases hb with z | z | z | z <;> simp [z])) hT new
    refine ⟨.ref T, _, I1, rfl, ⟨T, x', y', rfl, I.hok.fresh hT, rfl, hx1, hy1⟩, ⟨hlt, st2.1, st2.2.1, st2.2.2.1, e1 _ _ st2.2.2.2.1, e2 _ _ st2.2.2.2.2⟩, fun c hcm => ?_⟩
    have hlt2 : c < s.heap.objs.size := by
      have := Heap.lt_size hz
      have e' : c = N + 4 ∨ c = N + 2 ∨ c = N + 3 ∨ c = N ∨ c = N + 1 := by simpa using hcm
      show (c : Nat) < s.heap.objs.size
      have h4 : (N + 4 : Nat) < s.heap.objs.size := this
      rcases e' with q | q | q | q | q <;> (have q : (c : Nat) = _ := q; omega)
    rw [upd_ne (Nat.ne_of_lt (Nat.lt_of_lt_of_le hlt2 hT))]
    exact (hf c hcm).1
  done := by
    intro X hP hw hK hc i pins s σ H E I hf st hg
    subst hP hw hK
    obtain ⟨hi, hz, hTI, hTO, h1, h2⟩ := st
    obtain ⟨q1, q2, hge⟩ := hg
    have hh : X.A.in1.handled = none := I.ok.hd hc
    obtain ⟨fp1, P1, St1, D1, f1, b1, e1, r1⟩ := Src.draws (A := X.A.in1) I q1 hh (fun b hb => Nat.ne_of_lt (a1 b hb)) h1
    obtain ⟨fp2, P2, St2, D2, f2, b2, e2, r2⟩ := Src.draws (A := X.A.in1) I q2 hh (fun b hb => Nat.ne_of_lt (Nat.lt_succ_of_lt (a2 b hb))) h2
    have W := GoesN.zip2 (prog := X.prog) (w := X.w) (A := X.A) (elts := elts) (x1 := kk) (pos := tpos) (zip_sep2 (fun b hb => a1 b (f1 b hb)) (fun b hb => a2 b (f2 b hb))) D1 D2
    have hin : i = min S1.items.length S2.items.length := Nat.le_antisymm hi hge
    refine W.stops s (fun s1 => Inv X pins σ H s1) E (hin ▸ ⟨hz, hTI, hTO, b1, b2⟩) fun h' tk hk htk => ?_
    exact I.turnedL (t' := tk) (ch := [N + 4, N + 3, N, N + 1]) hk (fun b hb => hf b (by simp only [List.mem_cons, List.not_mem_nil, or_false] at hb ⊢; rcases hb with z | z | z | z <;> simp [z]))
  self := fun A i s Q E st h => wpAny_pyIter_zip st.2.1 h
/-- zip of two walked things -/
theorem pi_zipS {X : Cx} {e e2 : Expr} {ta : TA} {p pos tpos : Pos} {elts : List Expr} {kk : Nat} (hg : Gl X "zip") (hm : X.mg "zip" = none) (ha : PA X [e, e2] ta)
    (hs : starEach [e, e2] X.env = (false, eval e X.env) :: starEach [e2] X.env) (hpl : (backTo pos (starEach [e2] X.env)).any (·.1) = false) :
    PI X (.Tuple elts kk tpos) (.Call (.Name "zip" p) [e, e2] [] pos) (fun σ H R => ta σ H fun vs H1 => ∃ S1 S2 : Src, vs = [S1.val, S2.val] ∧ S1.at X.K H1 ∧ S2.at X.K H1 ∧ R (Itp X.K S1 S2) H1) := by
  refine ⟨fun pins s σ H R I h => ?_⟩
  refine Call_ (ld_blt I hg hm PyProof.Rows.boot_zip (PyProof.Rows.callWith_type1 (thn (ha.run pos pins s σ H _ I h) fun us s1 ⟨vs, H1, I1, r1, q1⟩ => ?_) hs hpl))
  obtain ⟨S1, S2, ex, hq1, hq2, q⟩ := q1; subst ex
  cases r1 with
  | cons r rr =>
    cases rr with
    | cons r' rr =>
      cases rr
      obtain ⟨o1, Hh1, B1, c1, d1⟩ := Src.begin I1 hq1 r
      obtain ⟨o2, Hh2, B2, c2, d2⟩ := Src.begin I1 hq2 r'
      refine zip_begins2 B1 B2 c1 c2 fun h' hz hTI hTO g1 g2 hsz hk => wpAny_pyIter_zip hz ?_
      have I2 : Inv X pins σ H1 { s1 with heap := h' } := I1.kept (t' := s1.toks) hk
      refine ⟨s1.heap.objs.size + 4, [s1.heap.objs.size + 4, s1.heap.objs.size + 2, s1.heap.objs.size + 3, s1.heap.objs.size, s1.heap.objs.size + 1], _, _, H1, rfl, I2, turn_pair (Src.lt I1 hq1) (Src.lt I1 hq2), ⟨Nat.zero_le _, hz, hTI, ⟨_, _, hTO⟩, d1 _ _ g1, d2 _ _ g2⟩, fun c hcm => ?_, q⟩
      have hle : s1.heap.objs.size ≤ c := by
        have e' : c = s1.heap.objs.size + 4 ∨ c = s1.heap.objs.size + 2 ∨ c = s1.heap.objs.size + 3 ∨ c = s1.heap.objs.size ∨ c = s1.heap.objs.size + 1 := by simpa using hcm
        show (s1.heap.objs.size : Nat) ≤ c
        rcases e' with z | z | z | z | z <;> rw [z] <;> first | exact Nat.le_refl _ | exact Nat.le_add_right _ _
      exact I1.fpOk hle (I1.hok.fresh hle)
/-! ### enumerate -/
set_option maxHeartbeats 1000000 in
theorem meets_enumOne {v : Value} {o : Obj} {Hh : Heap → Prop} (B : Begins v o Hh) :
    Meets (Builtin.«enumerate.__new__» ⟨[.type "enumerate", v], []⟩) (fun _ R s => Hh s.heap ∧
      R (.ok (.ret (.ref (s.heap.push o).objs.size))) { s with heap := (s.heap.push o).push { cls := .type "enumerate", data := .fields #[.none, .bool false, .ref s.heap.objs.size, rawInt 0, .none, .none] } }) :=
  .of_wp fun prog w A R s h => by
    obtain ⟨hp, g, d, tk, os⟩ := s; obtain ⟨h1, h⟩ := h
    have hsub := sub_enumerate
    have q1 : ∀ {A' : Around} {E Q : Value → Shared → Prop}, Q (.ref hp.objs.size) ⟨hp.push o, g, d, tk, os⟩ → wpAny (model prog w) A' (pyIter v) Q E ⟨hp, g, d, tk, os⟩ := fun q => B.iter prog w _ _ ⟨hp, g, d, tk, os⟩ _ h1 q
    wp_walk using q1
    refine wpAny_stack_any fun st => wpAny_pure ?_
    split
    · rename_i c _ _ _ _ _
      cases (c == Value.type "enumerate") <;> (wp_walk using q1) <;> exact ⟨_, rfl, h⟩
    · wp_walk using q1
      exact ⟨_, rfl, h⟩
theorem enum_one {prog : Program} {w : World} {A : Around} {E : Value → Shared → Prop} {s : Shared} {v : Value} {o : Obj} {Hh : Heap → Prop} {Q : Value → Shared → Prop} (B : Begins v o Hh) (h1 : Hh s.heap)
    (h : ∀ h', IsEnum h' (s.heap.objs.size + 1) s.heap.objs.size 0 .none → h'.get? s.heap.objs.size = some o → (∀ b u, s.heap.get? b = some u → h'.get? b = some u) → Q (.ref (s.heap.objs.size + 1)) { s with heap := h' }) :
    wpAny (model prog w) A (call (.type "enumerate") [v]) Q E s := by
  refine callType_new F.called_enumerate (by decide) (F.typeCall_enumerate_1 _) (F.newCall_enumerate_1 _) (fun obj => F.args_object_init_2 obj _) F.entry_enumerate_new (meets_enumOne B) ⟨h1, ?_⟩
  have hz : (s.heap.push o).objs.size = s.heap.objs.size + 1 := Heap.size_push ..
  show _ ∧ _
  rw [hz]
  have he : IsEnum ((s.heap.push o).push { cls := .type "enumerate", data := .fields #[.none, .bool false, .ref s.heap.objs.size, rawInt 0, .none, .none] }) (s.heap.objs.size + 1) s.heap.objs.size 0 .none := by
    have := Heap.get?_push_size (s.heap.push o) (o := { cls := .type "enumerate", data := .fields #[.none, .bool false, .ref s.heap.objs.size, rawInt 0, .none, .none] }) rfl
    rw [hz] at this; exact this
  exact ⟨⟨_, he, rfl⟩, h _ he (Heap.get?_push_of_some _ (Heap.get?_push_size _ B.free)) fun b u x => Heap.get?_push_of_some _ (Heap.get?_push_of_some _ x)⟩
/-- the items of a walked thing with their places, in new pairs -/
def Itn (K : PySem.W.Frag) (S : Src) : L2.It :=
  ⟨fun i H => S.at K H ∧ i < S.items.length, fun i H v H' => ∃ T x, v = .ref T ∧ H T = none ∧ H' = upd H T (.tup [.int (i : Nat), x]) ∧ S.items[i]? = some x, fun i H => S.at K H ∧ S.items.length ≤ i⟩
theorem turn_places {P : Program} {w : World} {K : PySem.W.Frag} {elts : List Expr} {kk : Nat} {tpos : Pos} {S : Src} {v : Value} {N : Nat} (a1 : ∀ b ∈ S.adr, b < N) :
    Turn P w K (.Tuple elts kk tpos) (Itn K S) [N + 1, N] (N + 1) (fun i h => i ≤ S.items.length ∧ (∃ old, IsEnum h (N + 1) N (0 + (i : Int)) old) ∧ S.it h N i v) where
  mem := by simp
  obj := fun i h st c hc => by
    obtain ⟨_, ⟨old, he⟩, h1⟩ := st
    have e' : c = N + 1 ∨ c = N := by simpa using hc
    rcases e' with q | q
    · rw [q]; exact ⟨_, he, fun v q => nomatch q⟩
    · rw [q]
      cases S with
      | l a xs => obtain ⟨o, e, _, d⟩ := h1; exact ⟨o, e, fun v q => by rw [d] at q; cases q⟩
      | t a xs => obtain ⟨o, e, _, d⟩ := h1; exact ⟨o, e, fun v q => by rw [d] at q; cases q⟩
      | s z => obtain ⟨t, _, o, e, _, d⟩ := h1; exact ⟨o, e, fun v q => by rw [d] at q; cases q⟩
  keep := fun i h h' st k => by
    obtain ⟨hi, ⟨old, he⟩, h1⟩ := st
    refine ⟨hi, ⟨old, k _ (by simp) _ he⟩, ?_⟩
    have kk := fun o q => k N (by simp) o q
    cases S with
    | l a xs => obtain ⟨o, e, r⟩ := h1; exact ⟨o, kk o e, r⟩
    | t a xs => obtain ⟨o, e, r⟩ := h1; exact ⟨o, kk o e, r⟩
    | s z => obtain ⟨t, ev, o, e, r⟩ := h1; exact ⟨t, ev, o, kk o e, r⟩
  item := by
    intro X hP hw hK hc i pins s σ H E I hf st hg
    subst hP hw hK
    obtain ⟨hi, he, h1⟩ := st
    obtain ⟨q1, hlt⟩ := hg
    have hh : X.A.in1.handled = none := I.ok.hd hc
    obtain ⟨fp1, P1, St1, D1, f1, b1, e1, r1⟩ := Src.draws (A := X.A.in1) I q1 hh (fun b hb => Nat.ne_of_lt (a1 b hb)) h1
    have nin : N + 1 ∉ N :: fp1 := fun z => by
      rcases List.mem_cons.mp z with z | z
      · exact absurd z (Nat.succ_ne_self N)
      · exact absurd (a1 _ (f1 _ z)) (Nat.not_lt.mpr (Nat.le_succ N))
    have W := GoesN.enumFrom (prog := X.prog) (w := X.w) (A := X.A) (elts := elts) (x1 := kk) (pos := tpos) 0 D1 (N + 1) (Nat.succ_ne_self N) nin List.mem_cons_self
    refine W.goes i s (fun u s2 => ∃ x H', Inv X pins σ H' s2 ∧ RelV x u ∧ (Itn X.K S).yld i H x H' ∧ (i + 1 ≤ S.items.length ∧ (∃ old, IsEnum s2.heap (N + 1) N (0 + ((i + 1 : Nat) : Int)) old) ∧ S.it s2.heap N (i + 1) v) ∧ ∀ b ∈ [N + 1, N], H' b = none) E hlt ⟨he, b1⟩ fun u h' tk hY st2 hk htk => ?_
    obtain ⟨T, t, x, ev, hT, hx, hTup⟩ := hY
    subst ev
    obtain ⟨x', hx1, hx2⟩ := r1 i x hx
    have new : ObjOk X.prog X.w (upd H T (.tup [.int (i : Nat), x'])) h' T (.tup [.int (i : Nat), x']) := ⟨by show 2 ≤ sizeLine; decide, [.int (0 + (i : Int)) t, x], .cons ⟨t, by rw [Int.zero_add]⟩ (.cons hx2 .nil), hTup⟩
    have I1 : Inv X pins σ (upd H T (.tup [.int (i : Nat), x'])) { s with heap := h', toks := tk } := I.turnedNew (t' := tk) (ch := [N + 1, N]) hk hf hT new
    refine ⟨.ref T, _, I1, rfl, ⟨T, x', rfl, I.hok.fresh hT, rfl, hx1⟩, ⟨hlt, st2.1, e1 _ _ st2.2⟩, fun c hcm => ?_⟩
    have hlt2 : c < s.heap.objs.size := by
      obtain ⟨old, he⟩ := he
      have h4 : (N + 1 : Nat) < s.heap.objs.size := Heap.lt_size he
      have e' : c = N + 1 ∨ c = N := by simpa using hcm
      rcases e' with q | q <;> rw [q]
      · exact h4
      · exact Nat.lt_of_succ_lt h4
    rw [upd_ne (Nat.ne_of_lt (Nat.lt_of_lt_of_le hlt2 hT))]
    exact (hf c hcm).1
  done := by
    intro X hP hw hK hc i pins s σ H E I hf st hg
    subst hP hw hK
    obtain ⟨hi, he, h1⟩ := st
    obtain ⟨q1, hge⟩ := hg
    have hh : X.A.in1.handled = none := I.ok.hd hc
    obtain ⟨fp1, P1, St1, D1, f1, b1, e1, r1⟩ := Src.draws (A := X.A.in1) I q1 hh (fun b hb => Nat.ne_of_lt (a1 b hb)) h1
    have nin : N + 1 ∉ N :: fp1 := fun z => by
      rcases List.mem_cons.mp z with z | z
      · exact absurd z (Nat.succ_ne_self N)
      · exact absurd (a1 _ (f1 _ z)) (Nat.not_lt.mpr (Nat.le_succ N))
    have W := GoesN.enumFrom (prog := X.prog) (w := X.w) (A := X.A) (elts := elts) (x1 := kk) (pos := tpos) 0 D1 (N + 1) (Nat.succ_ne_self N) nin List.mem_cons_self
    have hin : i = S.items.length := Nat.le_antisymm hi hge
    exact W.stops s (fun s1 => Inv X pins σ H s1) E (hin ▸ ⟨he, b1⟩) fun h' tk hk htk => I.turnedL (t' := tk) (ch := [N + 1, N]) hk hf
  self := fun A i s Q E st h => let ⟨old, he⟩ := st.2.1; wpAny_pyIter_enum he h
/-- enumerate of a list as it stands, or of any walked thing that stays -/
theorem pi_enumS {X : Cx} {e : Expr} {ta : TA} {p pos tpos : Pos} {elts : List Expr} {kk : Nat} (hg : Gl X "enumerate") (hm : X.mg "enumerate" = none) (ha : PA X [e] ta) (hs : starEach [e] X.env = [(false, eval e X.env)]) :
    PI X (.Tuple elts kk tpos) (.Call (.Name "enumerate" p) [e] [] pos) (fun σ H R => ta σ H fun vs H1 => (∃ a xs, vs = [.ref a] ∧ SqL X.K H1 a xs ∧ R (Ite X.K a) H1) ∨ ∃ S : Src, vs = [S.val] ∧ S.at X.K H1 ∧ R (Itn X.K S) H1) := by
  refine ⟨fun pins s σ H R I h => ?_⟩
  refine Call_ (ld_blt I hg hm boot_enumerate (PyProof.Rows.callWith_type1 (thn (ha.run pos pins s σ H _ I h) fun us s1 ⟨vs, H1, I1, r1, q1⟩ => ?_) hs rfl))
  rcases q1 with ⟨a, xs, ex, hq, q⟩ | ⟨S, ex, hq, q⟩
  · subst ex
    cases r1 with
    | cons r rr =>
      cases rr; cases r
      obtain ⟨its, rv, p', hz⟩ := I1.list hq
      refine call_enumerate_list p'.isList fun h' he hit hsz hk => wpAny_pyIter_enum he ?_
      have J2 : Inv X pins σ H1 { s1 with heap := h' } := I1.kept (t' := s1.toks) hk
      refine ⟨s1.heap.objs.size + 1, [s1.heap.objs.size + 1, s1.heap.objs.size], _, _, H1, rfl, J2, turn_enum a (s1.heap.objs.size + 1) s1.heap.objs.size, ⟨⟨.none, he⟩, hit, Nat.succ_ne_self _⟩, fun b hb => ?_, q⟩
      have e' : b = s1.heap.objs.size + 1 ∨ b = s1.heap.objs.size := by simpa using hb
      have hle : s1.heap.objs.size ≤ b := by rcases e' with z | z <;> rw [z] <;> first | exact Nat.le_refl _ | exact Nat.le_add_right _ _
      exact I1.fpOk hle (I1.hok.fresh hle)
  · subst ex
    cases r1 with
    | cons r rr =>
      cases rr
      obtain ⟨o1, Hh1, B1, c1, d1⟩ := Src.begin I1 hq r
      refine enum_one B1 c1 fun h' he g1 hk => wpAny_pyIter_enum he ?_
      have J2 : Inv X pins σ H1 { s1 with heap := h' } := I1.kept (t' := s1.toks) hk
      refine ⟨s1.heap.objs.size + 1, [s1.heap.objs.size + 1, s1.heap.objs.size], _, _, H1, rfl, J2, turn_places (Src.lt I1 hq), ⟨Nat.zero_le _, ⟨_, he⟩, d1 _ _ g1⟩, fun b hb => ?_, q⟩
      have e' : b = s1.heap.objs.size + 1 ∨ b = s1.heap.objs.size := by simpa using hb
      have hle : s1.heap.objs.size ≤ b := by rcases e' with z | z <;> rw [z] <;> first | exact Nat.le_refl _ | exact Nat.le_add_right _ _
      exact I1.fpOk hle (I1.hok.fresh hle)
/-! ### .. as the run tells -/
section
variable {Γ : Gam} {G : Nm} {K : Ct} {W : WX} {n m : Nat} {X : Cx} {σ : L2.St} {ad ad1 : List Addr} {H H1 : Hp} {st : St} {ρ : Env}
theorem rels_chars : ∀ (cs : List Nat), Rels Γ.K ad H (cs.map fun c => D.str ⟨#[c]⟩) (cs.map fun c => V.str ⟨#[c]⟩)
  | [] => by simp [Rels]
  | c :: cs => by simp only [List.map_cons, Rels]; exact ⟨_, _, rfl, by simp only [Rel], rels_chars cs⟩
theorem src_of {r : L3.R} {v : V} {xs : List D} (n : Now Γ K ad st H) (h : RR Γ ad H r v) (e : r.walk st = some xs) (g : (guardOf r xs).isNone = true) :
    ∃ S : Src, v = S.val ∧ ∀ ad1 H1, Step ad H ad1 H1 → S.at Γ.K H1 ∧ Rels Γ.K ad1 H1 xs S.items := by
  cases r with
  | fl ys =>
    simp only [R.walk, R.items, Option.some.injEq] at e; subst e
    obtain ⟨a, vs, rfl, h2, h3, h4⟩ := h
    exact ⟨.l a vs, rfl, fun ad1 H1 s => ⟨SqL.of (s.keep _ _ h2 h3), Rels.mv s.mv h4⟩⟩
  | fd t kvs => simp [R.walk, R.items] at e
  | kt ys =>
    simp only [R.walk, R.items, Option.some.injEq] at e; subst e
    obtain ⟨a, vs, rfl, h2, h4⟩ := h
    exact ⟨.t a vs, rfl, fun ad1 H1 s => ⟨h2.sq, Rels.mv s.mv h4⟩⟩
  | d y =>
    cases y with
    | tup ys =>
      simp only [R.walk, R.items, Option.some.injEq] at e; subst e
      simp only [RR, Rel] at h
      obtain ⟨a, vs, rfl, h2, h4⟩ := h
      exact ⟨.t a vs, rfl, fun ad1 H1 s => ⟨SqT.of (s.tups _ _ h2), Rels.mv s.mv h4⟩⟩
    | frz ys =>
      simp only [R.walk, R.items, Option.some.injEq] at e; subst e
      simp only [RR, Rel] at h
      obtain ⟨a, vs, rfl, h2, h4⟩ := h
      exact ⟨.l a vs, rfl, fun ad1 H1 s => ⟨(FrzL.mv s.mv h2).sq, Rels.mv s.mv h4⟩⟩
    | ptup ys =>
      simp only [R.walk, R.items, Option.some.injEq] at e; subst e
      simp only [RR, Rel] at h
      obtain ⟨a, vs, rfl, h2, h4⟩ := h
      exact ⟨.t a vs, rfl, fun ad1 H1 s => ⟨(PTup.mv s.mv h2).sq, Rels.mv s.mv h4⟩⟩
    | str z =>
      simp only [R.walk, Option.some.injEq] at e; subst e
      simp only [RR, Rel] at h; subst h
      exact ⟨.s z, rfl, fun ad1 H1 s => ⟨trivial, rels_chars _⟩⟩
    | ref k => simp [guardOf] at g
    | non => simp [R.walk, R.items] at e
    | bl b => simp [R.walk, R.items] at e
    | int b => simp [R.walk, R.items] at e
theorem it_pair {S1 S2 : Src} {xs ys : List D} (h1 : ∀ ad1 H1, Step ad H ad1 H1 → S1.at Γ.K H1 ∧ Rels Γ.K ad1 H1 xs S1.items) (h2 : ∀ ad1 H1, Step ad H ad1 H1 → S2.at Γ.K H1 ∧ Rels Γ.K ad1 H1 ys S2.items) :
    ItOk Γ K (Itp Γ.K S1 S2) (List.zipWith (fun x y => D.tup [x, y]) xs ys) none ad H := by
  intro i ad1 H1 st1 s n hg
  obtain ⟨a1, r1⟩ := h1 ad1 H1 s
  obtain ⟨a2, r2⟩ := h2 ad1 H1 s
  have l1 := r1.length
  have l2 := r2.length
  rw [List.length_zipWith]
  refine ⟨fun hi => ⟨⟨a1, a2, by rw [← l1, ← l2]; exact hi⟩, fun x H' hy => ?_⟩, fun hi => ⟨a1, a2, by rw [← l1, ← l2]; exact hi⟩⟩
  obtain ⟨T, u, v, rfl, hT, rfl, e1, e2⟩ := hy
  obtain ⟨d1, f1, g1⟩ := r1.getV e1
  obtain ⟨d2, f2, g2⟩ := r2.getV e2
  obtain ⟨s2, n2⟩ := n.new hT (.tup [u, v])
  refine ⟨.tup [d1, d2], by simp [List.getElem?_zipWith, f1, f2], s2, n2, ?_⟩
  simp only [Rel, Rels]
  exact ⟨T, [u, v], rfl, upd_same, u, [v], rfl, Rel.mv s2.mv g1, v, [], rfl, Rel.mv s2.mv g2, rfl⟩
theorem it_places {S : Src} {xs : List D} (h1 : ∀ ad1 H1, Step ad H ad1 H1 → S.at Γ.K H1 ∧ Rels Γ.K ad1 H1 xs S.items) :
    ItOk Γ K (Itn Γ.K S) (xs.zipIdx.map fun p => D.tup [.int p.2, p.1]) none ad H := by
  intro i ad1 H1 st1 s n hg
  obtain ⟨a1, r1⟩ := h1 ad1 H1 s
  have l1 := r1.length
  rw [List.length_map, List.length_zipIdx]
  refine ⟨fun hi => ⟨⟨a1, by rw [← l1]; exact hi⟩, fun x H' hy => ?_⟩, fun hi => ⟨a1, by rw [← l1]; exact hi⟩⟩
  obtain ⟨T, u, rfl, hT, rfl, e1⟩ := hy
  obtain ⟨d1, f1, g1⟩ := r1.getV e1
  obtain ⟨s2, n2⟩ := n.new hT (.tup [.int (i : Nat), u])
  refine ⟨.tup [.int (i : Nat), d1], by simp [List.getElem?_zipIdx, f1], s2, n2, ?_⟩
  simp only [Rel, Rels]
  exact ⟨T, [.int (i : Nat), u], rfl, upd_same, .int (i : Nat), [u], rfl, rfl, u, [], rfl, Rel.mv s2.mv g1, rfl⟩
theorem it_placesL {a : Addr} {xs : List D} {g : Option (Nat × List D)} (h : ∀ ad1 H1 st1, Step ad H ad1 H1 → Now Γ K ad1 st1 H1 → still g st1 = true → ∃ vs, SqL Γ.K H1 a vs ∧ Rels Γ.K ad1 H1 xs vs) :
    ItOk Γ K (Ite Γ.K a) (xs.zipIdx.map fun p => D.tup [.int p.2, p.1]) g ad H := by
  intro i ad1 H1 st1 s n hg
  obtain ⟨vs, h1, r1⟩ := h ad1 H1 st1 s n hg
  have l1 := r1.length
  rw [List.length_map, List.length_zipIdx]
  refine ⟨fun hi => ?_, fun hi => ⟨vs, h1, by rw [← l1]; exact hi⟩⟩
  obtain ⟨v, ev, _⟩ := r1.get (List.getElem?_eq_getElem hi)
  refine ⟨⟨vs, v, h1, ev⟩, fun x H' hy => ?_⟩
  obtain ⟨T, u, rfl, hT, rfl, e1⟩ := hy
  obtain ⟨d1, f1, g1⟩ := r1.getV (e1 vs h1)
  obtain ⟨s2, n2⟩ := n.new hT (.tup [.int (i : Nat), u])
  refine ⟨.tup [.int (i : Nat), d1], by simp [List.getElem?_zipIdx, f1], s2, n2, ?_⟩
  simp only [Rel, Rels]
  exact ⟨T, [.int (i : Nat), u], rfl, upd_same, .int (i : Nat), [u], rfl, rfl, u, [], rfl, Rel.mv s2.mv g1, rfl⟩
theorem pi_zipSD {e e2 : Expr} {p pos tpos : Pos} {elts : List Expr} {kk : Nat} {da db : Env → St → Out L3.R} (c : CxOk Γ G W n X) (hg : Gl X "zip") (hm : X.mg "zip" = none) (ha : PE X e (tG Γ K W (vR Γ) da)) (hb : PE X e2 (tG Γ K W (vR Γ) db)) (sa : shapeOk e = true) (sb : shapeOk e2 = true) :
    PI X (.Tuple elts kk tpos) (.Call (.Name "zip" p) [e, e2] [] pos) (tG Γ K W (vI Γ K) fun ρ st => (da ρ st).bind fun r st => (db ρ st).bind fun q st => (match r.walk st, q.walk st with
    | some xs, some ys => if (guardOf r xs).isNone && (guardOf q ys).isNone then .ok (List.zipWith (fun x y => D.tup [x, y]) xs ys, none) st else .bad
    | _, _ => .bad)) := by
  refine PI.weak (pi_zipS hg hm (pa_cons ha (pa_cons hb pa_nil (shape_one sb)) (star1 (shape_star sa))) (by rw [star1 (shape_star sa)]) (star_any (by simp [shape_star sb]))) fun σ H R ⟨ad, st, ρ, now, env, g⟩ => ?_
  refine two' (ev := fun r q st => (match r.walk st, q.walk st with
    | some xs, some ys => if (guardOf r xs).isNone && (guardOf q ys).isNone then .ok (List.zipWith (fun x y => D.tup [x, y]) xs ys, none) st else .bad
    | _, _ => .bad)) now env g fun {ad st H x y v w} n1 h h' g1 => ?_
  split at g1
  · rename_i xs ys q1 q2
    split at g1
    · rename_i hz
      simp only [Bool.and_eq_true] at hz
      obtain ⟨S1, e1, f1⟩ := src_of n1 h q1 hz.1
      obtain ⟨S2, e2, f2⟩ := src_of n1 h' q2 hz.2
      show ∃ S1 S2 : Src, [v, w] = [S1.val, S2.val] ∧ _
      rw [c.K]
      exact ⟨S1, S2, by rw [e1, e2], (f1 ad H (Step.refl _ _)).1, (f2 ad H (Step.refl _ _)).1, Good.now g1 n1 (it_pair f1 f2)⟩
    · exact g1.elim
  · exact g1.elim
theorem pi_enumD {e : Expr} {p pos tpos : Pos} {elts : List Expr} {kk : Nat} {da : Env → St → Out L3.R} (c : CxOk Γ G W n X) (hg : Gl X "enumerate") (hm : X.mg "enumerate" = none) (ha : PE X e (tG Γ K W (vR Γ) da)) (sa : shapeOk e = true) :
    PI X (.Tuple elts kk tpos) (.Call (.Name "enumerate" p) [e] [] pos) (tG Γ K W (vI Γ K) fun ρ st => (da ρ st).bind fun r st => (match r.walk st with | some xs => .ok (xs.zipIdx.map fun p => D.tup [.int p.2, p.1], guardOf r xs) st | none => .bad)) := by
  refine PI.weak (pi_enumS hg hm (pa_cons ha pa_nil (shape_one sa)) (shape_one sa)) fun σ H R ⟨ad, st, ρ, now, env, g⟩ => ?_
  refine stage (val' := vR Γ) now env g fun ad1 st1 r v H1 s1 n1 e1 r1 g1 => ?_
  split at g1
  · rename_i xs q1
    rw [c.K]
    cases hgd : guardOf r xs with
    | none =>
      obtain ⟨S, ev, f⟩ := src_of n1 r1.1 q1 (by rw [hgd]; rfl)
      rw [hgd] at g1
      exact .inr ⟨S, by rw [ev], (f ad1 H1 (Step.refl _ _)).1, Good.now g1 n1 (it_places f)⟩
    | some gd =>
      have hw : r.items st1 = some xs := by
        cases r with
        | d y => cases y <;> first | exact q1 | (simp [guardOf] at hgd)
        | _ => exact q1
      obtain ⟨a, rfl, t1, l1⟩ := stands n1 r1.1 hw
      have nt : r.tup?.isSome = false := by
        cases r with
        | d y => cases y <;> first | rfl | (simp [guardOf] at hgd)
        | kt y => simp [guardOf] at hgd
        | _ => rfl
      obtain ⟨us, u1, _⟩ := l1 nt ad1 H1 st1 (Step.refl _ _) n1 (still_now hw)
      rw [hgd] at g1
      refine .inl ⟨a, us, rfl, u1, Good.now g1 n1 (it_placesL fun ad2 H2 st2 s2 n2 hs => l1 nt ad2 H2 st2 s2 n2 (by rw [hgd]; exact hs))⟩
  · exact g1.elim
end
end L3
/-! L3N: comprehensions -/
namespace L3
open PySem L2 PySem.Spec PyProof.Rows
abbrev W0 : WX := fun _ _ _ _ => False
section
variable {Γ : Gam} {G : Nm} {K : Ct} {W : WX} {n m : Nat} {X : Cx} {σ : L2.St} {ad ad1 : List Addr} {H H1 : Hp} {st : St} {ρ : Env}
def wipeD (ρ : Env) : List Nat → Env
  | [] => ρ
  | v :: vs => (wipeD ρ vs).set v none
theorem wipeD_len (ρ : Env) : ∀ vs : List Nat, (wipeD ρ vs).length = ρ.length
  | [] => rfl
  | v :: vs => by simp only [wipeD]; rw [List.length_set, wipeD_len ρ vs]
theorem wipeD_get {ρ : Env} {j : Nat} : ∀ {vs : List Nat}, (wipeD ρ vs)[j]? = if j ∈ vs then (ρ[j]?).map fun _ => none else ρ[j]?
  | [] => by simp [wipeD]
  | v :: vs => by
    simp only [wipeD]
    rw [List.getElem?_set, wipeD_get (vs := vs), wipeD_len]
    by_cases e : v = j
    · subst e
      simp only [List.mem_cons, true_or, if_true]
      split
      · rename_i h; simp [h]
      · rename_i h; simp at h; simp [h]
    · rw [if_neg e]
      have : (j ∈ v :: vs) ↔ j ∈ vs := by simp [Ne.symm e]
      simp only [this]
theorem wipe_get {σ : L2.St} {j : Nat} : ∀ {vs : List Nat}, (wipe σ vs)[j]? = if j ∈ vs then (σ[j]?).map fun _ => none else σ[j]?
  | [] => by simp [wipe]
  | v :: vs => by
    simp only [wipe]
    rw [List.getElem?_set, wipe_get (vs := vs), wipe_length]
    by_cases e : v = j
    · subst e
      simp only [List.mem_cons, true_or, if_true]
      split
      · rename_i h; simp [h]
      · rename_i h; simp at h; simp [h]
    · rw [if_neg e]
      have : (j ∈ v :: vs) ↔ j ∈ vs := by simp [Ne.symm e]
      simp only [this]
theorem env_wipe (e : EnvR Γ ad H ρ σ) (vs : List Nat) : EnvR Γ ad H (wipeD ρ vs) (wipe σ vs) := by
  refine ⟨by rw [wipeD_len, wipe_length]; exact e.1, fun i d h => ?_⟩
  rw [wipeD_get] at h
  rw [wipe_get]
  split at h
  · cases q : ρ[i]? <;> rw [q] at h <;> simp at h
  · rename_i hi
    rw [if_neg hi]
    exact e.2 i d h
theorem wipe_same {σ σ2 : L2.St} {vs : List Nat} (h : ∀ j, j ∉ vs → σ2[j]? = (wipe σ vs)[j]?) (hl : σ2.length = (wipe σ vs).length) : wipe σ2 vs = wipe σ vs := by
  apply List.ext_getElem?
  intro j
  rw [wipe_get, wipe_get]
  split
  · rw [wipe_length] at hl
    by_cases q : j < σ.length
    · have q2 : j < σ2.length := by omega
      simp [q, q2]
    · have q2 : ¬ j < σ2.length := by omega
      simp at q q2
      simp [q, q2]
  · rename_i hj
    rw [h j hj, wipe_get, if_neg hj]
theorem setAll_congr : ∀ {is : List Nat} {ds : List D} {ρ1 ρ2 : Env}, ds.length = is.length → ρ1.length = ρ2.length → (∀ j, j ∉ is → ρ1[j]? = ρ2[j]?) → setAll is ds ρ1 = setAll is ds ρ2
  | [], [], _, _, _, _, h => by simp only [setAll]; exact List.ext_getElem? fun j => h j (by simp)
  | [], _ :: _, _, _, e, _, _ => by simp at e
  | _ :: _, [], _, _, e, _, _ => by simp at e
  | i :: is, d :: ds, ρ1, ρ2, e, hl, h => by
    simp only [setAll]
    refine setAll_congr (by simpa using e) (by simp [hl]) fun j hj => ?_
    rw [List.getElem?_set, List.getElem?_set]
    by_cases q : i = j
    · subst q; simp [hl]
    · rw [if_neg q, if_neg q]
      exact h j (by simp [hj, Ne.symm q])
theorem put_wipe {tg : Tg} {d : D} {ρ ρ' : Env} (h : tg.put d ρ = some ρ') : tg.put d (wipeD ρ tg.slots) = some ρ' := by
  cases tg with
  | one i =>
    simp only [Tg.put, Option.some.injEq] at h ⊢
    subst h
    simp [Tg.slots, wipeD]
  | many is =>
    simp only [Tg.put] at h ⊢
    split at h
    · split at h
      · rename_i ds hl
        cases h
        simp only [if_pos hl, Option.some.injEq]
        refine setAll_congr hl (wipeD_len _ _) fun j hj => ?_
        rw [wipeD_get, if_neg (show ¬ j ∈ (Tg.many is).slots from hj)]
      · cases h
    · cases h
theorem Step.updNew {D' : Addr} {u : HO} {xs : List V} (s : Step ad1 H1 ad H) (h0 : H1 D' = none) (h : H D' = Option.some (HO.lst xs)) : Step ad1 H1 ad (upd H D' u) := by
  refine ⟨s.pre, fun b o e hb => by rw [upd_ne (ne_of_none e h0)]; exact s.keep b o e hb, fun b ys e => by rw [upd_ne (ne_of_none e h0)]; exact s.tups b ys e, fun b o w e => by rw [upd_ne (ne_of_none e h0)]; exact s.frzs b o w e, fun b e => ?_⟩
  unfold upd
  split
  · simp
  · exact s.some b e
theorem Mv.updL {D' : Addr} {u : HO} {xs : List V} (h : H D' = some (.lst xs)) : Mv ad H ad (upd H D' u) :=
  ⟨⟨[], rfl⟩, fun b ys e => by rw [upd_ne fun z => by subst z; rw [h] at e; cases e]; exact e, fun b o w e => by rw [upd_ne fun z => by subst z; rw [h] at e; cases e]; exact e⟩
theorem Now.updL {D' : Addr} {u : HO} {xs : List V} (n : Now Γ K ad st H) (h : H D' = some (.lst xs)) (hD : D' ∉ ad) : Now Γ K ad st (upd H D' u) :=
  ⟨⟨n.rep.len, n.rep.nd, fun k c e => let ⟨a, h1, h2⟩ := n.rep.cell k c e; ⟨a, h1, h2.mv (Mv.updL h) (upd_ne fun z => hD (z ▸ pick_mem h1))⟩⟩, n.base, n.lk⟩
theorem Step.notin {D' : Addr} (s : Step ad H ad1 H1) (h : H D' ≠ none) (hD : D' ∉ ad) : D' ∉ ad1 := fun z => by
  obtain ⟨p, e, hp⟩ := s.pre
  rw [e] at z
  rcases List.mem_append.mp z with z | z
  · exact h (hp _ z)
  · exact hD z
/-- a comprehension's turns -/
theorem lc_imp {t : Tg} {dI : Env → St → Out (List D × Option (Nat × List D))} {dC : Env → St → Out Bool} {dE : Env → St → Out R} {Q : VK}
    (h : tG Γ K W (vR Γ) (fun ρ st => (dI ρ st).bind fun ig st => (lcRun (still ig.2) (fun x st => match t.put x ρ with
      | some σ' => (dC σ' st).bind fun b st => if b then (dE σ' st).bind fun r st => (match r.toD st with | some (x, st) => .ok (some x) st | none => .bad) else .ok none st
      | none => .bad) ig.1 st).noErr.bind fun ys st => if ys.length ≤ sizeLine then .ok (.fl ys) st else .bad) σ H Q) : tLc (tG Γ K W (vI Γ K) dI) (gTg Γ.K t) (tG Γ K W0 vB dC) (tG Γ K W0 (vR Γ) dE) t.slots σ H Q := by
  obtain ⟨ad, st, ρ, now, env, g⟩ := h
  refine stage (val' := vI Γ K) now env g fun ad1 st1 ig J H1 s1 n1 env1 it g1 => ?_
  obtain ⟨items, gd⟩ := ig
  intro L hL
  replace it : ItOk Γ K J items gd ad1 H1 := it
  generalize hstep : (fun (x : D) (st : St) => match t.put x ρ with
      | some σ' => (dC σ' st).bind fun b st => if b then (dE σ' st).bind fun r st => (match r.toD st with | some (x, st) => Out.ok (some x) st | none => Out.bad) else Out.ok none st
      | none => Out.bad) = step at g1
  refine ⟨fun i mm H => mm = items.length - i ∧ i ≤ items.length ∧ ∃ ad2 st2 acc av, Step ad1 H1 ad2 H ∧ Now Γ K ad2 st2 H ∧ H L = some (.lst av) ∧ L ∉ ad2 ∧ Rels Γ.K ad2 H acc av ∧
    Good Γ K W σ ad1 H1 (vR Γ) ((lcRun (still gd) step (items.drop i) st2).noErr.bind fun ys st => if (acc ++ ys).length ≤ sizeLine then .ok (.fl (acc ++ ys)) st else .bad) Q, ⟨_, rfl, Nat.zero_le _, ad1, st1, [], [], ?_, ?_, upd_same, n1.rep.out hL, by simp only [Rels], ?_⟩, ?_⟩
  · exact (n1.new hL _).1
  · exact (n1.new hL _).2
  · simpa using g1
  rintro i mm H2 ⟨rfl, hi2, ad2, st2, acc, av, s2, n2, h2, hL2, r2, g2⟩
  by_cases hlt : i < items.length
  · -- a turn
    refine .inr ?_
    rw [List.drop_eq_getElem_cons hlt] at g2
    have hg : still gd st2 = true := by
      by_cases q : still gd st2 = true
      · exact q
      · simp only [lcRun, if_neg q] at g2; exact g2.elim
    simp only [lcRun, if_pos hg] at g2
    obtain ⟨hgo, hyl⟩ := (it i ad2 H2 st2 s2 n2 hg).1 hlt
    refine ⟨hgo, _, fun H' w => ⟨items.length - (i + 1), by omega, w⟩, fun x H3 hy => ?_⟩
    obtain ⟨d, e1, s3, n3, r3⟩ := hyl x H3 hy
    rw [List.getElem?_eq_getElem hlt] at e1
    cases e1
    subst hstep
    simp only at g2
    cases hp : t.put items[i] ρ with
    | none => rw [hp] at g2; exact g2.elim
    | some ρ' =>
      rw [hp] at g2
      simp only at g2
      have envW : EnvR Γ ad2 H3 (wipeD ρ t.slots) (wipe σ t.slots) := (env_wipe (env1.mv (s2.trans s3).mv) _)
      refine tg_put envW r3 (put_wipe hp) fun σ' e' hout hlen => ⟨wipe_same hout hlen, ad2, st2, ρ', n3, e', ?_⟩
      cases hc : dC ρ' st2 with
      | bad => rw [hc] at g2; exact g2.elim
      | err x st' => rw [hc] at g2; exact g2.elim
      | ok b st3 =>
        rw [hc] at g2
        intro ad4 H4 b' s4 n4 hb
        have hb : b = b' := hb
        subst hb
        have h4 : H4 L = some (.lst av) := s4.keep _ _ (s3.keep _ _ h2 hL2) hL2
        have hL4 : L ∉ ad4 := s4.notin (by rw [s3.keep _ _ h2 hL2]; simp) hL2
        cases b with
        | false =>
          simp only [Bool.false_eq_true, if_false]
          refine ⟨by trivial, hlt, ad4, st3, acc, av, s2.trans (s3.trans s4), n4, h4, hL4, Rels.mv (s3.trans s4).mv r2, ?_⟩
          simp only [Out.bind, Bool.false_eq_true, if_false] at g2
          cases q : lcRun (still gd) (fun (x : D) (st : St) => match t.put x ρ with
            | some σ' => (dC σ' st).bind fun b st => if b then (dE σ' st).bind fun r st => (match r.toD st with | some (x, st) => Out.ok (some x) st | none => Out.bad) else Out.ok none st
            | none => Out.bad) (items.drop (i + 1)) st3 <;> simp only [Out.bind] at q <;> rw [q] at g2 <;> simpa [Out.noErr, Out.bind] using g2
        | true =>
          simp only [if_true]
          refine ⟨ad4, st3, ρ', n4, e'.mv s4.mv, ?_⟩
          cases he : dE ρ' st3 with
          | bad => simp only [Out.bind, if_true, he] at g2; exact g2.elim
          | err x st' => simp only [Out.bind, if_true, he] at g2; exact g2.elim
          | ok r st5 =>
            simp only [Out.bind, if_true, he] at g2
            intro ad5 H5 y s5 n5 py
            cases hd : r.toD st5 with
            | none => rw [hd] at g2; exact g2.elim
            | some q =>
              obtain ⟨z, st6⟩ := q
              rw [hd] at g2
              simp only at g2
              obtain ⟨ad6, s6, n6, r6, p6, e6⟩ := toD_ok s5 n5 py hd
              have h5 : H5 L = some (.lst av) := s5.keep _ _ h4 hL4
              have hL6 : L ∉ ad6 := s6.notin (by rw [h4]; simp) hL4
              have mvs : Mv ad2 H2 ad6 H5 := ((s3.trans s4).trans s6).mv
              refine ⟨av, h5, ?_, ?_⟩
              · rw [← r2.length]
                cases q : lcRun (still gd) (fun (x : D) (st : St) => match t.put x ρ with
                  | some σ' => (dC σ' st).bind fun b st => if b then (dE σ' st).bind fun r st => (match r.toD st with | some (x, st) => Out.ok (some x) st | none => Out.bad) else Out.ok none st
                  | none => Out.bad) (items.drop (i + 1)) st6 with
                | bad => simp only [Out.bind] at q; rw [q] at g2; exact g2.elim
                | err x st' => simp only [Out.bind] at q; rw [q] at g2; exact g2.elim
                | ok ys st' =>
                  simp only [Out.bind] at q
                  rw [q] at g2
                  simp only [Out.noErr, Option.toList] at g2
                  split at g2
                  · rename_i hz; simp at hz; omega
                  · exact g2.elim
              · refine ⟨by trivial, hlt, ad6, st6, acc ++ [z], av ++ [y], ((s2.trans (s3.trans (s4.trans s6)))).updNew hL h5, n6.updL h5 hL6, upd_same, hL6, Rels.mv (Mv.updL h5) ((Rels.mv mvs r2).append (by simp only [Rels]; exact ⟨y, [], rfl, r6, rfl⟩)), ?_⟩
                cases q : lcRun (still gd) (fun (x : D) (st : St) => match t.put x ρ with
                  | some σ' => (dC σ' st).bind fun b st => if b then (dE σ' st).bind fun r st => (match r.toD st with | some (x, st) => Out.ok (some x) st | none => Out.bad) else Out.ok none st
                  | none => Out.bad) (items.drop (i + 1)) st6 <;> simp only [Out.bind] at q <;> rw [q] at g2 <;> simpa [Out.noErr, Out.bind, List.append_assoc] using g2
  · -- the end
    have e : i = items.length := by omega
    subst e
    rw [List.drop_length] at g2
    have hg : still gd st2 = true := by
      by_cases q : still gd st2 = true
      · exact q
      · simp only [lcRun, if_neg q] at g2; exact g2.elim
    simp only [lcRun, if_pos hg, Out.noErr, Out.bind, List.append_nil] at g2
    refine .inl ⟨(it items.length ad2 H2 st2 s2 n2 hg).2 (Nat.le_refl _), ?_⟩
    split at g2
    · exact g2 ad2 H2 (.ref L) s2 n2 ⟨⟨L, av, rfl, h2, hL2, r2⟩, fun a ea => by cases ea; exact hL⟩
    · exact g2.elim
/-- [elt for target in iter if test] -/
theorem pe_lcD {elt tg iter : Expr} {ifs : List Expr} {cscope : Scope} {pos : Pos} {t : Tg} {dI : Env → St → Out (List D × Option (Nat × List D))} {dC : Env → St → Out Bool} {dE : Env → St → Out R}
    (c : CxOk Γ G W n X) (hi : PI X tg iter (tG Γ K W (vI Γ K) dI)) (ok : blkC X.N X.env.scope cscope (ownOf X.N t) = true) (hs : (ownOf X.N t).map (·.2) = t.slots) (ht : chkTg X.N cscope t tg = true)
    (hcT : ∀ (s : Shared) (H : Hp) (C : Addr) (cl : List (Str × Addr)) (fp : List Addr), PTs (X.blk s H cscope (compEnvC cscope cl C X.env) fp) ifs (tG Γ K W0 vB dC))
    (hcE : ∀ (s : Shared) (H : Hp) (C : Addr) (cl : List (Str × Addr)) (fp : List Addr), PE (X.blk s H cscope (compEnvC cscope cl C X.env) fp) elt (tG Γ K W0 (vR Γ) dE)) (sf : ∀ x, foldedSetIterable iter X.env x = pure x) :
    PE X (.ListComp elt [⟨tg, iter, ifs, 0⟩] cscope pos) (tG Γ K W (vR Γ) fun ρ st => (dI ρ st).bind fun ig st => (lcRun (still ig.2) (fun x st => match t.put x ρ with
      | some σ' => (dC σ' st).bind fun b st => if b then (dE σ' st).bind fun r st => (match r.toD st with | some (x, st) => .ok (some x) st | none => .bad) else .ok none st
      | none => .bad) ig.1 st).noErr.bind fun ys st => if ys.length ≤ sizeLine then .ok (.fl ys) st else .bad) := by
  have stores : ∀ (s : Shared) (H : Hp) (C : Addr) (cl : List (Str × Addr)) (fp : List Addr), Stores (X.blk s H cscope (compEnvC cscope cl C X.env) fp) cscope := by
    intro s H C cl fp x hx
    have hsc : (compEnvC cscope cl C X.env).scope = relS cscope X.env.scope := rfl
    have keep : ∀ {k : NameKind}, k ≠ .free → cscope.names.lookup x = some k → (compEnvC cscope cl C X.env).scope.names.lookup x = some k := fun {k} h1 h2 => by
      rw [hsc]
      exact lookup_relS_keep h1 h2
    rcases hx with hx | hx
    · exact ⟨.inl (keep (by decide) hx), .inr (keep (by decide) hx)⟩
    · exact ⟨.inr (keep (by decide) hx), .inl (by show (cscope.names.lookup x == some .cell) = true; rw [hx]; rfl)⟩
  refine PE.weak (pe_lc (own := ownOf X.N t) (g := gTg X.K t) c.calm c.nd hi (blkOk_by ok) (fun s H C cl fp => pg_tg (X := X.blk s H cscope (compEnvC cscope cl C X.env) fp) c.nd c.calm (stores s H C cl fp) ht) hcT hcE sf) fun σ H Q h => ?_
  rw [hs, c.K]
  exact lc_imp h
end
end L3
/-! L3O: every term of expressions, by its text -/
namespace L3
open PySem L2 PySem.Spec PyProof.Rows
section
variable {Γ : Gam} {G : Nm} {tb : Tb} {F : Calls} {K : Ct} {W : WX} {n m : Nat} {X : Cx} {σ : L2.St} {ad ad1 : List Addr} {H H1 : Hp} {st : St} {ρ : Env}
/-- the truth of a value -/
theorem truth_ok {r : R} {v : V} {b : Bool} (n : Now Γ K ad st H) (h : RR Γ ad H r v) (e : r.truth st = some b) : TruV Γ.K v H b := by
  cases r with
  | fl xs =>
    simp only [R.truth, Option.some.injEq] at e; subst e
    obtain ⟨a, vs, rfl, h2, _, h4⟩ := h
    exact .inl ⟨vs, SqL.of h2, by have := h4.length; cases xs <;> cases vs <;> simp_all⟩
  | kt xs =>
    simp only [R.truth, Option.some.injEq] at e; subst e
    obtain ⟨a, vs, rfl, h2, h4⟩ := h
    exact .inr (.inl ⟨vs, h2.sq, by have := h4.length; cases xs <;> cases vs <;> simp_all⟩)
  | fd t kvs => simp [R.truth] at e
  | d y =>
    cases y <;> simp only [R.truth, Option.some.injEq] at e
    · subst e; simp only [RR, Rel] at h; subst h; rfl
    · subst e; simp only [RR, Rel] at h; subst h; rfl
    · subst e; simp only [RR, Rel] at h; subst h; rename_i i; show decide (i ≠ 0) = (i != 0); by_cases z : i = 0 <;> simp [z]
    · rename_i x
      split at e
      · rename_i hz
        simp only [Option.some.injEq] at e
        subst e; simp only [RR, Rel] at h; subst h
        exact ⟨hz, by by_cases z : x.length = 0 <;> simp [z]⟩
      · cases e
    · subst e; simp only [RR, Rel] at h
      obtain ⟨a, vs, rfl, h2, h4⟩ := h
      exact .inr (.inl ⟨vs, SqT.of h2, by have := h4.length; rename_i xs; cases xs <;> cases vs <;> simp_all⟩)
    · rename_i k
      simp only [RR, Rel] at h
      obtain ⟨a, h1, rfl⟩ := h
      split at e
      · rename_i xs q
        obtain ⟨b', e1, vs, z1, z2⟩ := n.rep.cell k _ q
        rw [h1] at e1; cases e1
        simp only [Option.some.injEq] at e; subst e
        exact .inl ⟨vs, .inl z1.rd, by have := z2.length; cases xs <;> cases vs <;> simp_all⟩
      · cases e
    · subst e; simp only [RR, Rel] at h
      obtain ⟨a, vs, rfl, h2, h4⟩ := h
      exact .inl ⟨vs, h2.sq, by have := h4.length; rename_i xs; cases xs <;> cases vs <;> simp_all⟩
    · subst e; simp only [RR, Rel] at h
      obtain ⟨a, vs, rfl, h2, h4⟩ := h
      exact .inr (.inl ⟨vs, h2.sq, by have := h4.length; rename_i xs; cases xs <;> cases vs <;> simp_all⟩)
/-- the truth of a run's value -/
def dTruth (m : Env → St → Out R) : Env → St → Out Bool := fun ρ st => (m ρ st).bind R.test
/-- is the text a test of its own kind -/
def ownTest : Expr → Bool
  | .UnaryOp .Not _ _ => true
  | .BoolOp _ _ _ => true
  | .IfExp _ _ _ _ => true
  | .Compare _ _ _ _ => true
  | _ => false
theorem pt_plain {e : Expr} {m : Env → St → Out R} (c : CxOk Γ G W n X) (he : PE X e (tG Γ K W (vR Γ) m)) (h : ownTest e = false) : PT X e (tG Γ K W vB (dTruth m)) := by
  refine PT.weak (pt_truth he ?_) fun σ H Q ⟨ad, st, ρ, now, env, g⟩ => ?_
  · intro whole
    cases e <;> first | rfl | (simp [ownTest] at h; done) | (rename_i op _ _; cases op <;> first | rfl | (simp [ownTest] at h; done))
  · refine stage (val' := vR Γ) now env g fun ad1 st1 r v H1 s1 n1 e1 r1 g1 => ?_
    unfold R.test at g1
    split at g1
    · rename_i b hb
      exact ⟨b, by rw [c.K]; exact truth_ok n1 r1.1 hb, Good.now g1 n1 rfl⟩
    · exact g1.elim
/-- a comparison as a test: its values are truths -/
theorem pt_bool {e : Expr} {m : Env → St → Out R} {t : TE} (hp : PT X e (tTest t)) (i : ∀ σ H Q, tG Γ K W (vR Γ) m σ H Q → t σ H Q) (hb : ∀ ρ st r st', m ρ st = .ok r st' → ∃ b, r = .d (.bl b)) : PT X e (tG Γ K W vB (dTruth m)) := by
  refine PT.weak hp fun σ H Q ⟨ad, st, ρ, now, env, g⟩ => ?_
  refine i σ H _ ⟨ad, st, ρ, now, env, ?_⟩
  unfold dTruth at g
  cases q : m ρ st with
  | ok r st' =>
    rw [q] at g
    obtain ⟨b, rfl⟩ := hb _ _ _ _ q
    intro ad' H' v s' n' p
    exact ⟨b, rel_bl p.1, g ad' H' b s' n' rfl⟩
  | err x st' => rw [q] at g; exact g
  | bad => rw [q] at g; exact g

def isBool : Expr → Bool
  | .BoolOp _ _ _ => true
  | _ => false
/-- a text runs as its term tells: as a value, as a test -/
structure Snd (Γ : Gam) (tb : Tb) (F : Calls) (K : Ct) (W : WX) (X : Cx) (e : E) (x : Expr) : Prop where
  pe : PE X x (tG Γ K W (vR Γ) (denE F tb K e))
  pt : PT X x (tG Γ K W vB (denT F tb K e))
  pw : isBool x = true → PW X x (tG Γ K W vB (denT F tb K e))
theorem Snd.plain {e : E} {x : Expr} (c : CxOk Γ G W n X) (h : PE X x (tG Γ K W (vR Γ) (denE F tb K e))) (hx : ownTest x = false) (he : ∀ K, denT F tb K e = dTruth (denE F tb K e)) : Snd Γ tb F K W X e x :=
  ⟨h, by rw [he]; exact pt_plain c h hx, fun z => by cases x <;> simp_all [ownTest, isBool]⟩
/-- names of the frame -/
theorem var_of {i : Nat} {x : Str} (h : isVar X.N X.env.scope i x = true) : X.N[i]? = some x ∧ Vis X.env.scope x ∧ (x == ("__debug__" : Str)) = false ∧ (x == ("__classdict__" : Str)) = false := by
  simp only [isVar, Bool.and_eq_true, decide_eq_true_eq] at h
  obtain ⟨⟨h1, h2⟩, h3⟩ := h
  refine ⟨h1, ?_, (plain_nm h2).1, (plain_nm h2).2.1⟩
  split at h3
  · exact .inl (by assumption)
  · exact .inr (.inl (by assumption))
  · exact .inr (.inr (by assumption))
  · cases h3
theorem var_pe {i : Nat} {x : Str} {pos : Pos} (h : isVar X.N X.env.scope i x = true) : PE X (.Name x pos) (tG Γ K W (vR Γ) (denE F tb K (.var i))) := by
  obtain ⟨h1, h2, h3, h4⟩ := var_of h
  refine PE.weak (pe_var h1 h2 h3 h4) fun σ H Q ⟨ad, st, ρ, now, env, g⟩ => ?_
  simp only [denE] at g
  split at g
  · rename_i d hd
    obtain ⟨v, e1, e2⟩ := env.2 i d hd
    exact ⟨v, e1, Good.d g now e2⟩
  · exact g.elim
theorem lit_pe {d : D} {x : Expr} (h : litOk d x = true) : PE X x (tG Γ K W (vR Γ) (denE F tb K (.lit d))) := by
  have fin : ∀ {v : V}, (∀ ad H, Rel Γ.K ad H d v) → PE X x (tC v) → PE X x (tG Γ K W (vR Γ) (denE F tb K (.lit d))) := fun {v} hr hp => PE.weak hp fun σ H Q ⟨ad, st, ρ, now, env, g⟩ => by
    simp only [denE] at g
    exact Good.d g now (hr ad H)
  unfold litOk at h
  split at h
  · exact fin (fun _ _ => d_non) pe_non
  · simp only [decide_eq_true_eq] at h; subst h; exact fin (fun _ _ => d_bl) pe_bl
  · simp only [decide_eq_true_eq] at h; subst h; exact fin (fun _ _ => d_int) pe_int
  · simp only [decide_eq_true_eq] at h; subst h; exact fin (fun _ _ => d_str) pe_str
  · cases h
theorem rel_out {d : D} {v : V} (h : Rel Γ.K [] (fun _ => none) d v) : Rel Γ.K ad H d v := by
  have : Mv [] (fun _ => none) ad H := ⟨⟨ad, by simp⟩, fun b xs e => (by cases e), fun b o u e => (by cases e)⟩
  exact Rel.mv this h
theorem rels_out {d : List D} {v : List V} (h : Rels Γ.K [] (fun _ => none) d v) : Rels Γ.K ad H d v := by
  have : Mv [] (fun _ => none) ad H := ⟨⟨ad, by simp⟩, fun b xs e => (by cases e), fun b o u e => (by cases e)⟩
  exact Rels.mv this h
theorem con_pe {g : Nat} {x : Str} {pos : Pos} (c : CxOk Γ G W n X) (t : TbOk Γ G tb F n X) (h1 : isGl X.env.scope x = true) (h2 : G.con g = some x) : PE X (.Name x pos) (tG Γ K W (vR Γ) (denE F tb K (.con g))) := by
  have q := t.cons g x h2
  obtain ⟨hg, hd, _⟩ := gl_of h1
  rw [c.K] at q
  cases e : tb.con g with
  | tup ds =>
    rw [e] at q
    obtain ⟨a, vs, m1, m2, m3⟩ := q
    refine PE.weak (pe_glob hg m1 (show RelV (.ref a) (.ref a) from rfl) hd) fun σ H Q ⟨ad, st, ρ, now, env, g⟩ => ?_
    simp only [denE, e] at g
    exact Good.now g now ⟨⟨a, vs, rfl, m2, rels_out m3⟩, trivial⟩
  | frz ds =>
    refine ⟨fun pins s σ H Q I ⟨ad, st, ρ, now, env, g⟩ => ?_⟩
    simp only [denE, e] at g
    exact g.elim
  | _ =>
    rw [e] at q
    obtain ⟨u, v, m1, m2, m3⟩ := q
    refine PE.weak (pe_glob hg m1 m2 hd) fun σ H Q ⟨ad, st, ρ, now, env, g⟩ => ?_
    simp only [denE, e] at g
    exact Good.d g now (rel_out m3)
end
end L3
/-! L3OA: list(reversed(..)) of a list, at the model's level, and by its text -/
namespace L3
open PySem PySem.Spec PyProof.Rows L2 RT
section
variable {prog : Program} {w : World} {A : Around} {E : Value → Shared → Prop} {s : Shared}
/-- the items of a reversed walk go into the empty list at S -/
theorem revInto {R : Result → Shared → Prop} {S it l : Addr} {res : Value} {its : Array Value} {c0 : Nat} (hh : A.handled = none) (hi : s.heap.IsRevIter it l ((its.size : Int) - 1)) (hl : s.heap.IsList l its) (n1 : l ≠ it) (n2 : S ≠ it) (n3 : S ≠ l) (sz : its.size ≤ sizeLine)
    (hS : s.heap.get? S = some { cls := .type "list", data := .seq #[] c0 })
    (hR : ∀ (h' : Heap) (tk : Nat) (acc : Array Value) (c' : Nat), (∀ b o, b ≠ S → b ≠ it → s.heap.get? b = some o → h'.get? b = some o) → h'.get? S = some { cls := .type "list", dict := none, data := .seq acc c', slots := #[] } →
      ItemsOf (fun i v => its[its.size - 1 - i]? = some v) acc its.size → R (.ok (.ret res)) { s with heap := h', toks := tk }) :
    wpAny (model prog w) A.in1 (Builtin.List.listExtendWith (.ref S) (.ref it) res)
      (fun fin s' => match fin with | .done f => R (.ok f) s' | .again c' => c'.quiet = true ∧ codeAny (model prog w) A c' R s') (fun e s' => R (.error e) s') s := by
  have W := (Walks.listRev (prog := prog) (w := w) (A := A.in1) hh it l n1 its).toS
  have nin : S ∉ [it, l] := by simp only [List.mem_cons, List.not_mem_nil, or_false, not_or]; exact ⟨n2, n3⟩
  have same : Builtin.List.listSameRef (.ref S) (.ref it) = false := by simp [Builtin.List.listSameRef, n2]
  have ty : s.TypeIs (.ref it) "list_reverseiterator" := Heap.IsRevIter.typeIs hi
  unfold Builtin.List.listExtendWith
  refine wpAny_bind (wpAny_typeOf ty ?_); rw [if_neg (by rw [same]; decide)]
  refine wpAny_bind (wpAny_pyIter_revIter hi ?_); refine wpAny_bind (wpAny_holding ?_)
  unfold Builtin.List.listLengthHint
  refine wpAny_bind (wpAny_specialOf ty nolen_lri ?_); show wpAny _ A.in1 (specialOf (Value.ref it) (Str.ofString "__length_hint__") >>= _) _ _ _
  refine wpAny_bind (wpAny_specialOf ty hint_lri ?_); generalize hq : ("list_reverseiterator.__length_hint__" : String) = q0
  wp_delta
  rw [show splitId q0 = some ("list_reverseiterator", "__length_hint__") from by subst hq; decide +kernel]; subst hq
  refine wpAny_bind (wpAny_isInstance (b := true) ty (by rw [isSubtype_type]; kernel_rfl) ?_); refine wpAny_pure ?_
  rw [if_neg (by decide)]
  have z0 : ((its.size : Nat) : Int) - 1 - ((0 : Nat) : Int) = (its.size : Int) - 1 := by omega
  refine wpAny_pure ⟨plainId_quiet F.plain_extend_loop _, codeAny_extend_loopS W sz _ nin _ its.size 0 _ _ _ rfl (Nat.zero_le _) ⟨Nat.zero_le _, by rw [z0]; exact hi, hl⟩ hS (ItemsOf.nil _) fun s' acc' c' hm hS' hacc => ?_⟩
  rw [Moved.eq_with hm]
  refine hR s'.heap s'.toks acc' c' (fun b o b1 b2 e => hm.heap b o (fun mem => ?_) e) hS' hacc
  rcases List.mem_cons.mp mem with q | mem
  · exact b1 q
  · exact b2 (List.mem_singleton.mp mem)
/-- list(a reversed walk) -/
theorem call_list_rev {it l : Addr} {its : Array Value} {Q : Value → Shared → Prop} (hh : A.handled = none) (hi : s.heap.IsRevIter it l ((its.size : Int) - 1)) (hl : s.heap.IsList l its) (n1 : l ≠ it) (sz : its.size ≤ sizeLine)
    (hQ : ∀ (h' : Heap) (tk : Nat) (acc : Array Value) (c' : Nat), (∀ b o, b ≠ it → s.heap.get? b = some o → h'.get? b = some o) → h'.get? s.heap.objs.size = some { cls := .type "list", dict := none, data := .seq acc c', slots := #[] } →
      ItemsOf (fun i v => its[its.size - 1 - i]? = some v) acc its.size → Q (.ref s.heap.objs.size) { s with heap := h', toks := tk }) :
    wpAny (model prog w) A (call (.type "list") [.ref it]) Q E s := by
  refine callType_codes (Q₁ := fun ob s₁ => ob = .ref s.heap.objs.size ∧ s₁ = { s with heap := s.heap.push { cls := .type "list", data := .seq #[] } }) PySem.F.called_list (PySem.F.typeCall_list_1 _) PySem.F.entry_list_init (code_list_new _ ⟨rfl, rfl⟩) fun ob s₁ h₁ => ?_
  obtain ⟨e1, e2⟩ := h₁; subst e1 e2
  have at0 : (s.heap.push { cls := .type "list", data := .seq #[] }).get? s.heap.objs.size = some { cls := .type "list", data := .seq #[] } := Heap.get?_push_size _ rfl
  obtain ⟨oi, hoi, _⟩ := id hi
  obtain ⟨ol, hol, _⟩ := id hl
  have m1 : s.heap.objs.size ≠ it := Nat.ne_of_gt (Heap.lt_size hoi)
  have m2 : s.heap.objs.size ≠ l := Nat.ne_of_gt (Heap.lt_size hol)
  refine ⟨⟨_, at0, rfl⟩, PySem.F.args_list_init_2 _ _, ?_⟩
  show wpAny _ _ (do let old ← Builtin.List.listItems (.ref s.heap.objs.size); Builtin.List.listUpdate (.ref s.heap.objs.size) (fun _ => #[]); letGo old.toList.reverse; Builtin.List.listExtendWith (.ref s.heap.objs.size) (.ref it) .none) _ _ _
  refine wpAny_bind ?_; unfold Builtin.List.listItems
  refine wpAny_bind (wpAny_seqItems at0 rfl (wpAny_pure ?_))
  show wpAny _ _ (updateSeq s.heap.objs.size (fun _ => #[]) >>= fun _ => letGo (#[] : Array Value).toList.reverse >>= fun _ => Builtin.List.listExtendWith (.ref s.heap.objs.size) (.ref it) .none) _ _ _
  refine wpAny_bind (wpAny_updateSeq at0 rfl ?_); have at1 := Heap.get?_update_self (Obj.mapSeq (fun _ => (#[] : Array Value))) at0 rfl
  have other : ∀ b o, b ≠ s.heap.objs.size → s.heap.get? b = some o → ((s.heap.push { cls := .type "list", data := .seq #[] }).update s.heap.objs.size (Obj.mapSeq (fun _ => (#[] : Array Value)))).get? b = some o := fun b o hb e => (Heap.get?_update_other _ _ (Ne.symm hb)).trans (Heap.get?_push_of_some _ e)
  refine wpAny_bind (wpAny_letGo ?_)
  refine revInto hh (hi.at fun o e => other it o (Ne.symm m1) e) ?_ n1 m1 m2 sz at1 fun h' tk acc c' hk hS' hacc => ⟨rfl, hQ h' tk acc c' (fun b o hb e => hk b o (Nat.ne_of_lt (Heap.lt_size e)) hb (other b o (Nat.ne_of_lt (Heap.lt_size e)) e)) hS' hacc⟩
  obtain ⟨o, ho, r⟩ := id hl
  exact ⟨o, other l o (Ne.symm m2) ho, r⟩
end
/-- list(reversed(x)), x a list -/
def tLstRev (K : PySem.W.Frag) (te : TE) : TE := fun σ H Q => te σ H fun v H1 => ∃ (a : Addr) (xs : List V), v = .ref a ∧ SqL K H1 a xs ∧ ∀ q, H1 q = none → Q (.ref q) (upd H1 q (.lst xs.reverse))
section
variable {X : Cx}
theorem pe_lstRev {e : Expr} {te : TE} {p p2 pos pos2 : Pos} (hc : X.calm = true) (hg : Gl X "list") (hm : X.mg "list" = none) (hg2 : Gl X "reversed") (hm2 : X.mg "reversed" = none) (he : PE X e te)
    (hs : starEach [e] X.env = (false, eval e X.env) :: starEach [] X.env)
    (hs2 : starEach [.Call (.Name "reversed" p2) [e] [] pos2] X.env = (false, eval (.Call (.Name "reversed" p2) [e] [] pos2) X.env) :: starEach [] X.env) :
    PE X (.Call (.Name "list" p) [.Call (.Name "reversed" p2) [e] [] pos2] [] pos) (tLstRev X.K te) := by
  refine ⟨fun pins s σ H Q I h => ?_⟩
  refine Call_ (ld_blt I hg hm boot_list (PyProof.Rows.callWith_type1 (args_cons (Call_ (ld_blt I hg2 hm2 PyProof.Rows.boot_reversed (PyProof.Rows.callWith_type1 (args_cons (thn (he.run pins s σ H _ I h) fun u s1 ⟨v, H1, I1, r1, q1⟩ => args_nil ?_) hs) hs rfl))) hs2) hs2 rfl))
  obtain ⟨a, xs, ev, hq, q⟩ := q1; subst ev
  obtain rfl : u = Value.ref a := r1
  obtain ⟨its, rv, p', hz⟩ := I1.list hq
  refine call_reversed_list p'.isList (args_nil ?_)
  have ks : ∀ b o, s1.heap.get? b = some o → (s1.heap.push (revObj a ((its.toArray.size : Int) - 1))).get? b = some o := fun b o e => Heap.get?_push_of_some _ e
  have hl := p'.isList
  obtain ⟨ol, hol, _⟩ := id hl
  have na : a ≠ s1.heap.objs.size := Nat.ne_of_lt (Heap.lt_size hol)
  have hn : its.toArray.size ≤ sizeLine := by rw [List.size_toArray, ← rv.length]; exact hz
  refine call_list_rev (s := { s1 with heap := s1.heap.push (revObj a ((its.toArray.size : Int) - 1)) }) (I1.ok.hd hc) ⟨_, Heap.get?_push_size _ rfl, rfl, rfl⟩ (hl.push _) na hn fun h' tk acc c' hk hS hi => ?_
  have sz1 : (s1.heap.push (revObj a ((its.toArray.size : Int) - 1))).objs.size = s1.heap.objs.size + 1 := by simp [Heap.push]
  have le1 : s1.heap.objs.size ≤ (s1.heap.push (revObj a ((its.toArray.size : Int) - 1))).objs.size := by rw [sz1]; exact Nat.le_succ _
  have kk : ∀ b o, s1.heap.get? b = some o → h'.get? b = some o := fun b o e => hk b o (Nat.ne_of_lt (Heap.lt_size e)) (ks b o e)
  refine ⟨.ref (s1.heap.push (revObj a ((its.toArray.size : Int) - 1))).objs.size, upd H1 (s1.heap.push (revObj a ((its.toArray.size : Int) - 1))).objs.size (.lst xs.reverse), I1.laid (t' := tk) kk le1 (show ObjOk X.prog X.w _ _ _ (.lst xs.reverse) from ⟨by rw [List.length_reverse]; exact hz, acc.toList, c', vals_rev rv hi, ?_⟩), rfl, q _ (I1.hok.fresh le1)⟩
  rw [Array.toArray_toList]; exact hS
end
end L3
/-! L3P: the operations by their texts -/
namespace L3
open PySem L2 PySem.Spec PyProof.Rows
section
variable {Γ : Gam} {G : Nm} {tb : Tb} {F : Calls} {K : Ct} {W : WX} {n m : Nat} {X : Cx} {σ : L2.St} {ad ad1 : List Addr} {H H1 : Hp} {st : St} {ρ : Env}
theorem boot_p1 {f : P1} {s : String} {ty : Bool} (h : p1name f = some (s, ty)) : bootBuiltins (Str.ofString s) = some (if ty then .type s else .builtin s) := by
  cases f <;> simp only [p1name, Option.some.injEq, Prod.mk.injEq, reduceCtorEq] at h <;> (obtain ⟨rfl, rfl⟩ := h) <;> decide +kernel
theorem p1b_pe (c : CxOk Γ G W n X) {f : P1} {s : String} {ty : Bool} {x : Str} {a : Expr} {p pos : Pos} {da : Env → St → Out R} (h : p1name f = some (s, ty)) (hx : isB G X.env.scope x s = true) (ha : PE X a (tG Γ K W (vR Γ) da)) (sa : shapeOk a = true) :
    PE X (.Call (.Name x p) [a] [] pos) (tG Γ K W (vR Γ) fun ρ st => (da ρ st).bind fun x st => ev1 f K x st) := by
  obtain ⟨rfl, h1, h2, h3, h4⟩ := isB_of hx
  obtain ⟨r, hr, hq⟩ := p1_ok (K := K) c f h
  have pa := pa_cons ha pa_nil (shape_one sa)
  have key : ∀ σ H Q, tG Γ K W (vR Γ) (fun ρ st => (da ρ st).bind fun x st => ev1 f K x st) σ H Q → tCB r (tCons (tG Γ K W (vR Γ) da) tNil) σ H Q := fun σ H Q ⟨ad, st, ρ, now, env, g⟩ =>
    stage (val' := vR Γ) now env g fun ad1 st1 x v H1 s1 n1 e1 r1 g1 => hq n1 r1.1 g1
  cases ty with
  | true => exact PE.weak (pe_callTy hr h1 (c.blt _ h4) (boot_p1 h) pa h3 h2 (shape_one sa) rfl) key
  | false => exact PE.weak (pe_callB hr h1 (c.blt _ h4) (boot_p1 h) pa h3 h2 (shape_one sa) rfl) key
/-- what isinstance tells -/
def isiTell (f : P1) (k : String) : Bool :=
  match f with
  | .isTup => k == "tuple" | .isInt => k == "int" || k == "bool" | .isBool => k == "bool" | .isStr => k == "str" | .isLst => k == "list"
  | _ => false
theorem isi_ev {f : P1} {s : String} (h : p1isi f = some s) (x : R) (st : St) : ev1 f K x st = match x.kind st with | some k => okR (.bl (isiTell f k)) st | none => .bad := by
  cases f <;> simp only [p1isi, Option.some.injEq, reduceCtorEq] at h <;> rfl
theorem kind_one {r : R} {st : St} {k : String} (h : r.kind st = some k) : k ∈ ["list", "tuple", "dict", "NoneType", "bool", "int", "str"] := by
  cases r with
  | fl xs => simp only [R.kind, Option.some.injEq] at h; subst h; simp
  | fd t kvs => simp only [R.kind, Option.some.injEq] at h; subst h; simp
  | kt xs => simp only [R.kind, Option.some.injEq] at h; subst h; simp
  | d y =>
    cases y <;> simp only [R.kind, Option.some.injEq] at h
    case ref j => split at h <;> first | (simp only [Option.some.injEq] at h; subst h; simp) | cases h
    all_goals (subst h; simp)
theorem kit_all {f : P1} {s : String} (h : p1isi f = some s) : ∀ k ∈ ["list", "tuple", "dict", "NoneType", "bool", "int", "str"], ∀ Kf : PySem.W.Frag, PySem.W.kitOne Kf (.type k) (.type s) = some (isiTell f k) := by
  cases f <;> simp only [p1isi, Option.some.injEq, reduceCtorEq] at h <;> subst h <;> intro k hk Kf <;> simp only [List.mem_cons, List.not_mem_nil, or_false] at hk <;>
    rcases hk with rfl | rfl | rfl | rfl | rfl | rfl | rfl <;> first | exact kit_ty (by decide +kernel) | rfl
theorem boot_isi {f : P1} {s : String} (h : p1isi f = some s) : bootBuiltins (Str.ofString s) = some (.type s) := by
  cases f <;> simp only [p1isi, Option.some.injEq, reduceCtorEq] at h <;> subst h <;> decide +kernel
theorem isi_pe (c : CxOk Γ G W n X) {f : P1} {s : String} {x y : Str} {a : Expr} {p p2 pos : Pos} {da : Env → St → Out R} (h : p1isi f = some s) (hx : isB G X.env.scope x "isinstance" = true) (hy : isB G X.env.scope y s = true) (ha : PE X a (tG Γ K W (vR Γ) da)) (sa : shapeOk a = true) :
    PE X (.Call (.Name x p) [a, .Name y p2] [] pos) (tG Γ K W (vR Γ) fun ρ st => (da ρ st).bind fun x st => ev1 f K x st) := by
  obtain ⟨rfl, h1, h2, h3, h4⟩ := isB_of hx
  obtain ⟨rfl, k1, k2, k3, k4⟩ := isB_of hy
  have pn : PE X (.Name (Str.ofString s) p2) (tC (.ty s)) := pe_bltn k1 (c.blt _ k4) (boot_isi h) rfl k3 k2
  refine PE.weak (pe_callB call_isi h1 (c.blt _ h4) (by decide +kernel) (pa_cons ha (pa_cons pn pa_nil rfl) (star1 (shape_star sa))) h3 h2 (star1 (shape_star sa)) rfl) fun σ H Q ⟨ad, st, ρ, now, env, g⟩ => ?_
  refine stage (val' := vR Γ) now env g fun ad1 st1 r v H1 s1 n1 e1 r1 g1 => ?_
  rw [isi_ev h] at g1
  split at g1
  · rename_i k hk
    obtain ⟨_, ty, _⟩ := kinds_ok n1 r1.1 hk
    rw [c.K]
    exact ⟨v, .ty s, .type k, .type s, _, rfl, .ty s, ty, kit_all h k (kind_one hk) _, Good.d g1 n1 d_bl⟩
  · exact g1.elim
theorem pop_pe (c : CxOk Γ G W n X) {o : Expr} {apos cpos : Pos} {da : Env → St → Out R} (ho : PE X o (tG Γ K W (vR Γ) da)) (so : shapeOk o = true) (hl : (apos.endLine == cpos.line) = true) :
    PE X (.Call (.Attribute o "pop" apos) [] [] cpos) (tG Γ K W (vR Γ) fun ρ st => (da ρ st).bind fun x st => ev1 .pop K x st) := by
  refine PE.weak (pe_bm0 PySem.F.plainAttrs_list PySem.F.slot_list_pop PySem.F.type_list_pop mt_pop ho (shape_base so) hl) fun σ H Q ⟨ad, st, ρ, now, env, g⟩ => ?_
  refine stage (val' := vR Γ) now env g fun ad1 st1 r v H1 s1 n1 e1 r1 g1 => ?_
  simp only [ev1] at g1
  split at g1
  · rename_i k
    obtain ⟨a, h1, rfl⟩ := rel_refK r1.1 rfl
    split at g1
    · rename_i xs q
      split at g1
      · rename_i d hd
        simp only [setCell, Bool.true_and] at g1
        split at g1
        · rename_i hm
          have hk : k ∉ K.lk := by simpa using hm
          obtain ⟨vs, z1, z2⟩ := lst_cell n1 h1 q hk
          obtain ⟨u, hu, hr⟩ := z2.get hd
          obtain ⟨s2, n2⟩ := n1.putL h1 z1 hk z2.dropLast fun b hb hlt => unders_mem.mpr fun y hy => unders_mem.mp (base_lst n1 hb q hlt) y ((List.dropLast_subset _ hy))
          refine ⟨.inl ⟨rfl, vs, SqL.of z1⟩, a, vs, u, rfl, rfl, z1, by rw [← z2.length]; exact hu, ?_⟩
          exact g1 _ _ _ s2 n2 (vd (Rel.mv s2.mv hr))
        · exact g1.elim
      · exact g1.elim
    · exact g1.elim
  · exact g1.elim

theorem none_tell {r : R} {v : V} (h : RR Γ ad H r v) : decide (v = V.non) = r.isNon := by
  cases r with
  | fl xs => obtain ⟨a, vs, rfl, _⟩ := h; rfl
  | kt xs => obtain ⟨a, vs, rfl, _⟩ := h; rfl
  | fd t kvs => cases t <;> (obtain ⟨a, vs, rfl, _⟩ := h; rfl)
  | d y =>
    cases y <;> simp only [RR, Rel] at h
    · subst h; rfl
    · subst h; rfl
    · subst h; rfl
    · subst h; rfl
    · obtain ⟨a, vs, rfl, _⟩ := h; rfl
    · obtain ⟨a, _, rfl⟩ := h; rfl
    · obtain ⟨a, vs, rfl, _⟩ := h; rfl
    · obtain ⟨a, vs, rfl, _⟩ := h; rfl
/-- an operation of one operand, by its text -/
theorem p1_snd (c : CxOk Γ G W n X) {f : P1} {a : E} {x : Expr} (hs : shapeOk x = true) {k : Expr → Bool} (hk : ∀ y, k y = true → Snd Γ tb F K W X a y ∧ shapeOk y = true) (h : chkP1 G X.env.scope f k x = true) : Snd Γ tb F K W X (.p1 f a) x := by
  have de : ∀ K, denT F tb K (.p1 f a) = dTruth (denE F tb K (.p1 f a)) := fun K => by funext ρ st; simp only [denT, dTruth]
  have dd : denE F tb K (.p1 f a) = fun ρ st => (denE F tb K a ρ st).bind fun x st => ev1 f K x st := by funext ρ st; simp only [denE]
  unfold chkP1 at h
  split at h
  · rename_i y p
    simp only [Bool.and_eq_true, decide_eq_true_eq] at h
    obtain ⟨rfl, h⟩ := h
    obtain ⟨hy, sy⟩ := hk _ h
    refine Snd.plain c ?_ rfl de
    rw [dd]
    refine PE.weak (pe_un un_neg hy.pe) fun σ H Q ⟨ad, st, ρ, now, env, g⟩ => ?_
    refine stage (val' := vR Γ) now env g fun ad1 st1 r v H1 s1 n1 e1 r1 g1 => ?_
    simp only [ev1] at g1
    split at g1
    · cases rel_int r1.1
      exact ⟨_, rfl, Good.d g1 n1 d_int⟩
    · exact g1.elim
  · rename_i y k1 p1 p2
    simp only [Bool.and_eq_true, decide_eq_true_eq] at h
    obtain ⟨rfl, h⟩ := h
    obtain ⟨hy, sy⟩ := hk _ h
    have key : ∀ σ H Q, tG Γ K W (vR Γ) (denE F tb K (.p1 .isNone a)) σ H Q → tIsN (tG Γ K W (vR Γ) (denE F tb K a)) σ H Q := fun σ H Q ⟨ad, st, ρ, now, env, g⟩ => by
      rw [dd] at g
      refine stage (val' := vR Γ) now env g fun ad1 st1 r v H1 s1 n1 e1 r1 g1 => ?_
      simp only [ev1] at g1
      rw [none_tell r1.1]
      exact Good.d g1 n1 d_bl
    refine ⟨PE.weak (pe_cmp (pc_isN hy.pe)) key, ?_, fun z => by cases z⟩
    rw [de]
    exact pt_bool (pt_cmp (pc_isN hy.pe)) key fun ρ st r st' e => by
      rw [dd] at e
      simp only [ev1] at e
      cases q : denE F tb K a ρ st <;> rw [q] at e <;> simp only [Out.bind, okR, Out.ok.injEq, reduceCtorEq] at e
      exact ⟨_, e.1.symm⟩
  · rename_i y k1 p1 p2
    simp only [Bool.and_eq_true, decide_eq_true_eq] at h
    obtain ⟨rfl, h⟩ := h
    obtain ⟨hy, sy⟩ := hk _ h
    have key : ∀ σ H Q, tG Γ K W (vR Γ) (denE F tb K (.p1 .notNone a)) σ H Q → tNotN (tG Γ K W (vR Γ) (denE F tb K a)) σ H Q := fun σ H Q ⟨ad, st, ρ, now, env, g⟩ => by
      rw [dd] at g
      refine stage (val' := vR Γ) now env g fun ad1 st1 r v H1 s1 n1 e1 r1 g1 => ?_
      simp only [ev1] at g1
      rw [none_tell r1.1]
      exact Good.d g1 n1 d_bl
    refine ⟨PE.weak (pe_cmp (pc_notN hy.pe)) key, ?_, fun z => by cases z⟩
    rw [de]
    exact pt_bool (pt_cmp (pc_notN hy.pe)) key fun ρ st r st' e => by
      rw [dd] at e
      simp only [ev1] at e
      cases q : denE F tb K a ρ st <;> rw [q] at e <;> simp only [Out.bind, okR, Out.ok.injEq, reduceCtorEq] at e
      exact ⟨_, e.1.symm⟩
  · rename_i y b k1 p1 p2
    simp only [Bool.and_eq_true, decide_eq_true_eq] at h
    obtain ⟨ef, h⟩ := h
    obtain ⟨hy, sy⟩ := hk _ h
    have ev : ∀ (r : R) (st : St), ev1 f K r st = match r with | .d (.bl a) => okR (.bl (decide (a = b))) st | _ => .bad := fun r st => by
      subst ef; cases b <;> simp only [Bool.false_eq_true, if_false, if_true, ev1] <;> rfl
    have key : ∀ σ H Q, tG Γ K W (vR Γ) (denE F tb K (.p1 f a)) σ H Q → tOp rIsB (tG Γ K W (vR Γ) (denE F tb K a)) (tC (.bl b)) σ H Q := fun σ H Q ⟨ad, st, ρ, now, env, g⟩ => by
      rw [dd] at g
      refine stage (val' := vR Γ) now env g fun ad1 st1 r v H1 s1 n1 e1 r1 g1 => ?_
      rw [ev] at g1
      split at g1
      · rename_i k
        exact ⟨k, b, rel_bl r1.1, rfl, Good.d g1 n1 d_bl⟩
      · exact g1.elim
    refine ⟨PE.weak (pe_cmpR op_isBl hy.pe pe_bl rfl) key, ?_, fun z => by cases z⟩
    rw [de]
    exact pt_bool (pt_cmpR op_isBl hy.pe pe_bl rfl) key fun ρ st r st' e => by
      rw [dd] at e
      simp only [ev] at e
      cases q : denE F tb K a ρ st <;> rw [q] at e <;> simp only [Out.bind, reduceCtorEq] at e
      split at e
      · simp only [okR, Out.ok.injEq] at e; exact ⟨_, e.1.symm⟩
      · cases e
  · split at h
    · rename_i e1
      simp only [Bool.and_eq_true] at h
      obtain ⟨hy, sy⟩ := hk _ h.2
      refine Snd.plain c ?_ rfl de
      rw [dd]
      exact p1b_pe c e1 h.1 hy.pe sy
    · simp only [Bool.and_eq_true, decide_eq_true_eq] at h
      obtain ⟨⟨rfl, h1⟩, h⟩ := h
      split at h
      · simp only [Bool.and_eq_true] at h
        obtain ⟨hy, sy⟩ := hk _ h.2
        obtain ⟨rfl, k1, k2, k3, k4⟩ := isB_of h1
        obtain ⟨rfl, m1, m2, m3, m4⟩ := isB_of h.1
        refine Snd.plain c ?_ rfl de
        rw [dd]
        refine PE.weak (pe_lstRev c.calm k1 (c.blt _ k4) m1 (c.blt _ m4) hy.pe (shape_one sy) rfl) fun σ H Q ⟨ad, st, ρ, now, env, g⟩ => ?_
        refine stage (val' := vR Γ) now env g fun ad1 st1 r v H1 s1 n1 e1 r1 g1 => ?_
        simp only [ev1] at g1
        split at g1
        · rename_i xs hx
          obtain ⟨a, vs, rfl, h2, h3⟩ := lst_ok n1 r1.1 hx
          rw [c.K]
          exact ⟨a, vs, rfl, h2, fun q hq => Good.new g1 n1 hq (rr_new n1 hq h3.reverse)⟩
        · exact g1.elim
      · cases h
  · split at h
    · rename_i e1
      simp only [Bool.and_eq_true] at h
      obtain ⟨hy, sy⟩ := hk _ h.2
      refine Snd.plain c ?_ rfl de
      rw [dd]
      exact isi_pe c e1 h.1.1 h.1.2 hy.pe sy
    · cases h
  · simp only [Bool.and_eq_true, decide_eq_true_eq] at h
    obtain ⟨⟨⟨rfl, rfl⟩, hl⟩, h⟩ := h
    obtain ⟨hy, sy⟩ := hk _ h
    refine Snd.plain c ?_ rfl de
    rw [dd]
    exact pop_pe c hy.pe sy hl
  · cases h
end
end L3
/-! L3Q: two and three operands; the whole of expressions -/
namespace L3
open PySem L2 PySem.Spec PyProof.Rows
section
variable {Γ : Gam} {G : Nm} {tb : Tb} {F : Calls} {K : Ct} {W : WX} {n m : Nat} {X : Cx} {σ : L2.St} {ad ad1 : List Addr} {H H1 : Hp} {st : St} {ρ : Env}
theorem cmp_bool {f : P2} {op : CmpOp} (e : p2cmp f = some op) {x y : R} {st st' : St} {r : R} (h : ev2 f K x y st = .ok r st') : ∃ b, r = .d (.bl b) := by
  have ok : ∀ {o : Out R}, (∀ r st', o = .ok r st' → ∃ b, r = .d (.bl b)) → o = .ok r st' → ∃ b, r = .d (.bl b) := fun q e => q _ _ e
  cases f <;> simp only [p2cmp, Option.some.injEq, reduceCtorEq] at e <;> simp only [ev2] at h <;>
    (repeat' split at h) <;> first | (simp only [okR, Out.ok.injEq] at h; exact ⟨_, h.1.symm⟩) | cases h
theorem findIdx_first {ys : List Str} {z : Str} {j : Nat} (h : ys.findIdx? (fun w => decide (w = z)) = some j) : ys[j]? = some z ∧ ∀ m, m < j → ys[m]? ≠ some z := by
  obtain ⟨h1, h2, h3⟩ := List.findIdx?_eq_some_iff_getElem.mp h
  refine ⟨by rw [List.getElem?_eq_getElem h1]; simpa using h2, fun m hm e => ?_⟩
  have := h3 m hm
  rw [List.getElem?_eq_getElem (by omega)] at e
  simp at this e
  exact this e
theorem tindex_pe (c : CxOk Γ G W n X) {o e : Expr} {apos cpos : Pos} {da db : Env → St → Out R} (ho : PE X o (tG Γ K W (vR Γ) da)) (he : PE X e (tG Γ K W (vR Γ) db)) (so : shapeOk o = true) (se : shapeOk e = true) (hl : (apos.endLine == cpos.line) = true) :
    PE X (.Call (.Attribute o "index" apos) [e] [] cpos) (tG Γ K W (vR Γ) fun ρ st => (da ρ st).bind fun x st => if pre2 .tindex x st then (db ρ st).bind fun y st => ev2 .tindex K x y st else .bad) := by
  refine PE.weak (pe_bm PySem.F.plainAttrs_tuple PySem.F.slot_tuple_index PySem.F.type_tuple_index mt_tup_index ho (pa_cons he pa_nil (shape_one se)) (shape_base so) (by rw [shape_one se]; rfl) hl (shape_one se) rfl) fun σ H Q ⟨ad, st, ρ, now, env, g⟩ => ?_
  refine two (P := fun v H => tyV X.K "tuple" v H) (T := fun v w H => ∃ p, ∃ ys : List Str, ∃ z j, v = .ref p ∧ [w] = [.str z] ∧ SqT X.K H p (ys.map V.str) ∧ ys[j]? = some z ∧ (∀ m, m < j → ys[m]? ≠ some z) ∧ Q (.int (j : Nat)) H) now env g (fun {ad st H x v} n h e => ?_) fun {ad st H x y v w} n h h' g => ?_
  · rw [c.K]
    simp only [pre2] at e
    split at e
    · obtain ⟨a, vs, rfl, ⟨_, o, h1, h2, h3⟩, _⟩ := h
      exact .inr (.inl ⟨rfl, o, h1, h2, h3⟩)
    · cases e
  · simp only [ev2] at g
    split at g
    · rename_i xs z q
      split at g
      · rename_i ys q2
        split at g
        · rename_i j hj
          obtain ⟨f1, f2⟩ := findIdx_first hj
          rw [c.K]
          have key : ∃ a vs, v = .ref a ∧ SqT Γ.K H a vs ∧ Rels Γ.K ad H xs vs := by
            cases x with
            | kt zs => simp only [R.tup?, Option.some.injEq] at q; subst q; obtain ⟨a, vs, rfl, h2, h4⟩ := h; exact ⟨a, vs, rfl, h2.sq, h4⟩
            | d y =>
              cases y <;> simp only [R.tup?, reduceCtorEq, Option.some.injEq] at q
              all_goals subst q
              all_goals simp only [RR, Rel] at h
              all_goals obtain ⟨a, vs, rfl, h2, h4⟩ := h
              · exact ⟨a, vs, rfl, SqT.of h2, h4⟩
              · exact ⟨a, vs, rfl, h2.sq, h4⟩
            | fl _ => simp [R.tup?] at q
            | fd _ _ => simp [R.tup?] at q
          obtain ⟨a, vs, rfl, h1, h2⟩ := key
          rw [rels_strs h2 q2] at h1
          cases rel_str h'
          exact ⟨a, ys, z, j, rfl, rfl, h1, f1, f2, Good.d g n d_int⟩
        · exact g.elim
      · exact g.elim
    · exact g.elim
/-- max(ints, default=int) -/
theorem cr_maxD (hc : X.calm = true) (hu : X.A.units + 64 < cLine) : CallRK X (.builtin "max") [Str.ofString "default"] (fun xs zs H Q => ∃ (a : Addr) (ns : List Int) (j : Int), xs = [.ref a] ∧ zs = [.int j] ∧ SqL X.K H a (ns.map V.int) ∧ Q (.int ((ns.max? : Option Int).getD j)) H) := by
  intro pins s σ H xs zs us ws Q I r1 r2 ⟨a, ns, j, e1, e2, hq, q⟩
  subst e1 e2
  obtain rfl := Vals.ref1 r1
  obtain ⟨u, rfl, t, rfl⟩ := vals1 r2
  obtain ⟨its, rv, pl, hz⟩ := I.list hq
  have hall : PySem.W.HoldAll s.heap its.toArray.toList ns := PySem.W.HoldAll.of_ints (by simpa using rv.ints)
  refine PySem.W.max_list_datum_default (xs := ns) (I.ok.hd hc) pl.isList hall (by show X.A.units + 1 + 0 < _; omega) (fun e h' tk hk => ?_) fun y ys i v h' tk e hi hv hk => ?_
  · subst e
    exact ⟨.int j, H, I.kept (t' := tk) hk, ⟨_, rfl⟩, q⟩
  · subst e
    obtain ⟨as, hv⟩ := hv
    have hm : (y :: ys).max? = some (PySem.W.maxOf y ys) := by
      rw [List.max?_cons']
      congr 1
      unfold PySem.W.maxOf
      congr 1
      funext a b
      show max a b = if decide (a < b) = true then b else a
      by_cases z : a < b
      · simp [z]; omega
      · simp [z]; omega
    rw [hm] at q
    cases hv
    exact ⟨.int _, H, I.kept (t' := tk) hk, ⟨_, rfl⟩, q⟩
theorem p2_snd (c : CxOk Γ G W n X) {f : P2} {a b : E} {x : Expr} (hs : shapeOk x = true) {ka kb : Expr → Bool} (ha : ∀ y, ka y = true → Snd Γ tb F K W X a y ∧ shapeOk y = true) (hb : ∀ y, kb y = true → Snd Γ tb F K W X b y ∧ shapeOk y = true)
    (h : chkP2 G X.env.scope f ka kb x = true) : Snd Γ tb F K W X (.p2 f a b) x := by
  have de : ∀ K, denT F tb K (.p2 f a b) = dTruth (denE F tb K (.p2 f a b)) := fun K => by funext ρ st; simp only [denT, dTruth]
  have dd : denE F tb K (.p2 f a b) = fun ρ st => (denE F tb K a ρ st).bind fun x st => if pre2 f x st then (denE F tb K b ρ st).bind fun y st => ev2 f K x y st else .bad := by funext ρ st; simp only [denE]
  have nopre : (∀ x st, pre2 f x st = true) → denE F tb K (.p2 f a b) = fun ρ st => (denE F tb K a ρ st).bind fun x st => (denE F tb K b ρ st).bind fun y st => ev2 f K x y st := fun q => by
    rw [dd]; funext ρ st
    simp only [q, if_true]
  unfold chkP2 at h
  split at h
  · rename_i y op z pos
    simp only [Bool.and_eq_true, decide_eq_true_eq] at h
    obtain ⟨⟨e, h1⟩, h2⟩ := h
    obtain ⟨sa, _⟩ := ha _ h1
    obtain ⟨sb, _⟩ := hb _ h2
    obtain ⟨r, hr, hq⟩ := op_ok (K := K) c f e
    have np : ∀ x st, pre2 f x st = true := by cases f <;> simp only [p2op, reduceCtorEq] at e <;> intro _ _ <;> rfl
    refine Snd.plain c ?_ rfl de
    rw [nopre np]
    exact PE.weak (pe_op hr sa.pe sb.pe) fun σ H Q ⟨ad, st, ρ, now, env, g⟩ => two' now env g fun n1 r1 r2 g1 => hq n1 r1 r2 g1
  · rename_i y op z pos
    simp only [Bool.and_eq_true, decide_eq_true_eq] at h
    obtain ⟨⟨e, h1⟩, h2⟩ := h
    obtain ⟨sa, _⟩ := ha _ h1
    obtain ⟨sb, sz⟩ := hb _ h2
    obtain ⟨r, hr, hq⟩ := cmp_ok (K := K) c f e
    have np : ∀ x st, pre2 f x st = true := by cases f <;> simp only [p2cmp, reduceCtorEq] at e <;> intro _ _ <;> rfl
    have key : ∀ σ H Q, tG Γ K W (vR Γ) (denE F tb K (.p2 f a b)) σ H Q → tOp r (tG Γ K W (vR Γ) (denE F tb K a)) (tG Γ K W (vR Γ) (denE F tb K b)) σ H Q := by
      rw [nopre np]
      exact fun σ H Q ⟨ad, st, ρ, now, env, g⟩ => two' now env g fun n1 r1 r2 g1 => hq n1 r1 r2 g1
    refine ⟨PE.weak (pe_cmpR hr sa.pe sb.pe (shape_marks sz)) key, ?_, fun z => by cases z⟩
    rw [de]
    refine pt_bool (pt_cmpR hr sa.pe sb.pe (shape_marks sz)) key fun ρ st r st' e' => ?_
    rw [nopre np] at e'
    simp only at e'
    cases q : denE F tb K a ρ st <;> rw [q] at e' <;> simp only [Out.bind, reduceCtorEq] at e'
    rename_i x st1
    cases q2 : denE F tb K b ρ st1 <;> rw [q2] at e' <;> simp only [Out.bind, reduceCtorEq] at e'
    exact cmp_bool e e'
  · rename_i y i pos
    simp only [Bool.and_eq_true, decide_eq_true_eq] at h
    obtain ⟨⟨rfl, h1⟩, h2⟩ := h
    obtain ⟨sa, _⟩ := ha _ h1
    obtain ⟨sb, sz⟩ := hb _ h2
    obtain ⟨r, hr, hq⟩ := item_ok (K := K) c
    refine Snd.plain c ?_ rfl de
    rw [nopre fun _ _ => rfl]
    exact PE.weak (pe_ix hr sa.pe sb.pe (shape_ix sz)) fun σ H Q ⟨ad, st, ρ, now, env, g⟩ => two' now env g fun n1 r1 r2 g1 => hq n1 r1 r2 g1
  · rename_i o mt apos y cpos
    split at h
    · rename_i s e
      simp only [Bool.and_eq_true, decide_eq_true_eq] at h
      obtain ⟨⟨⟨rfl, hl⟩, h1⟩, h2⟩ := h
      obtain ⟨sa, so⟩ := ha _ h1
      obtain ⟨sb, sz⟩ := hb _ h2
      refine Snd.plain c ?_ rfl de
      rw [dd]
      cases f <;> simp only [p2meth, Option.some.injEq, reduceCtorEq] at e <;> subst e
      · exact append_pe c sa.pe sb.pe so sz hl
      · exact popAt_pe c sa.pe sb.pe so sz hl
      · exact get1_pe c sa.pe sb.pe so sz hl
      · exact index_pe c sa.pe sb.pe so sz hl
      · exact join_pe c sa.pe sb.pe so sz hl
      · exact tindex_pe c sa.pe sb.pe so sz hl
    · cases h
  · rename_i y p z nm w kpos pos
    simp only [Bool.and_eq_true, decide_eq_true_eq] at h
    obtain ⟨⟨⟨⟨rfl, rfl⟩, h0⟩, h1⟩, h2⟩ := h
    obtain ⟨sa, so⟩ := ha _ h1
    obtain ⟨sb, sz⟩ := hb _ h2
    refine Snd.plain c ?_ rfl de
    obtain ⟨rfl, g1, g2, g3, g4⟩ := isB_of h0
    rw [nopre fun _ _ => rfl]
    refine PE.weak (pe_callBK (cr_maxD c.calm c.units) g1 (c.blt _ g4) (by decide +kernel) (pa_cons sa.pe pa_nil (shape_one so)) (pk_cons (nm := some (Str.ofString "default")) (kpos := kpos) sb.pe pk_nil) g3 g2 (by rw [shape_one so]; rfl) (by rw [shape_one so]; rfl) rfl rfl rfl) fun σ H Q ⟨ad, st, ρ, now, env, g⟩ => ?_
    refine two' now env g fun {ad st H x y v w} n1 r1 r2 g1 => ?_
    simp only [ev2] at g1
    split at g1
    · rename_i xs j q
      split at g1
      · rename_i ns q2
        obtain ⟨a, vs, rfl, k1, k2⟩ := lst_ok n1 r1 q
        rw [rels_ints k2 q2] at k1
        cases rel_int r2
        rw [c.K]
        exact ⟨a, ns, j, rfl, rfl, k1, Good.d g1 n1 d_int⟩
      · exact g1.elim
    · exact g1.elim
  · rename_i y p z w pos
    split at h
    · rename_i s e
      simp only [Bool.and_eq_true, decide_eq_true_eq] at h
      obtain ⟨⟨h0, h1⟩, h2⟩ := h
      obtain ⟨sa, so⟩ := ha _ h1
      obtain ⟨sb, sz⟩ := hb _ h2
      refine Snd.plain c ?_ rfl de
      obtain ⟨rfl, g1, g2, g3, g4⟩ := isB_of h0
      cases f <;> simp only [p2name, Option.some.injEq, reduceCtorEq] at e <;> subst e
      · rw [nopre fun _ _ => rfl]
        refine PE.weak (pe_callB (call_min2 c.calm) g1 (c.blt _ g4) (by decide +kernel) (pa_cons sa.pe (pa_cons sb.pe pa_nil (shape_one sz)) (star1 (shape_star so))) g3 g2 (star1 (shape_star so)) (star_any (by simp [shape_star sz]))) fun σ H Q ⟨ad, st, ρ, now, env, g⟩ => ?_
        refine two' now env g fun {ad st H x y v w} n1 r1 r2 g1 => ?_
        simp only [ev2] at g1
        split at g1
        · cases rel_int r1; cases rel_int r2
          exact ⟨_, _, rfl, Good.d g1 n1 d_int⟩
        · exact g1.elim
      · rw [nopre fun _ _ => rfl]
        refine PE.weak (pe_callB (call_max2 c.calm) g1 (c.blt _ g4) (by decide +kernel) (pa_cons sa.pe (pa_cons sb.pe pa_nil (shape_one sz)) (star1 (shape_star so))) g3 g2 (star1 (shape_star so)) (star_any (by simp [shape_star sz]))) fun σ H Q ⟨ad, st, ρ, now, env, g⟩ => ?_
        refine two' now env g fun {ad st H x y v w} n1 r1 r2 g1 => ?_
        simp only [ev2] at g1
        split at g1
        · cases rel_int r1; cases rel_int r2
          exact ⟨_, _, rfl, Good.d g1 n1 d_int⟩
        · exact g1.elim
    · cases h
  · cases h
/-- three operands, from the state behind the receiver -/
theorem threeS {da db dc : Env → St → Out R} {pre : R → St → Bool} {ev : R → R → R → St → Out R} {T : V → V → V → Hp → Prop} {P : V → Hp → Prop} {Q : V → Hp → Prop} (now : Now Γ K ad st H) (env : EnvR Γ ad H ρ σ)
    (g : Good Γ K W σ ad H (vR Γ) ((da ρ st).bind fun x st => if pre x st then (db ρ st).bind fun y st => (dc ρ st).bind fun z st => ev x y z st else .bad) Q)
    (hp : ∀ {ad st H x v}, Now Γ K ad st H → RR Γ ad H x v → pre x st = true → P v H)
    (fin : ∀ {ad0 H0 ad st H x y z v w u}, Step ad0 H0 ad H → Now Γ K ad st H → RR Γ ad H x v → RR Γ ad H y w → (vR Γ).p H0 ad H z u → Good Γ K W σ ad0 H0 (vR Γ) (ev x y z st) Q → T v w u H) :
    tG Γ K W (vR Γ) da σ H (fun v H1 => P v H1 ∧ tG Γ K W (vR Γ) db σ H1 (fun w H2 => tG Γ K W (vR Γ) dc σ H2 (fun u H3 => T v w u H3))) := by
  refine stage now env g fun ad1 st1 x v H1 s1 n1 e1 r1 g1 => ?_
  split at g1
  · rename_i hpre
    refine ⟨hp n1 r1.1 hpre, ?_⟩
    refine stage n1 e1 g1 fun ad2 st2 y w H2 s2 n2 e2 r2 g2 => ?_
    refine ⟨ad2, st2, ρ, n2, e2, ?_⟩
    cases q : dc ρ st2 with
    | ok z st3 =>
      rw [q] at g2
      intro ad' H' u s' n' p
      exact fin s' n' ((r1.1.step s2).step s') (r2.1.step s') p g2
    | err x st' => rw [q] at g2; exact g2
    | bad => rw [q] at g2; exact g2
  · exact g1.elim
theorem p3_snd (c : CxOk Γ G W n X) {f : P3} {a b d : E} {x : Expr} (hs : shapeOk x = true) {ka kb kc : Expr → Bool} (ha : ∀ y, ka y = true → Snd Γ tb F K W X a y ∧ shapeOk y = true) (hb : ∀ y, kb y = true → Snd Γ tb F K W X b y ∧ shapeOk y = true)
    (hc : ∀ y, kc y = true → Snd Γ tb F K W X d y ∧ shapeOk y = true) (h : chkP3 G X.env.scope f ka kb kc x = true) : Snd Γ tb F K W X (.p3 f a b d) x := by
  have de : ∀ K, denT F tb K (.p3 f a b d) = dTruth (denE F tb K (.p3 f a b d)) := fun K => by funext ρ st; simp only [denT, dTruth]
  have dd : denE F tb K (.p3 f a b d) = fun ρ st => (denE F tb K a ρ st).bind fun x st => if pre3 f x st then (denE F tb K b ρ st).bind fun y st => (denE F tb K d ρ st).bind fun z st => ev3 f K x y z st else .bad := by funext ρ st; simp only [denE]
  unfold chkP3 at h
  split at h
  · rename_i o mt apos y z cpos
    split at h
    · rename_i s e
      simp only [Bool.and_eq_true, decide_eq_true_eq] at h
      obtain ⟨⟨⟨⟨rfl, hl⟩, h1⟩, h2⟩, h3⟩ := h
      obtain ⟨sa, so⟩ := ha _ h1
      obtain ⟨sb, sy⟩ := hb _ h2
      obtain ⟨sc, sz⟩ := hc _ h3
      refine Snd.plain c ?_ rfl de
      rw [dd]
      cases f <;> simp only [p3meth, Option.some.injEq, reduceCtorEq] at e <;> subst e
      · refine PE.weak (pe_dget2 c.hu sa.pe sb.pe sc.pe (shape_m2 so sy sz hl)) fun σ H Q ⟨ad, st, ρ, now, env, g⟩ => ?_
        have := threeS (P := fun v H => ∃ a, v = .ref a ∧ IsD H a) (T := fun v w u H => ∃ a o, v = .ref a ∧ DGet H a w o ∧ Q (o.getD u) H) now env g (fun {ad st H x v} n h e => ?_) fun {ad0 H0 ad st H x y z v w u} s n h h' h'' g => ?_
        · obtain ⟨ad', st', ρ', n', e', g'⟩ := this
          refine ⟨ad', st', ρ', n', e', g'.imp fun v H1 ⟨⟨a, ha, hd⟩, ad2, st2, ρ2, n2, e2, g2⟩ => ⟨a, ha, hd, ad2, st2, ρ2, n2, e2, g2.imp fun w H2 ⟨ad3, st3, ρ3, n3, e3, g3⟩ => ⟨ad3, st3, ρ3, n3, e3, g3.imp fun u H3 ⟨b, o, hb, hg, hq⟩ => ?_⟩⟩⟩
          rw [ha] at hb; cases hb
          exact ⟨o, hg, hq⟩
        · simp only [pre3, Option.isSome_iff_exists] at e
          obtain ⟨⟨t, kvs⟩, e⟩ := e
          obtain ⟨a, rfl, ⟨_, kv, z, _⟩ | ⟨_, kv, z, _⟩⟩ := kvs_ok n h e
          · exact ⟨a, rfl, .inl ⟨kv, z⟩⟩
          · exact ⟨a, rfl, .inr ⟨kv, z⟩⟩
        · simp only [ev3] at g
          split at g
          · split at g
            · rename_i t kvs k d q hk
              obtain ⟨a, o, h1, h2, _, _, z⟩ := dget_ok n h q hk h'
              refine ⟨a, o, h1, h2, ?_⟩
              rcases z with ⟨z1, rfl⟩ | ⟨d, u, z1, rfl, z3⟩
              · rw [z1] at g; exact g ad H _ s n (vd h''.1)
              · rw [z1] at g; exact g ad H _ s n (vd z3)
            · exact g.elim
          · exact g.elim
      · refine PE.weak (pe_bm PySem.F.plainAttrs_list PySem.F.slot_list_insert PySem.F.type_list_insert mt_insert sa.pe (pa_cons sb.pe (pa_cons sc.pe pa_nil (shape_one sz)) (star1 (shape_star sy))) (shape_base so) (by rw [star1 (shape_star sy), shape_one sz]; rfl) hl (star1 (shape_star sy)) (star_any (by simp [shape_star sz]))) fun σ H Q ⟨ad, st, ρ, now, env, g⟩ => ?_
        refine threeS (P := fun v H => tyV X.K "list" v H) now env g (fun {ad st H x v} n h e => by rw [c.K]; exact lst_ty n h (by simpa only [pre2] using (show pre2 .append x st = true from by simpa only [pre2, pre3] using e))) fun {ad0 H0 ad st H x y z v w u} s n h h' h'' g => ?_
        simp only [ev3] at g
        split at g
        · rename_i k i
          obtain ⟨a, h1, rfl⟩ := rel_refK h rfl
          cases rel_int h'
          split at g
          · rename_i d st1 ed
            split at g
            · rename_i xs q
              split at g
              · rename_i hz
                simp only [setCell] at g
                split at g
                · rename_i hm
                  simp only [Bool.and_eq_true, Bool.not_eq_true'] at hm
                  obtain ⟨ad1, s1, n1, r1, p, rfl⟩ := toD_ok s n h'' ed
                  have h1' : pick (p ++ ad) k = some a := pick_app h1
                  obtain ⟨hk, hu⟩ := may_under n hm.1
                  obtain ⟨vs, z1, z2⟩ := lst_cell n1 h1' q hk
                  have z3 : Rels Γ.K (p ++ ad) H (xs.take i.toNat ++ [d] ++ xs.drop i.toNat) (vs.take i.toNat ++ [u] ++ vs.drop i.toNat) := ((z2.take _).append (by simp only [Rels]; exact ⟨u, [], rfl, r1, rfl⟩)).append (z2.drop _)
                  obtain ⟨s2, n2⟩ := n1.putL h1' z1 hk z3 fun b hb hlt => by
                    have bl := unders_mem.mp (base_lst n1 hb q hlt)
                    refine unders_app (unders_app (unders_mem.mpr fun y hy => bl y (List.mem_of_mem_take hy)) (by simp [D.unders, hu b hb hlt])) (unders_mem.mpr fun y hy => bl y (List.mem_of_mem_drop hy))
                  refine ⟨a, vs, i, u, rfl, rfl, z1, by rw [← z2.length]; exact hz.2.2, hz.1, hz.2.1, ?_⟩
                  exact g _ _ _ (s1.trans s2) n2 (vd d_non)
                · exact g.elim
              · exact g.elim
            · exact g.elim
          · exact g.elim
        · exact g.elim
    · cases h
  · cases h
end
end L3
/-! L3R: every term of expressions runs as told -/
namespace L3
open PySem L2 PySem.Spec PyProof.Rows
/-- arguments; dvs: the defaults behind them -/
def vLD (Γ : Gam) (dvs : List V) : Val (List D) (List V) where
  p _ ad H' r v := Rels Γ.K ad H' r (v ++ dvs)
  later := fun _ h => h
structure TbK (Γ : Gam) (G : Nm) (tb : Tb) (F : Calls) (n : Nat) (X : Cx) : Prop extends TbOk Γ G tb F n X where
  len : ∀ f fd K ds st, tb.fn f = some fd → ds.length ≠ fd.np → F f K ds st = .bad
section
variable {Γ : Gam} {G : Nm} {tb : Tb} {F : Calls} {K : Ct} {W : WX} {n m : Nat} {X : Cx} {σ : L2.St} {ad ad1 : List Addr} {H H1 : Hp} {st : St} {ρ : Env}
theorem PA.weak {es : List Expr} {t t' : TA} (h : PA X es t) (i : ∀ σ H Q, t' σ H Q → t σ H Q) : PA X es t' := ⟨fun pos pins s σ H Q I q => h.run pos pins s σ H Q I (i σ H Q q)⟩
theorem PW.weak {e : Expr} {t t' : TT} (h : PW X e t) (i : ∀ σ H Q, t' σ H Q → t σ H Q) : PW X e t' := ⟨fun wh pins s σ H Q I q => h.run wh pins s σ H Q I (i σ H Q q)⟩
theorem PO.weak {e : Option Expr} {t t' : TO} (h : PO X e t) (i : ∀ σ H Q, t' σ H Q → t σ H Q) : PO X e t' := ⟨fun pins s σ H Q I q => h.run pins s σ H Q I (i σ H Q q)⟩
/-- as stage; the ends stay as they were -/
theorem stage0 {α β α' β' : Type} {val : Val α β} {val' : Val α' β'} {m : Env → St → Out α'} {f : α' → St → Out α} {Q : β → Hp → Prop} {T : β' → Hp → Prop} (n : Now Γ K ad st H) (e : EnvR Γ ad H ρ σ) (g : Good Γ K W σ ad H val ((m ρ st).bind f) Q)
    (next : ∀ ad1 st1 r v H1, Step ad H ad1 H1 → Now Γ K ad1 st1 H1 → EnvR Γ ad1 H1 ρ σ → val'.p H ad1 H1 r v → Good Γ K W σ ad H val (f r st1) Q → T v H1) : tG Γ K W val' m σ H T := by
  refine ⟨ad, st, ρ, n, e, ?_⟩
  cases q : m ρ st with
  | ok r st' =>
    rw [q] at g
    intro ad' H' v s' n' p
    exact next ad' st' r v H' s' n' (e.mv s'.mv) p g
  | err x st' => rw [q] at g; exact g
  | bad => rw [q] at g; exact g
/-- a value made data -/
theorem stageD {α β : Type} {val : Val α β} {m : Env → St → Out R} {f : D → St → Out α} {Q : β → Hp → Prop} {T : V → Hp → Prop} (n : Now Γ K ad st H) (e : EnvR Γ ad H ρ σ)
    (g : Good Γ K W σ ad H val ((m ρ st).bind fun r st => match r.toD st with | some (x, st) => f x st | none => .bad) Q)
    (next : ∀ ad1 st1 x v H1, Step ad H ad1 H1 → Now Γ K ad1 st1 H1 → EnvR Γ ad1 H1 ρ σ → Rel Γ.K ad1 H1 x v → Good Γ K W σ ad1 H1 val (f x st1) Q → T v H1) : tG Γ K W (vR Γ) m σ H T := by
  refine stage0 n e g fun ad1 st1 r v H1 s1 n1 e1 r1 g1 => ?_
  split at g1
  · rename_i x st2 ed
    obtain ⟨ad2, s2, n2, h2, p, ep⟩ := toD_ok s1 n1 r1 ed
    refine next ad2 st2 x v H1 s2 n2 (e.mv s2.mv) h2 (Good.later s2 g1)
  · exact g1.elim
theorem pa_nilD {dvs : List V} {ds : List D} (h : ∀ ad H, Rels Γ.K ad H ds dvs) : PA X [] (tG Γ K W (vLD Γ dvs) fun _ st => .ok ds st) :=
  PA.weak pa_nil fun σ H Q ⟨ad, st, ρ, now, env, g⟩ => Good.now g now (show Rels Γ.K ad H ds ([] ++ dvs) from h ad H)
theorem pa_consD {e : Expr} {es : List Expr} {dvs : List V} {de : Env → St → Out R} {dr : Env → St → Out (List D)} (he : PE X e (tG Γ K W (vR Γ) de)) (hr : PA X es (tG Γ K W (vLD Γ dvs) dr)) (hs : shapeOk e = true) :
    PA X (e :: es) (tG Γ K W (vLD Γ dvs) fun ρ st => (de ρ st).bind fun r st => match r.toD st with | some (x, st) => (dr ρ st).bind fun xs st2 => .ok (x :: xs) st2 | none => .bad) := by
  refine PA.weak (pa_cons he hr (star1 (shape_star hs))) fun σ H Q ⟨ad, st, ρ, now, env, g⟩ => ?_
  refine stageD now env g fun ad1 st1 x v H1 s1 n1 e1 r1 g1 => ?_
  refine stage (val' := vLD Γ dvs) n1 e1 g1 fun ad2 st2 xs vs H2 s2 n2 e2 r2 g2 => ?_
  refine Good.now g2 n2 ?_
  show Rels Γ.K ad2 H2 (x :: xs) (v :: vs ++ dvs)
  simp only [Rels]
  exact ⟨v, vs ++ dvs, rfl, Rel.mv s2.mv r1, r2⟩

/-! ### slices -/
theorem cutAt_eq (n d : Nat) : ∀ o, cutAt n d o = HT.sIx n d o
  | none => rfl
  | some _ => rfl
theorem rels_cut {xs : List D} {vs : List V} (h : Rels Γ.K ad H xs vs) (lo hi : Option Int) : Rels Γ.K ad H (cutL xs lo hi) (cutV vs lo hi) := by
  unfold cutL cutV
  rw [cutAt_eq, cutAt_eq, h.length]
  exact (h.drop _).take _
theorem slc_pe (c : CxOk Γ G W n X) {e : Expr} {lo hi : Option Expr} {p pos : Pos} {de : Env → St → Out R} {dl dh : Env → St → Out (Option Int)} (he : PE X e (tG Γ K W (vR Γ) de)) (hl : PO X lo (tG Γ K W vO dl)) (hh : PO X hi (tG Γ K W vO dh)) :
    PE X (.Subscript e (.Slice lo hi none p) pos) (tG Γ K W (vR Γ) fun ρ st => (de ρ st).bind fun x st => (dl ρ st).bind fun l st => (dh ρ st).bind fun h st => evSl x l h st) := by
  refine PE.weak (pe_slice ((sl_str (X := X)).or (sl_list.or sl_tupA)) he hl hh) fun σ H Q ⟨ad, st, ρ, now, env, g⟩ => ?_
  refine stage (val' := vR Γ) now env g fun ad1 st1 x v H1 s1 n1 e1 r1 g1 => ?_
  refine stage (val' := vO) n1 e1 g1 fun ad2 st2 l l' H2 s2 n2 e2 r2 g2 => ?_
  refine stage (val' := vO) n2 e2 g2 fun ad3 st3 h h' H3 s3 n3 e3 r3 g3 => ?_
  cases (show l = l' from r2)
  cases (show h = h' from r3)
  have r4 := (r1.1.step s2).step s3
  have lst : ∀ {xs : List D}, x.lst? st3 = some xs → Good Γ K W σ ad3 H3 (vR Γ) (.ok (.fl (cutL xs l h)) st3) Q → rSlL X.K v l h H3 Q := fun {xs} q g4 => by
    obtain ⟨a, vs, rfl, h1, h2⟩ := lst_ok n3 r4 q
    rw [c.K]
    exact ⟨a, vs, rfl, h1, fun p hp => Good.new g4 n3 hp (rr_new n3 hp (rels_cut h2 l h))⟩
  unfold evSl at g3
  split at g3
  · rename_i z
    split at g3
    · rename_i hz
      refine .inl ⟨z, rel_str r4, hz, ?_⟩
      refine Good.d g3 n3 ?_
      simp only [Rel, V.str.injEq]
      unfold cutS cutL
      rw [cutAt_eq, cutAt_eq]
      rfl
    · exact g3.elim
  · rename_i xs
    refine .inr (.inr ?_)
    simp only [RR, Rel] at r4
    obtain ⟨a, vs, rfl, h1, h2⟩ := r4
    rw [c.K]
    refine ⟨a, vs, rfl, SqT.of h1, fun hw => Good.d g3 n3 ?_, fun _ p hp => Good.new g3 n3 hp (rr_tup n3 hp (rels_cut h2 l h))⟩
    have : cutL xs l h = xs := by
      unfold cutL
      rw [cutAt_eq, cutAt_eq, h2.length, hw.1, hw.2]
      simp [h2.length]
      rw [← h2.length, List.take_length]
    rw [this]
    simp only [Rel]
    exact ⟨a, vs, rfl, h1, h2⟩
  · split at g3
    · rename_i xs q
      exact .inr (.inl (lst q g3))
    · exact g3.elim
/-! ### a < b < c -/
theorem chain_snd (c : CxOk Γ G W n X) {f f' : P2} {op op' : CmpOp} {a b d : E} {x y z : Expr} {pos : Pos} (e1 : p2cmp f = some op) (e2 : p2cmp f' = some op') (ha : Snd Γ tb F K W X a x) (hb : Snd Γ tb F K W X b y) (hd : Snd Γ tb F K W X d z) (sy : shapeOk y = true) (sz : shapeOk z = true) :
    Snd Γ tb F K W X (.chain f f' a b d) (.Compare x [op, op'] [y, z] pos) := by
  obtain ⟨r, hr, hq⟩ := cmp_ok (K := K) c f e1
  obtain ⟨r', hr', hq'⟩ := cmp_ok (K := K) c f' e2
  have key : ∀ σ H Q, tG Γ K W (vR Γ) (denE F tb K (.chain f f' a b d)) σ H Q → tChain r r' (tG Γ K W (vR Γ) (denE F tb K a)) (tG Γ K W (vR Γ) (denE F tb K b)) (tG Γ K W (vR Γ) (denE F tb K d)) σ H Q := fun σ H Q ⟨ad, st, ρ, now, env, g⟩ => by
    simp only [denE] at g
    refine stage (val' := vR Γ) now env g fun ad1 st1 v v' H1 s1 n1 e1' r1 g1 => ?_
    refine stage (val' := vR Γ) n1 e1' g1 fun ad2 st2 w w' H2 s2 n2 e2' r2 g2 => ?_
    refine hq (x := v) (y := w) (σ := σ) n2 (r1.1.step s2) r2.1 ?_
    cases q : ev2 f K v w st2 with
    | bad => rw [q] at g2; exact g2.elim
    | err t st3 => rw [q] at g2; exact g2
    | ok t st3 =>
      rw [q] at g2
      obtain ⟨k, rfl⟩ := cmp_bool e1 q
      intro ad3 H3 t' s3 n3 r3
      cases rel_bl r3.1
      refine ⟨k, rfl, ?_⟩
      cases k with
      | false => exact Good.now (Good.later s3 g2) n3 (vd d_bl)
      | true =>
        exact stage (val' := vR Γ) n3 (e2'.mv s3.mv) (Good.later s3 g2) fun ad4 st4 u u' H4 s4 n4 e4 r4 g4 => hq' n4 ((r2.1.step s3).step s4) r4.1 g4
  have hm : lastMarks [op, op'] [y, z] = false := shape_marks sz
  refine ⟨PE.weak (pe_chain hr hr' ha.pe hb.pe hd.pe hm) key, ?_, fun w => by cases w⟩
  have de : denT F tb K (.chain f f' a b d) = dTruth (denE F tb K (.chain f f' a b d)) := by funext ρ st; simp only [denT, dTruth]
  rw [de]
  refine pt_bool (pt_chain hr hr' ha.pe hb.pe hd.pe hm) key fun ρ st r st' e' => ?_
  simp only [denE] at e'
  cases q : denE F tb K a ρ st <;> rw [q] at e' <;> simp only [Out.bind, reduceCtorEq] at e'
  rename_i x1 st1
  cases q2 : denE F tb K b ρ st1 <;> rw [q2] at e' <;> simp only [Out.bind, reduceCtorEq] at e'
  rename_i x2 st2
  cases q3 : ev2 f K x1 x2 st2 <;> rw [q3] at e' <;> simp only [Out.bind, reduceCtorEq] at e'
  rename_i x3 st3
  split at e'
  · cases q4 : denE F tb K d ρ st3 <;> rw [q4] at e' <;> simp only [Out.bind, reduceCtorEq] at e'
    exact cmp_bool e2 e'
  · simp only [okR, Out.ok.injEq] at e'; exact ⟨_, e'.1.symm⟩
  · cases e'
/-! ### and, or, not, if -/
theorem one_snd {a : E} {op : BoolOp} {y : Expr} {pos : Pos} (h : Snd Γ tb F K W X a y) : Snd Γ tb F K W X (.one a) (.BoolOp op [y] pos) := by
  have d1 : denE F tb K (.one a) = denE F tb K a := by funext ρ st; simp only [denE]
  have d2 : denT F tb K (.one a) = denT F tb K a := by funext ρ st; simp only [denT]
  have pw : PW X (.BoolOp op [y] pos) (tG Γ K W vB (denT F tb K (.one a))) := by
    rw [d2]
    cases op with
    | And => exact pw_and1 h.pt
    | Or => exact pw_or1 h.pt
  exact ⟨by rw [d1]; exact pe_one h.pe, pw.pt, fun _ => pw⟩
theorem and_snd {a b : E} {y z : Expr} {r : List Expr} {pos : Pos} (h : Snd Γ tb F K W X a y) (hb : Snd Γ tb F K W X b (.BoolOp .And (z :: r) pos)) : Snd Γ tb F K W X (.and a b) (.BoolOp .And (y :: z :: r) pos) := by
  have pw : PW X (.BoolOp .And (y :: z :: r) pos) (tG Γ K W vB (denT F tb K (.and a b))) := by
    refine PW.weak (pw_and h.pt (hb.pw rfl)) fun σ H Q ⟨ad, st, ρ, now, env, g⟩ => ?_
    simp only [denT] at g
    refine stage (val' := vB) now env g fun ad1 st1 k k' H1 s1 n1 e1 r1 g1 => ?_
    cases (show k = k' from r1)
    cases k with
    | true => exact ⟨ad1, st1, ρ, n1, e1, g1⟩
    | false => exact Good.now g1 n1 rfl
  refine ⟨PE.weak (pe_and h.pe hb.pe) fun σ H Q ⟨ad, st, ρ, now, env, g⟩ => ?_, pw.pt, fun _ => pw⟩
  simp only [denE] at g
  refine stage (val' := vR Γ) now env g fun ad1 st1 x v H1 s1 n1 e1 r1 g1 => ?_
  split at g1
  · exact ⟨true, rel_bl r1.1, ad1, st1, ρ, n1, e1, g1⟩
  · exact ⟨false, rel_bl r1.1, Good.d g1 n1 d_bl⟩
  · exact g1.elim
theorem or_snd {a b : E} {y z : Expr} {r : List Expr} {pos : Pos} (h : Snd Γ tb F K W X a y) (hb : Snd Γ tb F K W X b (.BoolOp .Or (z :: r) pos)) : Snd Γ tb F K W X (.or a b) (.BoolOp .Or (y :: z :: r) pos) := by
  have pw : PW X (.BoolOp .Or (y :: z :: r) pos) (tG Γ K W vB (denT F tb K (.or a b))) := by
    refine PW.weak (pw_or h.pt (hb.pw rfl)) fun σ H Q ⟨ad, st, ρ, now, env, g⟩ => ?_
    simp only [denT] at g
    refine stage (val' := vB) now env g fun ad1 st1 k k' H1 s1 n1 e1 r1 g1 => ?_
    cases (show k = k' from r1)
    cases k with
    | false => exact ⟨ad1, st1, ρ, n1, e1, g1⟩
    | true => exact Good.now g1 n1 rfl
  refine ⟨PE.weak (pe_or h.pe hb.pe) fun σ H Q ⟨ad, st, ρ, now, env, g⟩ => ?_, pw.pt, fun _ => pw⟩
  simp only [denE] at g
  refine stage (val' := vR Γ) now env g fun ad1 st1 x v H1 s1 n1 e1 r1 g1 => ?_
  split at g1
  · exact ⟨false, rel_bl r1.1, ad1, st1, ρ, n1, e1, g1⟩
  · exact ⟨true, rel_bl r1.1, Good.d g1 n1 d_bl⟩
  · exact g1.elim
theorem not_snd {a : E} {y : Expr} {pos : Pos} (h : Snd Γ tb F K W X a y) : Snd Γ tb F K W X (.not a) (.UnaryOp .Not y pos) := by
  refine ⟨PE.weak (pe_not h.pe) fun σ H Q ⟨ad, st, ρ, now, env, g⟩ => ?_, PT.weak (pt_not h.pt) fun σ H Q ⟨ad, st, ρ, now, env, g⟩ => ?_, fun z => by cases z⟩
  · simp only [denE] at g
    refine stage (val' := vR Γ) now env g fun ad1 st1 x v H1 s1 n1 e1 r1 g1 => ?_
    split at g1
    · exact ⟨_, rel_bl r1.1, Good.d g1 n1 d_bl⟩
    · exact g1.elim
  · simp only [denT] at g
    refine stage (val' := vB) now env g fun ad1 st1 k k' H1 s1 n1 e1 r1 g1 => ?_
    cases (show k = k' from r1)
    exact Good.now g1 n1 rfl
theorem pt_never {e : Expr} {t : TT} (h : ∀ σ H Q, ¬ t σ H Q) : PT X e t := ⟨fun _ _ σ H Q _ q => (h σ H Q q).elim⟩
theorem ife_snd {t a b : E} {x y z : Expr} {pos : Pos} (ht : Snd Γ tb F K W X t x) (ha : Snd Γ tb F K W X a y) (hb : Snd Γ tb F K W X b z) : Snd Γ tb F K W X (.ife t a b) (.IfExp x y z pos) := by
  refine ⟨PE.weak (pe_ifExp ht.pt ha.pe hb.pe) fun σ H Q ⟨ad, st, ρ, now, env, g⟩ => ?_, pt_never fun σ H Q ⟨ad, st, ρ, now, env, g⟩ => ?_, fun z => by cases z⟩
  · simp only [denE] at g
    refine stage (val' := vB) now env g fun ad1 st1 k k' H1 s1 n1 e1 r1 g1 => ?_
    cases (show k = k' from r1)
    cases k with
    | true => exact ⟨ad1, st1, ρ, n1, e1, g1⟩
    | false => exact ⟨ad1, st1, ρ, n1, e1, g1⟩
  · simp only [denT] at g
    exact g
/-! ### a new list that nobody will write -/
theorem frz_good {a : Addr} {xs : List D} {vs : List V} {od : Obj} (s1 : Step ad H ad1 H1) (n1 : Now Γ K ad1 st H1) (h2 : H1 a = some (.lst vs)) (h3 : a ∉ ad1) (h4 : Rels Γ.K ad1 H1 xs vs) (f : H a = none) :
    Step ad H ad1 (upd H1 a (.frz od (.lst vs))) ∧ Now Γ K ad1 st (upd H1 a (.frz od (.lst vs))) ∧ Rel Γ.K ad1 (upd H1 a (.frz od (.lst vs))) (.frz xs) (.ref a) ∧ Mv ad1 H1 ad1 (upd H1 a (.frz od (.lst vs))) := by
  have ne : ∀ b u, H b = some u → b ≠ a := fun b u e z => by rw [z, f] at e; cases e
  have mv : Mv ad1 H1 ad1 (upd H1 a (.frz od (.lst vs))) := ⟨⟨[], rfl⟩, fun b ys hb => by rw [upd_ne fun z => by rw [z, h2] at hb; cases hb]; exact hb, fun b o u hb => by rw [upd_ne fun z => by rw [z, h2] at hb; cases hb]; exact hb⟩
  refine ⟨⟨s1.pre, fun b o hb hn => by rw [upd_ne (ne b _ hb)]; exact s1.keep b o hb hn, fun b ys hb => by rw [upd_ne (ne b _ hb)]; exact s1.tups b ys hb, fun b o u hb => by rw [upd_ne (ne b _ hb)]; exact s1.frzs b o u hb, fun b hb => ?_⟩,
    ⟨⟨n1.rep.len, n1.rep.nd, fun k c hk => let ⟨b, e1, e2⟩ := n1.rep.cell k c hk; ⟨b, e1, e2.mv mv (upd_ne fun z => h3 (z ▸ pick_mem e1))⟩⟩, n1.base, n1.lk⟩, ?_, mv⟩
  · have := s1.some b hb
    unfold upd
    split
    · simp
    · exact this
  · simp only [Rel]
    exact ⟨a, vs, rfl, .inl ⟨od, upd_same⟩, Rels.mv mv h4⟩
theorem fz_pe {x : Expr} {m : Env → St → Out R} (h : PE X x (tG Γ K W (vR Γ) m)) : PE X x (tG Γ K W (vR Γ) fun ρ st => (m ρ st).bind fun r st => .ok r.frz st) := by
  refine ⟨fun pins s σ H Q I ⟨ad, st, ρ, now, env, g⟩ => ?_⟩
  refine thn (h.run pins s σ H (fun v H1 => Q v H1 ∨ ∃ a vs, v = .ref a ∧ H1 a = some (.lst vs) ∧ ∀ od, Q v (upd H1 a (.frz od (.lst vs)))) I ⟨ad, st, ρ, now, env, ?_⟩) fun u s' ⟨v, H1, I1, r1, q⟩ => ?_
  · cases e : m ρ st with
    | ok r st1 =>
      replace g : Good Γ K W σ ad H (vR Γ) ((m ρ st).bind fun r st => .ok r.frz st) Q := g
      rw [e] at g
      intro ad1 H1 v s1 n1 p
      cases r with
      | fl xs =>
        obtain ⟨⟨a, vs, ev, h2, h3, h4⟩, f⟩ := p
        subst ev
        refine .inr ⟨a, vs, rfl, h2, fun od => ?_⟩
        obtain ⟨q1, q2, q3, _⟩ := frz_good (od := od) s1 n1 h2 h3 h4 (f a rfl)
        exact g ad1 _ (.ref a) q1 q2 ⟨q3, trivial⟩
      | d y => exact .inl (g ad1 H1 v s1 n1 p)
      | kt y => exact .inl (g ad1 H1 v s1 n1 p)
      | fd t y => exact .inl (g ad1 H1 v s1 n1 p)
    | err y st1 =>
      replace g : Good Γ K W σ ad H (vR Γ) ((m ρ st).bind fun r st => .ok r.frz st) Q := g
      rw [e] at g; exact g
    | bad =>
      replace g : Good Γ K W σ ad H (vR Γ) ((m ρ st).bind fun r st => .ok r.frz st) Q := g
      rw [e] at g; exact g
  · rcases q with q | ⟨a, vs, ev, h2, q⟩
    · exact ⟨v, H1, I1, r1, q⟩
    · obtain ⟨od, I2⟩ := I1.lock h2 trivial
      exact ⟨v, _, I2, r1, q od⟩
theorem PS.lockd {st : Stmt} {t : TS} (h : PS X st t) : PS X st fun D σ H => t { D with nx := fun σ' H' => D.nx σ' H' ∨ ∃ a vs, H' a = some (.lst vs) ∧ ∀ od, D.nx σ' (upd H' a (.frz od (.lst vs))) } σ H := by
  refine ⟨fun pins s σ H D I q => thn (h.run pins s σ H _ I q) fun f s' z => ?_⟩
  cases f with
  | next =>
    obtain ⟨σ', H', I', q⟩ := z
    rcases q with q | ⟨a, vs, h2, q⟩
    · exact ⟨σ', H', I', q⟩
    · obtain ⟨od, I2⟩ := I'.lock h2 trivial
      exact ⟨σ', _, I2, q od⟩
  | _ => exact z
end
end L3
/-! L3RA: a tuple of which all is known, made by tuple(a list); dict(..) of it, of a list -/
namespace L3
open PySem L2 PySem.Spec PyProof.Rows
section
variable {X : Cx}
theorem call_ptup : CallR X (.type "tuple") (fun xs H Q => ∃ (a : Addr) (ys : List V), xs = [.ref a] ∧ SqL X.K H a ys ∧ ∀ q o, o.dict = none → H q = none → Q (.ref q) (upd H q (.frz o (.tup ys)))) := by
  intro pins s σ H xs us Q I r q
  obtain ⟨a, ys, ex, hq, q⟩ := q
  subst ex
  obtain ⟨u, eu, rx⟩ := vals1 r
  subst eu
  cases rx
  obtain ⟨its, rv, pl, hz⟩ := I.list hq
  refine call_tuple_list pl.isList (fun h' hk => ?_) (by rw [List.size_toArray, ← rv.length]; exact hz)
  have I1 : Inv X pins σ H { s with heap := h' } := I.kept (t' := s.toks) hk
  have I2 : Inv X pins σ (upd H h'.objs.size (.frz { cls := .type "tuple", data := .seq its.toArray } (.tup ys))) { s with heap := h'.push { cls := .type "tuple", data := .seq its.toArray } } :=
    I1.laid (t' := s.toks) (fun b o e => Heap.get?_push_of_some _ e) (Nat.le_refl _) (show ObjOk X.prog X.w _ _ _ (.frz _ (.tup ys)) from ⟨Heap.get?_push_size _ rfl, hz, its, rv, IsTup.new _ _⟩)
  exact ⟨.ref h'.objs.size, _, I2, rfl, q _ _ rfl (I1.hok.fresh (Nat.le_refl _))⟩
/-- pairs and their places, as the library tells them -/
theorem pairs_tell {h : Heap} : ∀ {ps : List Addr} {prs : List (Key × Value)}, prs.length = ps.length → (∀ (j : Nat) (q : Key × Value), prs[j]? = some q → ∃ (b : Addr) (u : Value), ps[j]? = some b ∧ IsTup h b #[u, q.2] ∧ keyIs q.1 u = true) →
    ∃ kvs : List (Value × Value), kvs.length = ps.length ∧ ∀ (j : Nat) k v, kvs[j]? = some (k, v) → ∃ b q, ps[j]? = some b ∧ IsTup h b #[k, v] ∧ prs[j]? = some (q, v) ∧ keyIs q k = true
  | [], prs, _, _ => ⟨[], rfl, fun j k v e => by simp at e⟩
  | p :: ps, [], hl, _ => by simp at hl
  | p :: ps, pr :: prs, hl, ht => by
    obtain ⟨kvs, e1, e2⟩ := pairs_tell (ps := ps) (prs := prs) (by simpa using hl) fun j q e => by
      obtain ⟨b, u, z1, z2, z3⟩ := ht (j + 1) q (by simpa using e)
      exact ⟨b, u, by simpa using z1, z2, z3⟩
    obtain ⟨b, u, z1, z2, z3⟩ := ht 0 pr rfl
    refine ⟨(u, pr.2) :: kvs, by simp [e1], fun j k v e => ?_⟩
    cases j with
    | zero =>
      simp only [List.getElem?_cons_zero, Option.some.injEq, Prod.mk.injEq] at e
      obtain ⟨rfl, rfl⟩ := e
      exact ⟨b, pr.1, z1, z2, rfl, z3⟩
    | succ j =>
      obtain ⟨b, q, w1, w2, w3, w4⟩ := e2 j k v (by simpa using e)
      exact ⟨b, q, by simpa using w1, w2, by simpa using w3, w4⟩
/-- dict(xs) of a tuple of pairs -/
theorem call_dictT (hcalm : X.calm = true) : CallR X (.type "dict") (fun xs H Q => ∃ (a : Addr) (ps : List Addr) (kvs : List (Key × V)), xs = [.ref a] ∧ PTup H a (ps.map V.ref) ∧ Paired (fun p kv => SqT X.K H p [kV kv.1, kv.2]) ps kvs ∧
    ∀ p, H p = none → Q (.ref p) (upd H p (.dK (mergeK [] kvs)))) := by
  intro pins s σ H xs us Q I r q
  obtain ⟨a, ps, kvs, ex, ⟨o, od, hq⟩, hp, q⟩ := q
  subst ex
  obtain ⟨u, eu, rx⟩ := vals1 r
  subst eu
  cases rx
  obtain ⟨ho, hz, its, rv, o', ho', hc, n, hdat⟩ : s.heap.get? a = some o ∧ (ps.map V.ref).length ≤ sizeLine ∧ ∃ its : List Value, Vals (ps.map V.ref) its ∧ IsTup s.heap a its.toArray := I.hok a _ hq
  rw [ho] at ho'
  cases ho'
  have ei := refs_at rv
  subst ei
  rw [List.length_map] at hz
  obtain ⟨prs, rel, hl, hpr⟩ := pairs_of I hp
  obtain ⟨vvs, vl, hv⟩ := pairs_tell hl hpr
  have P := PairArg.tuple (prog := X.prog) (w := X.w) a (ps.map Value.ref).toArray (fun j => ps[j]?.getD 0) vvs
  refine PySem.call_dict_pairs (knd := mixKind X.prog X.w) (kvs := prs) P (I.ok.hd hcalm) ⟨⟨o, n, ho, hc, od, hdat⟩, by simp [vl], fun j k v e => ?_⟩ ⟨by rw [hl, vl], fun j k v e => ?_⟩ (by rw [vl]; exact hz) fun h' tk hd' k => ?_
  · obtain ⟨b, q, w1, w2, _⟩ := hv j k v e
    obtain ⟨o2, y1, y2, n2, y3⟩ := w2
    exact ⟨by simp [w1], .inl ⟨o2, by show s.heap.get? (ps[j]?.getD 0) = _; rw [w1]; exact y1, y2, n2, y3⟩⟩
  · obtain ⟨b, q, _, _, w3, w4⟩ := hv j k v e
    exact ⟨q, w3, w4⟩
  · have hm : (s.heap.objs.size == sysModules) = false := beq_eq_false_iff_ne.mpr (Nat.ne_of_gt I.big)
    have hlen : (mergeK [] kvs).length ≤ sizeLine := by
      refine Nat.le_trans (length_mergeK kvs []) ?_
      rw [List.length_nil, Nat.zero_add, rel.length, hl]
      exact hz
    exact ⟨.ref s.heap.objs.size, upd H s.heap.objs.size (.dK (mergeK [] kvs)), I.laid (t' := tk) (fun b o e => k b o (by simp) e) (Nat.le_refl _) (show ObjOk X.prog X.w _ _ _ (.dK (mergeK [] kvs)) from ⟨hlen, hm, merged [] prs, KV.merge rel .nil, hd'⟩), rfl, q _ (I.hok.fresh (Nat.le_refl _))⟩
end
section
variable {Γ : Gam} {G : Nm} {tb : Tb} {F : Calls} {K : Ct} {W : WX} {n m : Nat} {X : Cx} {σ : L2.St} {ad ad1 : List Addr} {H H1 : Hp} {st : St} {ρ : Env}
/-- a dict's pairs, one put -/
theorem kv_map {κ : Type} [DecidableEq κ] {key : D → Option κ} (inj : ∀ {a b q}, key a = some q → key b = some q → a = b) {k y : D} {q : κ} {v : V} (ek : key k = some q) (hv : Rel Γ.K ad H y v) :
    ∀ {kvs : Kvs} {kv : List (κ × V)}, Kv key Γ.K ad H kvs kv → Kv key Γ.K ad H (kvs.map fun p => if p.1 = k then (p.1, y) else p) (kv.map fun p => if p.1 = q then (p.1, v) else p)
  | [], _, h => by simp only [Kv] at h; subst h; simp [Kv]
  | p :: r, _, h => by
    simp only [Kv] at h
    obtain ⟨k', w, t, rfl, h1, h2, h3⟩ := h
    simp only [List.map_cons, Kv]
    by_cases e : p.1 = k
    · have e' : k' = q := Option.some.inj (by rw [← h1, ← ek, e])
      subst e'
      rw [if_pos e, if_pos rfl]
      exact ⟨k', v, _, rfl, h1, hv, kv_map inj ek hv h3⟩
    · have e' : ¬ k' = q := fun z => e (inj h1 (by rw [z]; exact ek))
      rw [if_neg e, if_neg e']
      exact ⟨k', w, _, rfl, h1, h2, kv_map inj ek hv h3⟩
theorem kv_app {κ : Type} {key : D → Option κ} {k y : D} {q : κ} {v : V} (ek : key k = some q) (hv : Rel Γ.K ad H y v) :
    ∀ {kvs : Kvs} {kv : List (κ × V)}, Kv key Γ.K ad H kvs kv → Kv key Γ.K ad H (kvs ++ [(k, y)]) (kv ++ [(q, v)])
  | [], _, h => by simp only [Kv] at h; subst h; simp only [List.nil_append, Kv]; exact ⟨q, v, [], rfl, ek, hv, rfl⟩
  | p :: r, _, h => by
    simp only [Kv] at h
    obtain ⟨k', w, t, rfl, h1, h2, h3⟩ := h
    simp only [List.cons_append, Kv]
    exact ⟨k', w, _, rfl, h1, h2, kv_app ek hv h3⟩
theorem kv_put {κ : Type} [DecidableEq κ] {key : D → Option κ} (inj : ∀ {a b q}, key a = some q → key b = some q → a = b) {k y : D} {q : κ} {v : V} (ek : key k = some q) (hv : Rel Γ.K ad H y v) {kvs : Kvs} {kv : List (κ × V)} (h : Kv key Γ.K ad H kvs kv) :
    Kv key Γ.K ad H (kvPut kvs k y) (putK kv q v) := by
  have e := kv_has inj ek h
  have e2 : (kv.any fun p => decide (p.1 = q)) = (valV kv q).isSome := by
    clear h e ek
    induction kv with
    | nil => rfl
    | cons p r ih =>
      by_cases z : p.1 = q
      · simp [valV_pos z, z]
      · simp [valV_neg z, z, ih]
  unfold kvPut putK
  rw [e, e2]
  split
  · exact kv_map inj ek hv h
  · exact kv_app ek hv h
theorem kv_merge : ∀ {ps : Kvs} {kvs : List (Key × V)} {acc : Kvs} {kv : List (Key × V)}, Kv keyK Γ.K ad H ps kvs → Kv keyK Γ.K ad H acc kv → Kv keyK Γ.K ad H (kvMerge acc ps) (mergeK kv kvs)
  | [], _, acc, kv, h, h' => by simp only [Kv] at h; subst h; exact h'
  | p :: r, _, acc, kv, h, h' => by
    simp only [Kv] at h
    obtain ⟨k, v, t, rfl, h1, h2, h3⟩ := h
    show Kv keyK Γ.K ad H (kvMerge (kvPut acc p.1 p.2) r) (mergeK (putK kv k v) t)
    exact kv_merge h3 (kv_put (fun e e' => keyK_inj e e') h1 h2 h')
theorem kV_rel {d : D} {v : V} {k : Key} (h : Rel Γ.K ad H d v) (e : keyK d = some k) : v = kV k := by
  cases d <;> simp only [keyK, reduceCtorEq, Option.some.injEq] at e <;> subst e <;> simp only [Rel] at h <;> exact h
theorem pairs_rel : ∀ {xs : List D} {vs : List V} {ps : Kvs}, Rels Γ.K ad H xs vs → D.pairs xs = some ps → ∃ (as : List Addr) (kvs : List (Key × V)), vs = as.map V.ref ∧ Paired (fun p kv => SqT Γ.K H p [kV kv.1, kv.2]) as kvs ∧ Kv keyK Γ.K ad H ps kvs
  | [], vs, ps, h, e => by
    simp only [Rels] at h; subst h
    simp only [D.pairs, Option.some.injEq] at e; subst e
    exact ⟨[], [], rfl, .nil, rfl⟩
  | x :: xs, vs, ps, h, e => by
    simp only [Rels] at h
    obtain ⟨v, r, rfl, h1, h2⟩ := h
    match x, e, h1 with
    | .tup [k, y], e, h1 =>
      simp only [D.pairs] at e
      split at e
      · rename_i hk
        obtain ⟨ps', e1, rfl⟩ := Option.map_eq_some_iff.mp e
        obtain ⟨as, kvs, rfl, h3, h4⟩ := pairs_rel h2 e1
        simp only [Rel, Rels] at h1
        obtain ⟨a, ws, rfl, w1, w, r2, rfl, w2, w', r3, rfl, w3, rfl⟩ := h1
        obtain ⟨q, hq⟩ : ∃ q, keyK k = some q := by cases k <;> simp only [keyOk, reduceCtorEq] at hk <;> first | exact ⟨_, rfl⟩ | cases hk
        have ew := kV_rel w2 hq
        subst ew
        exact ⟨a :: as, (q, w') :: kvs, rfl, .cons (SqT.of w1) h3, ⟨q, w', kvs, rfl, hq, w3, h4⟩⟩
      · cases e
theorem pt_pe (c : CxOk Γ G W n X) {x : Str} {a : Expr} {p pos : Pos} {da : Env → St → Out R} (hx : isB G X.env.scope x "tuple" = true) (ha : PE X a (tG Γ K W (vR Γ) da)) (sa : shapeOk a = true) :
    PE X (.Call (.Name x p) [a] [] pos) (tG Γ K W (vR Γ) fun ρ st => (da ρ st).bind fun r st => (match r.lst? st with | some xs => okR (.ptup xs) st | none => .bad)) := by
  obtain ⟨rfl, h1, h2, h3, h4⟩ := isB_of hx
  have ck := c.K
  refine PE.weak (pe_callTy call_ptup h1 (c.blt _ h4) (by decide +kernel) (pa_cons ha pa_nil (shape_one sa)) h3 h2 (shape_one sa) rfl) fun σ H Q ⟨ad, st, ρ, now, env, g⟩ =>
    stage (val' := vR Γ) now env g fun ad1 st1 x v H1 s1 n1 e1 r1 g1 => ?_
  split at g1
  · rename_i q
    obtain ⟨b, vs, rfl, h5, h6⟩ := lst_ok n1 r1.1 q
    refine ⟨b, vs, rfl, by rw [ck]; exact h5, fun l o od hl => Good.new g1 n1 hl ⟨?_, trivial⟩⟩
    simp only [RR, Rel]
    exact ⟨l, vs, rfl, ⟨o, od, upd_same⟩, Rels.mv (n1.new hl _).1.mv h6⟩
  · exact g1.elim
theorem dt_pe (c : CxOk Γ G W n X) {x : Str} {a : Expr} {p pos : Pos} {da : Env → St → Out R} (hx : isB G X.env.scope x "dict" = true) (ha : PE X a (tG Γ K W (vR Γ) da)) (sa : shapeOk a = true) :
    PE X (.Call (.Name x p) [a] [] pos) (tG Γ K W (vR Γ) fun ρ st => (da ρ st).bind fun r st => ev1 .dct K r st) := by
  obtain ⟨rfl, h1, h2, h3, h4⟩ := isB_of hx
  have ck := c.K
  refine PE.weak (pe_callTy ((call_dictT c.calm).or (call_dictP c.calm)) h1 (c.blt _ h4) (by decide +kernel) (pa_cons ha pa_nil (shape_one sa)) h3 h2 (shape_one sa) rfl) fun σ H Q ⟨ad, st, ρ, now, env, g⟩ =>
    stage (val' := vR Γ) now env g fun ad1 st1 x v H1 s1 n1 e1 r1 g1 => ?_
  simp only [ev1] at g1
  split at g1
  · rename_i xs q
    split at g1
    · rename_i ps q2
      have fin : ∀ {kvs : List (Key × V)}, Kv keyK Γ.K ad1 H1 ps kvs → ∀ l, H1 l = none → Q (.ref l) (upd H1 l (.dK (mergeK [] kvs))) := fun {kvs} hk l hl => by
        refine Good.new g1 n1 hl ⟨⟨l, _, rfl, upd_same, n1.rep.out hl, ?_⟩, fun a e => by cases e; exact hl⟩
        exact Kv.mv (n1.new hl _).1.mv (kv_merge hk rfl)
      split at q
      · rename_i ys
        simp only [Option.some.injEq] at q; subst q
        have r2 := r1.1
        simp only [RR, Rel] at r2
        obtain ⟨b, vs, rfl, h5, h6⟩ := r2
        obtain ⟨as, kvs, rfl, h7, h8⟩ := pairs_rel h6 q2
        exact .inl ⟨b, as, kvs, rfl, h5, by rw [ck]; exact h7, fin h8⟩
      · obtain ⟨b, vs, rfl, h5, h6⟩ := lst_ok n1 r1.1 q
        obtain ⟨as, kvs, rfl, h7, h8⟩ := pairs_rel h6 q2
        exact .inr ⟨b, as, kvs, rfl, by rw [ck]; exact h5, by rw [ck]; exact h7, fin h8⟩
    · exact g1.elim
  · exact g1.elim
end
end L3
/-! L3S: the whole of expressions -/
namespace L3
open PySem L2 PySem.Spec PyProof.Rows
section
variable {Γ : Gam} {G : Nm} {tb : Tb} {F : Calls} {K : Ct} {W : WX} {n m : Nat} {X : Cx} {σ : L2.St} {ad ad1 : List Addr} {H H1 : Hp} {st : St} {ρ : Env}
theorem Good.sub {α β : Type} {val : Val α β} {o : Out α} {Q : β → Hp → Prop} {st0 : St} (n0 : Base K st0) (g : Good Γ K W σ ad H val o Q) : Good Γ (K.sub st0) W σ ad H val o Q := by
  cases o with
  | ok r st' => exact fun ad' H' v s' n' q => g ad' H' v s' (Now.unsub n0 n') q
  | err x st' => exact fun ad' H' c d s' n' q => g ad' H' c d s' (Now.unsub n0 n') q
  | bad => exact g
theorem Good.w {α β : Type} {val : Val α β} {o : Out α} {Q : β → Hp → Prop} {W' : WX} {σ' : L2.St} (h : ∀ c d H, W c d σ H → W' c d σ' H) (g : Good Γ K W σ ad H val o Q) : Good Γ K W' σ' ad H val o Q := by
  cases o with
  | ok r st' => exact g
  | err x st' => exact fun ad' H' c d s' n' q => h c d H' (g ad' H' c d s' n' q)
  | bad => exact g
theorem bind_assoc' {α β γ : Type} (m : Out α) (f : α → St → Out β) (g : β → St → Out γ) : (m.bind f).bind g = m.bind fun a st => (f a st).bind g := by cases m <;> rfl
theorem pe_bad {x : Expr} {m : Env → St → Out R} (h : ∀ ρ st, m ρ st = .bad) : PE X x (tG Γ K W (vR Γ) m) := ⟨fun pins s σ H Q I ⟨ad, st, ρ, now, env, g⟩ => by rw [h] at g; exact g.elim⟩
/-- the arguments of a call -/
structure ArgsOk (Γ : Gam) (G : Nm) (tb : Tb) (F : Calls) (K : Ct) (W : WX) (X : Cx) (f : Bool) (es : Es) (xs : List Expr) (dvs : List V) (ds : List Value) : Prop where
  d : (dvs = [] ∧ ds = []) ∨ (f = true ∧ dvs = [.non] ∧ ds = [.none])
  pa : PA X xs (tG Γ K W (vLD Γ dvs) (denEs F tb K es))
  nil : xs = [] → ∃ us, (∀ ρ st, denEs F tb K es ρ st = .ok us st) ∧ ∀ ad H, Rels Γ.K ad H us dvs
  star : xs.all noStar = true
theorem call_pe (c : CxOk Γ G W n X) (t : TbK Γ G tb F n X) (tk : Takes X W) {f : Nat} {y : Str} {p pos : Pos} {xs : List Expr} {es : Es} (hy : isGl X.env.scope y = true) (e : y = G.fname f)
    (args : ∀ K, ∃ dvs ds, ArgsOk Γ G tb F K W X (G.dfl f) es xs dvs ds) : PE X (.Call (.Name y p) xs [] pos) (tG Γ K W (vR Γ) (denE F tb K (.call f es))) := by
  cases hf : tb.fn f with
  | none => exact pe_bad fun ρ st => by simp only [denE, hf]
  | some fd =>
    obtain ⟨a, dat, ps, hm, hk, hb0, hbd, FO⟩ := t.fns f fd hf
    subst e
    obtain ⟨hg, hd, _⟩ := gl_of hy
    have main : ∀ (K : Ct) pins s σ H Q ad st ρ, Inv X pins σ H s → Now Γ K ad st H → EnvR Γ ad H ρ σ → Good Γ K W σ ad H (vR Γ) ((denEs F tb K es ρ st).bind fun xs st => F f K xs st) Q → (fd.leaky = false → ad.length ≤ K.base ∧ ∀ n ∈ K.lk, n < K.base) →
        wpAny (model X.prog X.w) X.A (eval (.Call (.Name (G.fname f) p) xs [] pos) X.env) (EP X pins σ Q) X.xe s := by
      intro K pins s σ H Q ad st ρ I now env g cond
      obtain ⟨dvs, ds, ar⟩ := args K
      have hb : Binds X.K dat ps ds := by
        rcases ar.d with ⟨_, h⟩ | ⟨h1, _, h⟩
        · rw [h]; exact hb0
        · rw [h]; exact hbd h1
      have hv : Vals dvs ds := by
        rcases ar.d with ⟨h, h'⟩ | ⟨_, h, h'⟩
        · rw [h, h']; exact .nil
        · rw [h, h']; exact .cons rfl .nil
      have fin : ∀ {ad1 st1 us vs H1}, Step ad H ad1 H1 → Now Γ K ad1 st1 H1 → Rels Γ.K ad1 H1 us (vs ++ dvs) → Good Γ K W σ ad H (vR Γ) (F f K us st1) Q → spF Γ F f fd.np fd.leaky (vs ++ dvs) H1 Q (WE W σ) := fun {ad1 st1 us vs H1} s1 n1 r1 g1 => by
        refine ⟨?_, ad, H, ad1, st1, us, K, s1, cond, n1, r1, Good.w (fun _ _ _ h => h) g1⟩
        rw [← r1.length]
        by_cases z : us.length = fd.np
        · exact z
        · rw [t.len f fd K us st1 hf z] at g1; exact g1.elim
      cases xs with
      | nil =>
        refine (pe_callD0 (p := p) (pos := pos) (E := WE W) FO c.room hg hm hk hb hv (fun σ => passAt tk σ) hd).run pins s σ H Q I ?_
        obtain ⟨us, h1, h2⟩ := ar.nil rfl
        simp only [h1, Out.bind] at g
        exact fin (vs := []) (Step.refl _ _) now (h2 ad H) g
      | cons x r =>
        refine (pe_callD (p := p) (pos := pos) (E := WE W) FO c.room hg hm hk hb hv (fun σ => passAt tk σ) ar.pa hd ar.star).run pins s σ H Q I ?_
        exact stage0 (val' := vLD Γ dvs) now env g fun ad1 st1 us vs H1 s1 n1 e1 r1 g1 => fin s1 n1 r1 g1
    refine ⟨fun pins s σ H Q I ⟨ad, st, ρ, now, env, g⟩ => ?_⟩
    simp only [denE, hf] at g
    split at g
    · rename_i hl
      exact main K pins s σ H Q ad st ρ I now env g fun z => by rw [hl] at z; cases z
    · exact main (K.sub st) pins s σ H Q ad st ρ I now.sub env (Good.sub now.base g) fun _ => ⟨by rw [now.rep.len]; exact Nat.le_refl _, now.lk⟩
theorem chkIt_shape {N : List Str} {sc : Scope} {it : It} {tg : Tg} {x : Expr} (h : chkIt G N sc it tg x = true) : shapeOk x = true := by
  cases it <;> simp only [chkIt, Bool.false_eq_true] at h
  · exact chkE_shape G N sc _ h
  · split at h <;> first | rfl | cases h
  · split at h <;> first | rfl | cases h
  · simp only [Bool.and_eq_true] at h
    have h := h.2
    split at h <;> first | rfl | cases h
  · simp only [Bool.and_eq_true] at h
    have h := h.2
    split at h <;> first | rfl | cases h
  · simp only [Bool.and_eq_true] at h
    have h := h.2
    split at h <;> first | rfl | cases h
theorem tup_pe {xs : List Expr} {p1 : Nat} {pos : Pos} {es : Es} (h : PA X xs (tG Γ K W (vLD Γ []) (denEs F tb K es))) : PE X (.Tuple xs p1 pos) (tG Γ K W (vR Γ) (denE F tb K (.tup es))) := by
  refine PE.weak (pe_tup h) fun σ H Q ⟨ad, st, ρ, now, env, g⟩ => ?_
  simp only [denE] at g
  refine stage (val' := vLD Γ []) now env g fun ad1 st1 us vs H1 s1 n1 e1 r1 g1 => ?_
  replace r1 : Rels Γ.K ad1 H1 us (vs ++ []) := r1
  rw [List.append_nil] at r1
  split at g1
  · rename_i hz
    exact ⟨by rw [← r1.length]; exact hz, fun p hp => Good.new g1 n1 hp (rr_tup n1 hp r1)⟩
  · exact g1.elim
theorem lst_pe {xs : List Expr} {pos : Pos} {es : Es} (h : PA X xs (tG Γ K W (vLD Γ []) (denEs F tb K es))) : PE X (.List xs pos) (tG Γ K W (vR Γ) (denE F tb K (.lst es))) := by
  refine PE.weak (pe_lst h) fun σ H Q ⟨ad, st, ρ, now, env, g⟩ => ?_
  simp only [denE] at g
  refine stage (val' := vLD Γ []) now env g fun ad1 st1 us vs H1 s1 n1 e1 r1 g1 => ?_
  replace r1 : Rels Γ.K ad1 H1 us (vs ++ []) := r1
  rw [List.append_nil] at r1
  split at g1
  · rename_i hz
    exact ⟨by rw [← r1.length]; exact hz, fun p hp => Good.new g1 n1 hp (rr_new n1 hp r1)⟩
  · exact g1.elim
theorem dnew_pe {b : Bool} {pos : Pos} : PE X (.Dict [] [] pos) (tG Γ K W (vR Γ) (denE F tb K (.dnew b))) := by
  cases b with
  | false =>
    refine PE.weak pe_dnewK fun σ H Q ⟨ad, st, ρ, now, env, g⟩ => ?_
    simp only [denE] at g
    exact fun p hp => Good.new g now hp ⟨⟨p, [], rfl, upd_same, now.rep.out hp, by simp only [Kv]⟩, fun a e => by cases e; exact hp⟩
  | true =>
    refine PE.weak pe_dnewT fun σ H Q ⟨ad, st, ρ, now, env, g⟩ => ?_
    simp only [denE] at g
    exact fun p hp => Good.new g now hp ⟨⟨p, [], rfl, upd_same, now.rep.out hp, by simp only [Kv]⟩, fun a e => by cases e; exact hp⟩
/-- list(range(..)), tuple(range(..)) -/
theorem lofG {t : Bool} {y : Str} {z : Expr} {p pos : Pos} {te : L2.St → Hp → (Int → Int → Hp → Prop) → Prop} {m : Env → St → Out R} (c : CxOk Γ G W n X) (hy : isB G X.env.scope y (if t then "tuple" else "list") = true) (he : PRg X z te) (sz : shapeOk z = true)
    (i : ∀ σ H Q, tG Γ K W (vR Γ) m σ H Q → te σ H fun a b H1 => ∃ ad st, Now Γ K ad st H1 ∧ Good Γ K W σ ad H1 (vR Γ) (if -(2 ^ 62) ≤ a ∧ a < 2 ^ 62 ∧ -(2 ^ 62) ≤ b ∧ b < 2 ^ 62 ∧ (b - a).toNat ≤ 16777216 then (if t then okR (.tup ((List.range (b - a).toNat).map fun (i : Nat) => D.int (a + i))) st else .ok (.fl ((List.range (b - a).toNat).map fun (i : Nat) => D.int (a + i))) st) else .bad) Q)
    (mono : ∀ σ H (P P' : Int → Int → Hp → Prop), (∀ a b H, P a b H → P' a b H) → te σ H P → te σ H P') :
    PE X (.Call (.Name y p) [z] [] pos) (tG Γ K W (vR Γ) m) := by
  have rr : ∀ {ad : List Addr} {H : Hp} (a b : Int), Rels Γ.K ad H ((List.range (b - a).toNat).map fun (i : Nat) => D.int (a + i)) (rgV a b) := fun {ad H} a b => by
    have : ∀ l : List Nat, Rels Γ.K ad H (l.map fun (i : Nat) => D.int (a + i)) (l.map fun i => V.int (a + (i : Nat))) := fun l => by
      induction l with
      | nil => simp [Rels]
      | cons x r ih => simp only [List.map_cons, Rels]; exact ⟨_, _, rfl, by simp only [Rel], ih⟩
    exact this _
  cases t with
  | false =>
    obtain ⟨rfl, h1, h2, h3, h4⟩ := isB_of (s := "list") hy
    refine PE.weak (pe_listRg c.calm h1 (c.blt _ h4) he (shape_one sz)) fun σ H Q hq => mono σ H _ _ (fun a b H1 ⟨ad, st, n, g⟩ => ?_) (i σ H Q hq)
    split at g
    · rename_i hz
      exact ⟨hz, fun q hq => Good.new g n hq (rr_new n hq (rr a b))⟩
    · exact g.elim
  | true =>
    obtain ⟨rfl, h1, h2, h3, h4⟩ := isB_of (s := "tuple") hy
    refine PE.weak (pe_tupRg c.calm h1 (c.blt _ h4) he (shape_one sz)) fun σ H Q hq => mono σ H _ _ (fun a b H1 ⟨ad, st, n, g⟩ => ?_) (i σ H Q hq)
    split at g
    · rename_i hz
      exact ⟨hz, fun q hq => Good.new g n hq (rr_tup n hq (rr a b))⟩
    · exact g.elim
theorem Good.mono {α β : Type} {val : Val α β} {o : Out α} {Q Q' : β → Hp → Prop} (h : ∀ v H, Q v H → Q' v H) (g : Good Γ K W σ ad H val o Q) : Good Γ K W σ ad H val o Q' := Good.imp g h
theorem tG_mono {α β : Type} {val : Val α β} {m : Env → St → Out α} {Q Q' : β → Hp → Prop} (h : ∀ v H, Q v H → Q' v H) (g : tG Γ K W val m σ H Q) : tG Γ K W val m σ H Q' :=
  let ⟨ad, st, ρ, n, e, g⟩ := g; ⟨ad, st, ρ, n, e, Good.imp g h⟩
mutual
theorem soundE : ∀ (e : E) {K : Ct} {W : WX} {X : Cx} {x : Expr}, CxOk Γ G W n X → TbK Γ G tb F n X → Takes X W → chkE G X.N X.env.scope e x = true → Snd Γ tb F K W X e x
  | .var i, K, W, X, x, c, t, tk, h => by
    simp only [chkE] at h
    split at h
    · exact Snd.plain c (var_pe h) rfl fun K => by funext ρ st; simp only [denT, dTruth]
    · cases h
  | .lit d, K, W, X, x, c, t, tk, h => by
    simp only [chkE] at h
    exact Snd.plain c (lit_pe h) (by unfold litOk at h; split at h <;> first | rfl | cases h) fun K => by funext ρ st; simp only [denT, dTruth]
  | .con g, K, W, X, x, c, t, tk, h => by
    simp only [chkE] at h
    split at h
    · simp only [Bool.and_eq_true, decide_eq_true_eq] at h
      exact Snd.plain c (con_pe c t.toTbOk h.1 h.2) rfl fun K => by funext ρ st; simp only [denT, dTruth]
    · cases h
  | .p1 f a, K, W, X, x, c, t, tk, h => by
    simp only [chkE, Bool.and_eq_true] at h
    exact p1_snd c h.1 (fun y hy => ⟨soundE a c t tk hy, chkE_shape G X.N X.env.scope a hy⟩) h.2
  | .p2 f a b, K, W, X, x, c, t, tk, h => by
    simp only [chkE, Bool.and_eq_true] at h
    exact p2_snd c h.1 (fun y hy => ⟨soundE a c t tk hy, chkE_shape G X.N X.env.scope a hy⟩) (fun y hy => ⟨soundE b c t tk hy, chkE_shape G X.N X.env.scope b hy⟩) h.2
  | .p3 f a b d, K, W, X, x, c, t, tk, h => by
    simp only [chkE, Bool.and_eq_true] at h
    exact p3_snd c h.1 (fun y hy => ⟨soundE a c t tk hy, chkE_shape G X.N X.env.scope a hy⟩) (fun y hy => ⟨soundE b c t tk hy, chkE_shape G X.N X.env.scope b hy⟩) (fun y hy => ⟨soundE d c t tk hy, chkE_shape G X.N X.env.scope d hy⟩) h.2
  | .chain f g a b d, K, W, X, x, c, t, tk, h => by
    simp only [chkE] at h
    split at h
    · simp only [Bool.and_eq_true, decide_eq_true_eq] at h
      obtain ⟨⟨⟨⟨h1, h2⟩, h3⟩, h4⟩, h5⟩ := h
      exact chain_snd c h1 h2 (soundE a c t tk h3) (soundE b c t tk h4) (soundE d c t tk h5) (chkE_shape G X.N X.env.scope b h4) (chkE_shape G X.N X.env.scope d h5)
    · cases h
  | .tup es, K, W, X, x, c, t, tk, h => by
    simp only [chkE] at h
    split at h
    · exact Snd.plain c (tup_pe (soundEs es c t tk h)) rfl fun K => by funext ρ st; simp only [denT, dTruth]
    · cases h
  | .lst es, K, W, X, x, c, t, tk, h => by
    simp only [chkE] at h
    split at h
    · exact Snd.plain c (lst_pe (soundEs es c t tk h)) rfl fun K => by funext ρ st; simp only [denT, dTruth]
    · cases h
  | .dnew b, K, W, X, x, c, t, tk, h => by
    simp only [chkE] at h
    split at h
    · exact Snd.plain c dnew_pe rfl fun K => by funext ρ st; simp only [denT, dTruth]
    · cases h
  | .slc a lo hi, K, W, X, x, c, t, tk, h => by
    simp only [chkE] at h
    split at h
    · simp only [Bool.and_eq_true] at h
      refine Snd.plain c ?_ rfl fun K => by funext ρ st; simp only [denT, dTruth]
      exact PE.weak (slc_pe (K := K) c (soundE a c t tk h.1.1).pe (soundEo lo c t tk h.1.2) (soundEo hi c t tk h.2)) fun σ H Q ⟨ad, st, ρ, now, env, g⟩ => ⟨ad, st, ρ, now, env, by simp only [denE] at g; exact g⟩
    · cases h
  | .one a, K, W, X, x, c, t, tk, h => by
    simp only [chkE] at h
    split at h
    · exact one_snd (soundE a c t tk h)
    · cases h
  | .and a b, K, W, X, x, c, t, tk, h => by
    simp only [chkE] at h
    split at h
    · simp only [Bool.and_eq_true] at h
      exact and_snd (soundE a c t tk h.1) (soundE b c t tk h.2)
    · cases h
  | .or a b, K, W, X, x, c, t, tk, h => by
    simp only [chkE] at h
    split at h
    · simp only [Bool.and_eq_true] at h
      exact or_snd (soundE a c t tk h.1) (soundE b c t tk h.2)
    · cases h
  | .not a, K, W, X, x, c, t, tk, h => by
    simp only [chkE] at h
    split at h
    · exact not_snd (soundE a c t tk h)
    · cases h
  | .ife u a b, K, W, X, x, c, t, tk, h => by
    simp only [chkE] at h
    split at h
    · simp only [Bool.and_eq_true] at h
      exact ife_snd (soundE u c t tk h.1.1) (soundE a c t tk h.1.2) (soundE b c t tk h.2)
    · cases h
  | .call f es, K, W, X, x, c, t, tk, h => by
    simp only [chkE] at h
    split at h
    · simp only [Bool.and_eq_true, decide_eq_true_eq] at h
      exact Snd.plain c (call_pe c t tk h.1.1.2 h.1.2 fun K => soundArgs es c t tk h.2) rfl fun K => by funext ρ st; simp only [denT, dTruth]
    · cases h
  | .meth _ _ _, K, W, X, x, c, t, tk, h => by simp only [chkE] at h; cases h
  | .make _ _, K, W, X, x, c, t, tk, h => by simp only [chkE] at h; cases h
  | .fld _ _, K, W, X, x, c, t, tk, h => by simp only [chkE] at h; cases h
  | .lc e tg it cd, K, W, X, x, c, t, tk, h => by
    unfold chkE at h
    split at h
    · rename_i y u i cs cscope pos
      simp only [Bool.and_eq_true, decide_eq_true_eq] at h
      obtain ⟨⟨⟨⟨⟨⟨h1, h2⟩, h3⟩, h4⟩, h5⟩, h6⟩, h7⟩ := h
      refine Snd.plain c ?_ rfl fun K => by funext ρ st; simp only [denT, dTruth]
      have cb : ∀ (s : Shared) (H : Hp) (C : Addr) (cl : List (Str × Addr)) (fp : List Addr), CxOk Γ G W0 n (X.blk s H cscope (compEnvC cscope cl C X.env) fp) := fun _ _ _ _ _ => ⟨c.K, c.nd, c.calm, c.room, c.blt⟩
      have tb' : ∀ (s : Shared) (H : Hp) (C : Addr) (cl : List (Str × Addr)) (fp : List Addr), TbK Γ G tb F n (X.blk s H cscope (compEnvC cscope cl C X.env) fp) := fun _ _ _ _ _ => ⟨⟨t.fns, t.cons⟩, t.len⟩
      have q := pe_lcD (K := K) (dC := denC F tb K cd) (dE := denE F tb K e) (pos := pos) (ifs := cs) c (soundIt it c t tk ⟨_, h3⟩ h1) h2 h5 h3 (fun s H C cl fp => ?_) (fun s H C cl fp => (soundE e (cb s H C cl fp) (tb' s H C cl fp) takes0 h7).pe) (shape_fold (chkIt_shape h1))
      · exact PE.weak q fun σ H Q ⟨ad, st, ρ, now, env, g⟩ => ⟨ad, st, ρ, now, env, by simp only [denE] at g; exact g⟩
      · split at h6
        · cases cd with
          | no =>
            refine ⟨fun pins s σ H Q I ⟨ad, st, ρ, now, env, g⟩ => pts_nil.run pins s σ H Q I ?_⟩
            simp only [denC] at g
            exact Good.now g now rfl
          | yes w => simp at h6
        · cases cd with
          | no => simp at h6
          | yes w =>
            have q2 := pts_one (soundE w (K := K) (cb s H C cl fp) (tb' s H C cl fp) takes0 h6).pt
            have e1 : denC F tb K (.yes w) = denT F tb K w := by funext ρ st; simp only [denC]
            rw [e1]
            exact q2
        · cases h6
    · cases h
  | .lof u it, K, W, X, x, c, t, tk, h => by
    unfold chkE at h
    split at h
    · rename_i y p z pos
      simp only [Bool.and_eq_true] at h
      obtain ⟨⟨h1, h2⟩, h3⟩ := h
      refine Snd.plain c ?_ rfl fun K => by funext ρ st; simp only [denT, dTruth]
      cases it with
      | range1 a =>
        have sz := chkIt_shape h3
        simp only [chkIt] at h3
        split at h3
        · simp only [Bool.and_eq_true] at h3
          obtain ⟨rfl, k1, k2, k3, k4⟩ := isB_of h3.1
          refine lofG c h1 (prg_1 k1 (c.blt _ k4) (soundE a (K := K) c t tk h3.2).pe (shape_one (chkE_shape G X.N X.env.scope a h3.2))) sz (fun σ H Q ⟨ad, st, ρ, now, env, g⟩ => ?_) (fun σ H P P' hp hq => ?_)
          · simp only [denE, denIt] at g
            replace g : Good Γ K W σ ad H (vR Γ) ((denE F tb K a ρ st).bind fun r st => ((match r with
              | .d (.int n) => if -(2 ^ 62) ≤ n ∧ n < 2 ^ 62 then .ok ((List.range n.toNat).map fun (i : Nat) => D.int i, none) st else .bad
              | _ => .bad : Out (List D × Option (Nat × List D)))).bind fun ig st => (match ig.2 with
                | none => if ig.1.length ≤ 16777216 then (if u then okR (.tup ig.1) st else .ok (.fl ig.1) st) else .bad
                | some _ => .bad)) Q := by rw [← bind_assoc']; exact g
            refine stage (val' := vR Γ) now env g fun ad1 st1 r v H1 s1 n1 e1 r1 g1 => ?_
            split at g1
            · rename_i k
              refine ⟨k, rel_int r1.1, ad1, st1, n1, ?_⟩
              split at g1
              · rename_i hk
                simp only [Out.bind, List.length_map, List.length_range] at g1
                split at g1
                · rename_i hl
                  rw [if_pos ⟨by omega, by omega, hk.1, hk.2, by simpa using hl⟩]
                  simpa using g1
                · exact g1.elim
              · exact g1.elim
            · exact g1.elim
          · exact tG_mono (fun v H ⟨k, e, q⟩ => ⟨k, e, hp _ _ _ q⟩) hq
        · cases h3
      | range2 a b =>
        have sz := chkIt_shape h3
        simp only [chkIt] at h3
        split at h3
        · simp only [Bool.and_eq_true] at h3
          obtain ⟨⟨h0, ha⟩, hb⟩ := h3
          obtain ⟨rfl, k1, k2, k3, k4⟩ := isB_of h0
          have sa := chkE_shape G X.N X.env.scope a ha
          have sb := chkE_shape G X.N X.env.scope b hb
          refine lofG c h1 (prg_2 k1 (c.blt _ k4) (soundE a (K := K) c t tk ha).pe (soundE b (K := K) c t tk hb).pe (by rw [star1 (shape_star sa)]) (shape_one sb) (star_any (by simp [shape_star sb]))) sz (fun σ H Q ⟨ad, st, ρ, now, env, g⟩ => ?_) (fun σ H P P' hp hq => ?_)
          · simp only [denE, denIt] at g
            replace g : Good Γ K W σ ad H (vR Γ) ((denE F tb K a ρ st).bind fun r st => (denE F tb K b ρ st).bind fun q st => ((match r, q with
              | .d (.int m), .d (.int n) => if -(2 ^ 62) ≤ m ∧ m < 2 ^ 62 ∧ -(2 ^ 62) ≤ n ∧ n < 2 ^ 62 then .ok ((List.range (n - m).toNat).map fun (i : Nat) => D.int (m + i), none) st else .bad
              | _, _ => .bad : Out (List D × Option (Nat × List D)))).bind fun ig st => (match ig.2 with
                | none => if ig.1.length ≤ 16777216 then (if u then okR (.tup ig.1) st else .ok (.fl ig.1) st) else .bad
                | some _ => .bad)) Q := by rw [show (fun (r : R) (st : St) => _) = _ from funext fun r => funext fun st => (bind_assoc' ..).symm, ← bind_assoc']; exact g
            refine two' now env g fun {ad st H x y v w} n1 r1 r2 g1 => ?_
            split at g1
            · rename_i i j
              cases rel_int r1; cases rel_int r2
              refine ⟨i, j, rfl, rfl, ad, st, n1, ?_⟩
              split at g1
              · rename_i hk
                simp only [Out.bind, List.length_map, List.length_range] at g1
                split at g1
                · rename_i hl
                  rw [if_pos ⟨hk.1, hk.2.1, hk.2.2.1, hk.2.2.2, hl⟩]
                  exact g1
                · exact g1.elim
              · exact g1.elim
            · exact g1.elim
          · exact tG_mono (fun v H q => tG_mono (fun w H ⟨i, j, e1, e2, q⟩ => ⟨i, j, e1, e2, hp _ _ _ q⟩) q) hq
        · cases h3
      | _ => simp at h2
    · cases h
  | .dsp _, K, W, X, x, c, t, tk, h => by simp only [chkE] at h; cases h
  | .cget g k, K, W, X, x, c, t, tk, h => by
    simp only [chkE] at h
    split at h
    · rename_i y p1 z p2
      simp only [Bool.and_eq_true, decide_eq_true_eq] at h
      obtain ⟨⟨h1, h2⟩, h3⟩ := h
      refine Snd.plain c ?_ rfl fun K => by funext ρ st; simp only [denT, dTruth]
      have q := t.cons g y h2
      obtain ⟨hg, hd, _⟩ := gl_of h1
      cases e : tb.con g with
      | frz ds =>
        rw [e] at q
        obtain ⟨a, m1, m2⟩ := q
        refine PE.weak (pe_ix ix_kdict (pe_glob hg m1 (show RelV (.ref a) (.ref a) from rfl) hd) (soundE k (K := K) c t tk h3).pe (shape_ix (chkE_shape G X.N X.env.scope k h3))) fun σ H Q ⟨ad, st, ρ, now, env, g⟩ => ?_
        simp only [denE, e] at g
        show tG Γ K W (vR Γ) (denE F tb K k) σ H _
        refine stage (val' := vR Γ) now env g fun ad1 st1 r v H1 s1 n1 e1 r1 g1 => ?_
        split at g1
        · rename_i z
          split at g1
          · rename_i u hu
            cases rel_str r1.1
            exact ⟨a, z, .str u, rfl, rfl, m2 z u hu, Good.d g1 n1 d_str⟩
          · exact g1.elim
        · exact g1.elim
      | _ => exact pe_bad fun ρ st => by simp only [denE, e]
    · cases h
  | .fz a, K, W, X, x, c, t, tk, h => by
    simp only [chkE, Bool.and_eq_true] at h
    refine Snd.plain c ?_ (by obtain ⟨⟨h, _⟩, _⟩ := h; split at h <;> first | rfl | cases h) fun K => by funext ρ st; simp only [denT, dTruth]
    refine PE.weak (fz_pe (soundE a (K := K) c t tk h.2).pe) fun σ H Q ⟨ad, st, ρ, now, env, g⟩ => ⟨ad, st, ρ, now, env, by simp only [denE] at g; exact g⟩
  | .pt a, K, W, X, x, c, t, tk, h => by
    simp only [chkE] at h
    split at h
    · rename_i y p1 z p2
      simp only [Bool.and_eq_true] at h
      refine Snd.plain c ?_ rfl fun K => by funext ρ st; simp only [denT, dTruth]
      refine PE.weak (pt_pe c h.1 (soundE a (K := K) c t tk h.2).pe (chkE_shape G X.N X.env.scope a h.2)) fun σ H Q ⟨ad, st, ρ, now, env, g⟩ => ⟨ad, st, ρ, now, env, by simp only [denE] at g; exact g⟩
    · cases h
  | .dt a, K, W, X, x, c, t, tk, h => by
    simp only [chkE] at h
    split at h
    · rename_i y p1 z p2
      simp only [Bool.and_eq_true] at h
      refine Snd.plain c ?_ rfl fun K => by funext ρ st; simp only [denT, dTruth]
      refine PE.weak (dt_pe c h.1 (soundE a (K := K) c t tk h.2).pe (chkE_shape G X.N X.env.scope a h.2)) fun σ H Q ⟨ad, st, ρ, now, env, g⟩ => ⟨ad, st, ρ, now, env, by simp only [denE] at g; exact g⟩
    · cases h
theorem soundEs : ∀ (es : Es) {K : Ct} {W : WX} {X : Cx} {xs : List Expr}, CxOk Γ G W n X → TbK Γ G tb F n X → Takes X W → chkEs G X.N X.env.scope es xs = true → PA X xs (tG Γ K W (vLD Γ []) (denEs F tb K es))
  | .nil, K, W, X, xs, c, t, tk, h => by
    simp only [chkEs] at h
    split at h
    · have e1 : denEs F tb K .nil = fun ρ st => .ok [] st := by funext ρ st; simp only [denEs]
      rw [e1]
      exact pa_nilD fun ad H => by simp only [Rels]
    · cases h
  | .cons e es, K, W, X, xs, c, t, tk, h => by
    simp only [chkEs] at h
    split at h
    · simp only [Bool.and_eq_true] at h
      have q := pa_consD (soundE e (K := K) c t tk h.1).pe (soundEs es c t tk h.2) (chkE_shape G X.N X.env.scope e h.1)
      have e1 : denEs F tb K (.cons e es) = fun ρ st => (denE F tb K e ρ st).bind fun r st => match r.toD st with | some (x, st) => (denEs F tb K es ρ st).bind fun xs st2 => .ok (x :: xs) st2 | none => .bad := by funext ρ st; simp only [denEs] <;> rfl
      rw [e1]
      exact q
    · cases h
theorem soundArgs : ∀ (es : Es) {d : Bool} {K : Ct} {W : WX} {X : Cx} {xs : List Expr}, CxOk Γ G W n X → TbK Γ G tb F n X → Takes X W → chkArgs G X.N X.env.scope d es xs = true → ∃ dvs ds, ArgsOk Γ G tb F K W X d es xs dvs ds
  | .nil, d, K, W, X, xs, c, t, tk, h => by
    simp only [chkArgs] at h
    split at h
    · have e1 : denEs F tb K .nil = fun ρ st => .ok [] st := by funext ρ st; simp only [denEs]
      exact ⟨[], [], .inl ⟨rfl, rfl⟩, by rw [e1]; exact pa_nilD fun ad H => by simp only [Rels], fun _ => ⟨[], fun ρ st => by rw [e1], fun ad H => by simp only [Rels]⟩, rfl⟩
    · cases h
  | .cons e es, d, K, W, X, xs, c, t, tk, h => by
    unfold chkArgs at h
    cases xs with
    | cons x r =>
      simp only [Bool.and_eq_true] at h
      obtain ⟨dvs, ds, ar⟩ := soundArgs es (K := K) c t tk h.2
      have q := pa_consD (soundE e (K := K) c t tk h.1).pe ar.pa (chkE_shape G X.N X.env.scope e h.1)
      have e1 : denEs F tb K (.cons e es) = fun ρ st => (denE F tb K e ρ st).bind fun r st => match r.toD st with | some (x, st) => (denEs F tb K es ρ st).bind fun xs st2 => .ok (x :: xs) st2 | none => .bad := by funext ρ st; simp only [denEs] <;> rfl
      exact ⟨dvs, ds, ar.d, by rw [e1]; exact q, fun z => (by cases z), by simp only [List.all_cons, Bool.and_eq_true]; exact ⟨shape_star (chkE_shape G X.N X.env.scope e h.1), ar.star⟩⟩
    | nil =>
      simp only [Bool.and_eq_true] at h
      obtain ⟨h1, h2⟩ := h
      split at h2
      · have e1 : denEs F tb K (.cons (.lit .non) .nil) = fun ρ st => .ok [.non] st := by funext ρ st; simp only [denEs, denE, okR, Out.bind, R.toD]
        have rr : ∀ ad H, Rels Γ.K ad H [.non] [.non] := fun ad H => by simp only [Rels, Rel]; exact ⟨.non, [], rfl, rfl, rfl⟩
        exact ⟨[.non], [.none], .inr ⟨h1, rfl, rfl⟩, by rw [e1]; exact pa_nilD rr, fun _ => ⟨[.non], fun ρ st => by rw [e1], rr⟩, rfl⟩
      · cases h2
theorem soundEo : ∀ (o : Eo) {K : Ct} {W : WX} {X : Cx} {x : Option Expr}, CxOk Γ G W n X → TbK Γ G tb F n X → Takes X W → chkEo G X.N X.env.scope o x = true → PO X x (tG Γ K W vO (denEo F tb K o))
  | .no, K, W, X, x, c, t, tk, h => by
    simp only [chkEo] at h
    split at h
    · refine PO.weak po_none fun σ H Q ⟨ad, st, ρ, now, env, g⟩ => ?_
      simp only [denEo] at g
      exact Good.now g now rfl
    · cases h
  | .yes e, K, W, X, x, c, t, tk, h => by
    simp only [chkEo] at h
    split at h
    · refine PO.weak (po_some (soundE e (K := K) c t tk h).pe) fun σ H Q ⟨ad, st, ρ, now, env, g⟩ => ?_
      simp only [denEo] at g
      refine stage (val' := vR Γ) now env g fun ad1 st1 x v H1 s1 n1 e1 r1 g1 => ?_
      split at g1
      · exact ⟨_, rel_int r1.1, Good.now g1 n1 rfl⟩
      · exact g1.elim
    · cases h
theorem soundIt : ∀ (it : It) {tg : Tg} {tge : Expr} {K : Ct} {W : WX} {X : Cx} {x : Expr}, CxOk Γ G W n X → TbK Γ G tb F n X → Takes X W → (∃ sc, chkTg X.N sc tg tge = true) → chkIt G X.N X.env.scope it tg x = true → PI X tge x (tG Γ K W (vI Γ K) (denIt F tb K it))
  | .seq e, tg, tge, K, W, X, x, c, t, tk, htg, h => by
    simp only [chkIt] at h
    have e1 : denIt F tb K (.seq e) = fun ρ st => (denE F tb K e ρ st).bind fun r st => (match r.items st with | some xs => .ok (xs, guardOf r xs) st | none => .bad) := by funext ρ st; simp only [denIt] <;> rfl
    rw [e1]
    exact pi_seqD c (soundE e c t tk h).pe
  | .range1 a, tg, tge, K, W, X, x, c, t, tk, htg, h => by
    simp only [chkIt] at h
    split at h
    · simp only [Bool.and_eq_true] at h
      obtain ⟨rfl, h1, h2, h3, h4⟩ := isB_of h.1
      have e1 : denIt F tb K (.range1 a) = fun ρ st => (denE F tb K a ρ st).bind fun r st => (match r with
        | .d (.int n) => if -(2 ^ 62) ≤ n ∧ n < 2 ^ 62 then .ok ((List.range n.toNat).map fun (i : Nat) => D.int i, none) st else .bad
        | _ => .bad) := by funext ρ st; simp only [denIt] <;> rfl
      rw [e1]
      exact pi_range1D h1 (c.blt _ h4) (soundE a c t tk h.2).pe (chkE_shape G X.N X.env.scope a h.2)
    · cases h
  | .range2 a b, tg, tge, K, W, X, x, c, t, tk, htg, h => by
    simp only [chkIt] at h
    split at h
    · simp only [Bool.and_eq_true] at h
      obtain ⟨⟨h0, ha⟩, hb⟩ := h
      obtain ⟨rfl, h1, h2, h3, h4⟩ := isB_of h0
      have e1 : denIt F tb K (.range2 a b) = fun ρ st => (denE F tb K a ρ st).bind fun r st => (denE F tb K b ρ st).bind fun q st => (match r, q with
        | .d (.int m), .d (.int n) => if -(2 ^ 62) ≤ m ∧ m < 2 ^ 62 ∧ -(2 ^ 62) ≤ n ∧ n < 2 ^ 62 then .ok ((List.range (n - m).toNat).map fun (i : Nat) => D.int (m + i), none) st else .bad
        | _, _ => .bad) := by funext ρ st; simp only [denIt] <;> rfl
      rw [e1]
      exact pi_range2D h1 (c.blt _ h4) (soundE a c t tk ha).pe (soundE b c t tk hb).pe (chkE_shape G X.N X.env.scope a ha) (chkE_shape G X.N X.env.scope b hb)
    · cases h
  | .enum a, tg, tge, K, W, X, x, c, t, tk, htg, h => by
    simp only [chkIt, Bool.and_eq_true] at h
    obtain ⟨h0, h⟩ := h
    split at h0
    · obtain ⟨sc, hg⟩ := htg
      unfold chkTg at hg
      split at hg
      · rename_i z; cases z
      · rename_i is es k pos z
        split at h
        · simp only [Bool.and_eq_true] at h
          obtain ⟨h1, ha⟩ := h
          obtain ⟨rfl, k1, k2, k3, k4⟩ := isB_of h1
          refine PI.weak (pi_enumD c k1 (c.blt _ k4) (soundE a (K := K) c t tk ha).pe (chkE_shape G X.N X.env.scope a ha)) fun σ H Q ⟨ad, st, ρ, now, env, g⟩ => ⟨ad, st, ρ, now, env, ?_⟩
          simp only [denIt] at g
          exact g
        · cases h
      · cases hg
    · cases h0
  | .zip a b, tg, tge, K, W, X, x, c, t, tk, htg, h => by
    simp only [chkIt, Bool.and_eq_true] at h
    obtain ⟨h0, h⟩ := h
    split at h0
    · obtain ⟨sc, hg⟩ := htg
      unfold chkTg at hg
      split at hg
      · rename_i z; cases z
      · rename_i is es k pos z
        split at h
        · simp only [Bool.and_eq_true] at h
          obtain ⟨⟨h1, ha⟩, hb⟩ := h
          obtain ⟨rfl, k1, k2, k3, k4⟩ := isB_of h1
          refine PI.weak (pi_zipD c k1 (c.blt _ k4) (soundE a (K := K) c t tk ha).pe (soundE b (K := K) c t tk hb).pe (chkE_shape G X.N X.env.scope a ha) (chkE_shape G X.N X.env.scope b hb)) fun σ H Q ⟨ad, st, ρ, now, env, g⟩ => ⟨ad, st, ρ, now, env, ?_⟩
          simp only [denIt] at g
          exact g
        · cases h
      · cases hg
    · cases h0
  | .zipS a b, tg, tge, K, W, X, x, c, t, tk, htg, h => by
    simp only [chkIt, Bool.and_eq_true] at h
    obtain ⟨h0, h⟩ := h
    split at h0
    · obtain ⟨sc, hg⟩ := htg
      unfold chkTg at hg
      split at hg
      · rename_i z; cases z
      · rename_i is es k pos z
        split at h
        · simp only [Bool.and_eq_true] at h
          obtain ⟨⟨h1, ha⟩, hb⟩ := h
          obtain ⟨rfl, k1, k2, k3, k4⟩ := isB_of h1
          refine PI.weak (pi_zipSD c k1 (c.blt _ k4) (soundE a (K := K) c t tk ha).pe (soundE b (K := K) c t tk hb).pe (chkE_shape G X.N X.env.scope a ha) (chkE_shape G X.N X.env.scope b hb)) fun σ H Q ⟨ad, st, ρ, now, env, g⟩ => ⟨ad, st, ρ, now, env, ?_⟩
          simp only [denIt] at g
          exact g
        · cases h
      · cases hg
    · cases h0
  | .rev _, tg, tge, K, W, X, x, c, t, tk, htg, h => by simp only [chkIt] at h; cases h
  | .str _, tg, tge, K, W, X, x, c, t, tk, htg, h => by simp only [chkIt] at h; cases h
  | .keys _, tg, tge, K, W, X, x, c, t, tk, htg, h => by simp only [chkIt] at h; cases h
end
end
end L3
/-! L3T: statements -/
namespace L3
open PySem L2 PySem.Spec PyProof.Rows

def isComp : Expr → Bool
  | .ListComp _ _ _ _ => true
  | .SetComp _ _ _ _ => true
  | .DictComp _ _ _ _ _ => true
  | _ => false
/-- a store whose order is the usual one, or a list made in place of its name -/
def asgOk (sc : Scope) (t v : Expr) : Bool :=
  match v with
  | .ListComp _ _ cs vpos => (match t with
    | .Name y py => if py.line == vpos.line then decide (sc.names.lookup y = some .cell) || decide (sc.names.lookup y = some .local) && !(cs.names.any fun (n, k) => n == y && (k == .local || k == .cell)) else true
    | .Tuple _ _ _ => true
    | _ => false)
  | .SetComp _ _ _ _ => false
  | .DictComp _ _ _ _ _ => false
  | .Tuple _ _ _ => (match t with | .Name _ _ => true | .Subscript _ _ _ => true | .Attribute _ _ _ => true | _ => false)
  | _ => true
def parOk (sc : Scope) (x y : Str) (px py : Pos) (a b : Expr) : Bool :=
  decide (sc.names.lookup x = some .local) && decide (sc.names.lookup y = some .local) && (py.line == px.line) && decide (x ≠ y) && !([a, b].all (foldedForSure 8)) && !([a, b].all (constantsAlone 8))
mutual
def chkS (G : Nm) (N : List Str) (sc : Scope) (s : S) (x : Stmt) : Bool :=
  match s with
  | .pass => (match x with | .Pass _ => true | _ => false)
  | .doc => (match x with | .Expr (.Constant (.str _) _ _) _ => true | _ => false)
  | .expr e => (match x with | .Expr y _ => chkE G N sc e y && !isComp y | _ => false)
  | .ret e => (match x with | .Return (some y) _ => chkE G N sc e y | _ => false)
  | .retN => (match x with | .Return none _ => true | _ => false)
  | .asg tg e => (match x with | .Assign [t] v _ => chkTg N sc tg t && chkE G N sc e v && asgOk sc t v | _ => false)
  | .par i j a b => (match x with
    | .Assign [.Tuple [.Name y py, .Name z pz] _ _] (.Tuple [v, w] _ _) _ => decide (N[i]? = some y) && decide (N[j]? = some z) && parOk sc y z py pz v w && chkE G N sc a v && chkE G N sc b w
    | _ => false)
  | .aug i f e => (match x with
    | .AugAssign (.Name y _) op v _ => decide (N[i]? = some y) && (match sc.names.lookup y with | some .local => true | some .cell => true | _ => false) && decide (p2op f = some op) && decide (f = .add ∨ f = .sub) && chkE G N sc e v
    | _ => false)
  | .setix o i v => (match x with | .Assign [.Subscript y z _] w _ => chkE G N sc o y && chkE G N sc i z && chkE G N sc v w && !isComp w | _ => false)
  | .setfld _ _ _ => false
  | .augfld _ _ _ _ => false
  | .augix _ _ _ _ => false
  | .iff t a b => (match x with | .If y p q _ => chkE G N sc t y && chkSs G N sc a p && chkSs G N sc b q | _ => false)
  | .whl t b => (match x with | .While y p [] _ => chkE G N sc t y && chkSs G N sc b p | _ => false)
  | .forr tg it b => (match x with | .For t y p [] _ => chkTg N sc tg t && chkIt G N sc it tg y && chkSs G N sc b p | _ => false)
  | .raise _ _ => false
def chkSs (G : Nm) (N : List Str) (sc : Scope) (ss : Ss) (xs : List Stmt) : Bool :=
  match ss with
  | .nil => (match xs with | [] => true | _ => false)
  | .cons s ss => (match xs with | x :: r => chkS G N sc s x && chkSs G N sc ss r | [] => false)
end
def GoodS (Γ : Gam) (K : Ct) (W : WX) (ad : List Addr) (H : Hp) (f : Fl) (D : Ends) : Prop :=
  match f with
  | .nx ρ' st' => ∀ ad' H' σ', Step ad H ad' H' → Now Γ K ad' st' H' → EnvR Γ ad' H' ρ' σ' → D.nx σ' H'
  | .rt r st' => ∀ ad' H' v, Step ad H ad' H' → Now Γ K ad' st' H' → (vR Γ).p H ad' H' r v → D.rt v H'
  | .bk ρ' st' => ∀ ad' H' σ', Step ad H ad' H' → Now Γ K ad' st' H' → EnvR Γ ad' H' ρ' σ' → D.bk σ' H'
  | .ct ρ' st' => ∀ ad' H' σ', Step ad H ad' H' → Now Γ K ad' st' H' → EnvR Γ ad' H' ρ' σ' → D.ct σ' H'
  | .er x ρ' st' => ∀ ad' H' c d σ', Step ad H ad' H' → Now Γ K ad' st' H' → ExcR Γ ad' H' x c d → EnvR Γ ad' H' ρ' σ' → W c d σ' H'
  | .bad => False
def tS (Γ : Gam) (K : Ct) (W : WX) (m : Env → St → Fl) : TS := fun D σ H => ∃ ad st ρ, Now Γ K ad st H ∧ EnvR Γ ad H ρ σ ∧ GoodS Γ K W ad H (m ρ st) D
/-- the context of statements -/
structure SxOk (Γ : Gam) (G : Nm) (W : WX) (n : Nat) (X : Cx) : Prop extends CxOk Γ G W n X where
  own : PassesOwn (model X.prog X.w) X.A X.env X.xe
  fn : ∀ x, X.fn x = true
  kd : X.env.scope.kind = .function
section
variable {Γ : Gam} {G : Nm} {tb : Tb} {F : Calls} {K : Ct} {W : WX} {n m : Nat} {X : Cx} {σ : L2.St} {ad ad1 : List Addr} {H H1 : Hp} {st : St} {ρ : Env} {De : Ends}
theorem GoodS.later {f : Fl} (s : Step ad H ad1 H1) (g : GoodS Γ K W ad H f De) : GoodS Γ K W ad1 H1 f De := by
  cases f with
  | nx ρ' st' => exact fun ad' H' v s' n' q => g ad' H' v (s.trans s') n' q
  | rt r st' => exact fun ad' H' v s' n' q => g ad' H' v (s.trans s') n' ((vR Γ).later s.some q)
  | bk ρ' st' => exact fun ad' H' v s' n' q => g ad' H' v (s.trans s') n' q
  | ct ρ' st' => exact fun ad' H' v s' n' q => g ad' H' v (s.trans s') n' q
  | er x ρ' st' => exact fun ad' H' c d σ' s' n' q e => g ad' H' c d σ' (s.trans s') n' q e
  | bad => exact g
theorem PS.weak {x : Stmt} {t t' : TS} (h : PS X x t) (i : ∀ D σ H, t' D σ H → t D σ H) : PS X x t' := ⟨fun pins s σ H D I q => h.run pins s σ H D I (i D σ H q)⟩
theorem PSs.weak {x : List Stmt} {t t' : TS} (h : PSs X x t) (i : ∀ D σ H, t' D σ H → t D σ H) : PSs X x t' := ⟨fun pins s σ H D I q => h.run pins s σ H D I (i D σ H q)⟩
theorem ps_bad {x : Stmt} {m : Env → St → Fl} (h : ∀ ρ st, m ρ st = .bad) : PS X x (tS Γ K W m) := ⟨fun pins s σ H D I ⟨ad, st, ρ, now, env, g⟩ => by rw [h] at g; exact g.elim⟩
/-- an expression first -/
theorem stageF {m : Env → St → Out R} {f : R → St → Fl} {T : V → Hp → Prop} (n : Now Γ K ad st H) (e : EnvR Γ ad H ρ σ) (g : GoodS Γ K W ad H ((m ρ st).fl ρ f) De)
    (next : ∀ ad1 st1 r v H1, Step ad H ad1 H1 → Now Γ K ad1 st1 H1 → EnvR Γ ad1 H1 ρ σ → (vR Γ).p H ad1 H1 r v → GoodS Γ K W ad H (f r st1) De → T v H1) : tG Γ K W (vR Γ) m σ H T := by
  refine ⟨ad, st, ρ, n, e, ?_⟩
  cases q : m ρ st with
  | ok r st' =>
    rw [q] at g
    intro ad' H' v s' n' p
    exact next ad' st' r v H' s' n' (e.mv s'.mv) p g
  | err x st' =>
    rw [q] at g
    exact fun ad' H' c d s' n' q => g ad' H' c d σ s' n' q (e.mv s'.mv)
  | bad => rw [q] at g; exact g
theorem stageFD {m : Env → St → Out R} {f : D → St → Fl} {T : V → Hp → Prop} {Ds : Ends} (n : Now Γ K ad st H) (e : EnvR Γ ad H ρ σ) (g : GoodS Γ K W ad H ((m ρ st).fl ρ fun r st => match r.toD st with | some (x, st) => f x st | none => .bad) Ds)
    (next : ∀ ad1 st1 x v H1, Step ad H ad1 H1 → Now Γ K ad1 st1 H1 → EnvR Γ ad1 H1 ρ σ → Rel Γ.K ad1 H1 x v → GoodS Γ K W ad1 H1 (f x st1) Ds → T v H1) : tG Γ K W (vR Γ) m σ H T := by
  refine stageF n e g fun ad1 st1 r v H1 s1 n1 e1 r1 g1 => ?_
  split at g1
  · rename_i x st2 ed
    obtain ⟨ad2, s2, n2, h2, p, ep⟩ := toD_ok s1 n1 r1 ed
    exact next ad2 st2 x v H1 s2 n2 (e.mv s2.mv) h2 (GoodS.later s2 g1)
  · exact g1.elim
theorem SxOk.stores (c : SxOk Γ G W n X) : Stores X X.env.scope := fun x h => ⟨h, .inl (c.fn x)⟩
theorem swaps_no {v t : Expr} {l : Nat} {env : PySem.Env} (h : isComp v = false) : swapsWith v (some t) l env = pure false := by cases v <;> first | rfl | (simp [isComp] at h)
theorem swaps_noN {v : Expr} {l : Nat} {env : PySem.Env} (h : isComp v = false) : swapsWith v none l env = pure false := by cases v <;> first | rfl | (simp [isComp] at h)
theorem asg_ok (c : SxOk Γ G W n X) {tg : Tg} {t v : Expr} {pos : Pos} {m : Env → St → Out R} (ht : chkTg X.N X.env.scope tg t = true) (hv : PE X v (tG Γ K W (vR Γ) m)) (hs : swapsWith v (some t) pos.line X.env = pure false) (hw : swappedStores [t] v X.env = pure none) :
    PS X (.Assign [t] v pos) (tS Γ K W fun ρ st => (m ρ st).fl ρ fun r st => (match r.toD st with | some (x, st) => (match tg.put x ρ with | some σ' => .nx σ' st | none => .bad) | none => .bad)) := by
  have h1 : (assignEach [t] X.env).map (·.2) = [assign t X.env] := by
    cases t <;> first | rfl | (cases tg <;> simp [chkTg, chkNm] at ht)
  refine PS.weak (ps_asg hv (pg_tg c.nd c.calm c.stores ht) hs hw h1) fun De σ H ⟨ad, st, ρ, now, env, g⟩ => ?_
  refine stageFD now env g fun ad1 st1 x v H1 s1 n1 e1 r1 g1 => ?_
  split at g1
  · rename_i ρ' hp
    rw [c.K]
    exact tg_put e1 r1 hp fun σ' e' _ _ => g1 ad1 H1 σ' (Step.refl _ _) n1 e'
  · exact g1.elim
/-- x = [..] on one line -/
theorem setLc_ok (c : SxOk Γ G W n X) (t : TbK Γ G tb F n X) (tk : Takes X W) {i : Nat} {e : E} {tg : Tg} {it : It} {cd : Eo} {y : Str} {py : Pos} {v : Expr} {pos : Pos} (h : chkE G X.N X.env.scope (.lc e tg it cd) v = true) (hi : X.N[i]? = some y) (hy : X.env.scope.names.lookup y = some .local)
    (hsw : swapsWith v (some (.Name y py)) pos.line X.env = pure true) :
    PS X (.Assign [.Name y py] v pos) (tS Γ K W fun ρ st => (denE F tb K (.lc e tg it cd) ρ st).fl ρ fun r st => (match r.toD st with | some (x, st) => (match (Tg.one i).put x ρ with | some σ' => .nx σ' st | none => .bad) | none => .bad)) := by
  unfold chkE at h
  split at h
  · rename_i elt u iter cs cscope vpos
    simp only [Bool.and_eq_true, decide_eq_true_eq] at h
    obtain ⟨⟨⟨⟨⟨⟨h1, h2⟩, h3⟩, h4⟩, h5⟩, h6⟩, h7⟩ := h
    have cb : ∀ (s : Shared) (H : Hp) (C : Addr) (cl : List (Str × Addr)) (fp : List Addr), CxOk Γ G W0 n (X.blk s H cscope (compEnvC cscope cl C X.env) fp) := fun _ _ _ _ _ => ⟨c.K, c.nd, c.calm, c.room, c.blt⟩
    have tb' : ∀ (s : Shared) (H : Hp) (C : Addr) (cl : List (Str × Addr)) (fp : List Addr), TbK Γ G tb F n (X.blk s H cscope (compEnvC cscope cl C X.env) fp) := fun _ _ _ _ _ => ⟨⟨t.fns, t.cons⟩, t.len⟩
    have stores : ∀ (s : Shared) (H : Hp) (C : Addr) (cl : List (Str × Addr)) (fp : List Addr), Stores (X.blk s H cscope (compEnvC cscope cl C X.env) fp) cscope := by
      intro s H C cl fp x hx
      have hsc : (compEnvC cscope cl C X.env).scope = relS cscope X.env.scope := rfl
      have keep : ∀ {k : NameKind}, k ≠ .free → cscope.names.lookup x = some k → (compEnvC cscope cl C X.env).scope.names.lookup x = some k := fun {k} h1 h2 => by
        rw [hsc]
        exact lookup_relS_keep h1 h2
      rcases hx with hx | hx
      · exact ⟨.inl (keep (by decide) hx), .inr (keep (by decide) hx)⟩
      · exact ⟨.inr (keep (by decide) hx), .inl (by show (cscope.names.lookup x == some .cell) = true; rw [hx]; rfl)⟩
    have hcT : ∀ (s : Shared) (H : Hp) (C : Addr) (cl : List (Str × Addr)) (fp : List Addr), PTs (X.blk s H cscope (compEnvC cscope cl C X.env) fp) cs (tG Γ K W0 vB (denC F tb K cd)) := by
      intro s H C cl fp
      split at h6
      · cases cd with
        | no =>
          refine ⟨fun pins s σ H Q I ⟨ad, st, ρ, now, env, g⟩ => pts_nil.run pins s σ H Q I ?_⟩
          simp only [denC] at g
          exact Good.now g now rfl
        | yes w => simp at h6
      · cases cd with
        | no => simp at h6
        | yes w =>
          have q2 := pts_one (soundE w (K := K) (cb s H C cl fp) (tb' s H C cl fp) takes0 h6).pt
          have e1 : denC F tb K (.yes w) = denT F tb K w := by funext ρ st; simp only [denC]
          rw [e1]
          exact q2
      · cases h6
    refine PS.weak (ps_setLc (own := ownOf X.N tg) (g := gTg X.K tg) (i := i) c.calm c.nd hi hy hsw (soundIt (K := K) it c.toCxOk t tk ⟨_, h3⟩ h1) (blkOk_by h2) (fun s H C cl fp => pg_tg (X := X.blk s H cscope (compEnvC cscope cl C X.env) fp) c.nd c.calm (stores s H C cl fp) h3) hcT
      (fun s H C cl fp => (soundE e (K := K) (cb s H C cl fp) (tb' s H C cl fp) takes0 h7).pe) (shape_fold (chkIt_shape h1))) fun De σ H ⟨ad, st, ρ, now, env, g⟩ => ?_
    rw [h5, c.K]
    refine lc_imp ?_
    have q : tG Γ K W (vR Γ) (denE F tb K (.lc e tg it cd)) σ H (fun x H1 => gName i x σ H1 De.nx) := stageFD now env g fun ad1 st1 x v H1 s1 n1 e1 r1 g1 => by
      exact g1 ad1 H1 _ (Step.refl _ _) n1 (env_set e1 r1 i)
    obtain ⟨ad, st, ρ, now, env, g⟩ := q
    exact ⟨ad, st, ρ, now, env, by simp only [denE] at g; exact g⟩
  · cases h
/-- .. and nobody will write it -/
theorem setLcF_ok (c : SxOk Γ G W n X) (t : TbK Γ G tb F n X) (tk : Takes X W) {i : Nat} {e : E} {tg : Tg} {it : It} {cd : Eo} {y : Str} {py : Pos} {v : Expr} {pos : Pos} (h : chkE G X.N X.env.scope (.lc e tg it cd) v = true) (hi : X.N[i]? = some y) (hy : X.env.scope.names.lookup y = some .local)
    (hsw : swapsWith v (some (.Name y py)) pos.line X.env = pure true) :
    PS X (.Assign [.Name y py] v pos) (tS Γ K W fun ρ st => (denE F tb K (.fz (.lc e tg it cd)) ρ st).fl ρ fun r st => (match r.toD st with | some (x, st) => (match (Tg.one i).put x ρ with | some σ' => .nx σ' st | none => .bad) | none => .bad)) := by
  unfold chkE at h
  split at h
  · rename_i elt u iter cs cscope vpos
    simp only [Bool.and_eq_true, decide_eq_true_eq] at h
    obtain ⟨⟨⟨⟨⟨⟨h1, h2⟩, h3⟩, h4⟩, h5⟩, h6⟩, h7⟩ := h
    have cb : ∀ (s : Shared) (H : Hp) (C : Addr) (cl : List (Str × Addr)) (fp : List Addr), CxOk Γ G W0 n (X.blk s H cscope (compEnvC cscope cl C X.env) fp) := fun _ _ _ _ _ => ⟨c.K, c.nd, c.calm, c.room, c.blt⟩
    have tb' : ∀ (s : Shared) (H : Hp) (C : Addr) (cl : List (Str × Addr)) (fp : List Addr), TbK Γ G tb F n (X.blk s H cscope (compEnvC cscope cl C X.env) fp) := fun _ _ _ _ _ => ⟨⟨t.fns, t.cons⟩, t.len⟩
    have stores : ∀ (s : Shared) (H : Hp) (C : Addr) (cl : List (Str × Addr)) (fp : List Addr), Stores (X.blk s H cscope (compEnvC cscope cl C X.env) fp) cscope := by
      intro s H C cl fp x hx
      have hsc : (compEnvC cscope cl C X.env).scope = relS cscope X.env.scope := rfl
      have keep : ∀ {k : NameKind}, k ≠ .free → cscope.names.lookup x = some k → (compEnvC cscope cl C X.env).scope.names.lookup x = some k := fun {k} h1 h2 => by
        rw [hsc]
        exact lookup_relS_keep h1 h2
      rcases hx with hx | hx
      · exact ⟨.inl (keep (by decide) hx), .inr (keep (by decide) hx)⟩
      · exact ⟨.inr (keep (by decide) hx), .inl (by show (cscope.names.lookup x == some .cell) = true; rw [hx]; rfl)⟩
    have hcT : ∀ (s : Shared) (H : Hp) (C : Addr) (cl : List (Str × Addr)) (fp : List Addr), PTs (X.blk s H cscope (compEnvC cscope cl C X.env) fp) cs (tG Γ K W0 vB (denC F tb K cd)) := by
      intro s H C cl fp
      split at h6
      · cases cd with
        | no =>
          refine ⟨fun pins s σ H Q I ⟨ad, st, ρ, now, env, g⟩ => pts_nil.run pins s σ H Q I ?_⟩
          simp only [denC] at g
          exact Good.now g now rfl
        | yes w => simp at h6
      · cases cd with
        | no => simp at h6
        | yes w =>
          have q2 := pts_one (soundE w (K := K) (cb s H C cl fp) (tb' s H C cl fp) takes0 h6).pt
          have e1 : denC F tb K (.yes w) = denT F tb K w := by funext ρ st; simp only [denC]
          rw [e1]
          exact q2
      · cases h6
    refine PS.weak (PS.lockd (ps_setLc (own := ownOf X.N tg) (g := gTg X.K tg) (i := i) c.calm c.nd hi hy hsw (soundIt (K := K) it c.toCxOk t tk ⟨_, h3⟩ h1) (blkOk_by h2) (fun s H C cl fp => pg_tg (X := X.blk s H cscope (compEnvC cscope cl C X.env) fp) c.nd c.calm (stores s H C cl fp) h3) hcT
      (fun s H C cl fp => (soundE e (K := K) (cb s H C cl fp) (tb' s H C cl fp) takes0 h7).pe) (shape_fold (chkIt_shape h1)))) fun De σ H ⟨ad, st, ρ, now, env, g⟩ => ?_
    rw [h5, c.K]
    refine lc_imp ?_
    have q : tG Γ K W (vR Γ) (denE F tb K (.lc e tg it cd)) σ H (fun x H1 => gName i x σ H1 fun σ' H' => De.nx σ' H' ∨ ∃ a vs, H' a = some (.lst vs) ∧ ∀ od, De.nx σ' (upd H' a (.frz od (.lst vs)))) := by
      have eF : (denE F tb K (.fz (.lc e tg it cd)) ρ st) = (denE F tb K (.lc e tg it cd) ρ st).bind fun r st => .ok r.frz st := by simp only [denE]
      replace g : GoodS Γ K W ad H (((denE F tb K (.lc e tg it cd) ρ st).bind fun r st => .ok r.frz st).fl ρ fun r st => (match r.toD st with | some (x, st) => (match (Tg.one i).put x ρ with | some σ' => .nx σ' st | none => .bad) | none => .bad)) De := by rw [← eF]; exact g
      generalize denE F tb K (.lc e tg it cd) = m at g ⊢
      refine ⟨ad, st, ρ, now, env, ?_⟩
      cases em : m ρ st with
      | ok r st1 =>
        rw [em] at g
        intro ad1 H1 v s1 n1 pr
        have pr0 := pr
        cases r with
        | fl xs =>
          obtain ⟨⟨a, vs, ev, h2', h3', h4'⟩, f⟩ := pr
          subst ev
          refine .inr ⟨a, vs, h2', fun od => ?_⟩
          obtain ⟨q1, q2, q3, q4⟩ := frz_good (od := od) s1 n1 h2' h3' h4' (f a rfl)
          exact g ad1 _ _ q1 q2 (env_set (env.mv q1.mv) q3 i)
        | d y => exact .inl (g ad1 H1 _ s1 n1 (env_set (env.mv s1.mv) pr.1 i))
        | kt y => exact g.elim
        | fd tt y =>
          refine .inl ?_
          obtain ⟨ad2, s2, n2, h2', p, ep⟩ := toD_ok (x := .ref st1.length) (st1 := .dic tt y :: st1) s1 n1 pr rfl
          exact g ad2 H1 _ s2 n2 (env_set (env.mv s2.mv) h2' i)
      | err y st1 => rw [em] at g; exact fun ad' H' c d s' n' q => g ad' H' c d σ s' n' q (env.mv s'.mv)
      | bad => rw [em] at g; exact g
    obtain ⟨ad, st, ρ, now, env, g⟩ := q
    exact ⟨ad, st, ρ, now, env, by simp only [denE] at g; exact g⟩
  · cases h
theorem par_ok (c : SxOk Γ G W n X) {i j : Nat} {y z : Str} {py pz pt pos : Pos} {kt k2 pt2} {a b : Expr} {da db : Env → St → Out R} (hi : X.N[i]? = some y) (hj : X.N[j]? = some z) (h : parOk X.env.scope y z py pz a b = true)
    (ha : PE X a (tG Γ K W (vR Γ) da)) (hb : PE X b (tG Γ K W (vR Γ) db)) (sa : shapeOk a = true) (sb : shapeOk b = true) :
    PS X (.Assign [.Tuple [.Name y py, .Name z pz] kt pt] (.Tuple [a, b] k2 pt2) pos) (tS Γ K W fun ρ st => (da ρ st).fl ρ fun r st => (match r.toD st with
    | some (x, st) => (db ρ st).fl ρ fun q st => (match q.toD st with
      | some (y, st) => .nx ((ρ.set i (some x)).set j (some y)) st
      | none => .bad)
    | none => .bad)) := by
  simp only [parOk, Bool.and_eq_true, decide_eq_true_eq, Bool.not_eq_true'] at h
  obtain ⟨⟨⟨⟨⟨h1, h2⟩, h3⟩, h4⟩, h5⟩, h6⟩ := h
  have hij : i ≠ j := fun e => by subst e; rw [hi] at hj; exact h4 (Option.some.inj hj)
  have ky : X.env.kindOf y = some .local := h1
  have kz : X.env.kindOf z = some .local := h2
  have hbk : X.env.blockKind = .function := by unfold PySem.Env.blockKind; rw [c.kd]; rfl
  have st1 : ([a, b].any fun | .Starred .. => true | _ => false) = false := by
    cases a <;> first | (simp [shapeOk] at sa; done) | (cases b <;> first | (simp [shapeOk] at sb; done) | rfl)
  have hw : swappedStores [.Tuple [.Name y py, .Name z pz] kt pt] (.Tuple [a, b] k2 pt2) X.env = pure (some [y, z]) := by
    have e1 : (py.line == py.line) = true := by simp
    have e2 : ([y, z].eraseDups).length = 2 := by
      have : (z == y) = false := by simpa using Ne.symm h4
      simp [List.eraseDups_cons, this]
    unfold swappedStores
    simp only [st1, hbk]
    simp only [List.filterMap_cons, List.filterMap_nil, ky, kz, Expr.pos, List.head?_cons, Option.map_some, Option.getD_some, h3, beq_self_eq_true, Bool.and_self, if_true, h5, h6, e2]
    refine (if_neg fun h => Bool.noConfusion (show false = true from h)).trans ((if_neg fun h => ?_).trans ((if_neg fun h => Bool.noConfusion (show false = true from h)).trans rfl))
    have h' : ([a, b].any fun | .Starred .. => true | _ => false) = true := h
    rw [st1] at h'
    cases h'
  refine PS.weak (ps_par c.calm c.nd hi hj hij h1 h2 (pa_cons ha (pa_cons hb pa_nil (shape_one sb)) (star1 (shape_star sa))) hw rfl) fun De σ H ⟨ad, st, ρ, now, env, g⟩ => ?_
  refine stageFD now env g fun ad1 st1 x v H1 s1 n1 e1 r1 g1 => ?_
  refine stageFD n1 e1 g1 fun ad2 st2 x' w H2 s2 n2 e2 r2 g2 => ?_
  exact ⟨v, w, rfl, g2 ad2 H2 _ (Step.refl _ _) n2 (env_set (env_set e2 (Rel.mv s2.mv r1) i) r2 j)⟩
theorem aug_ok (c : SxOk Γ G W n X) {i : Nat} {f : P2} {op : Operator} {y : Str} {py pos : Pos} {v : Expr} {m : Env → St → Out R} (hi : X.N[i]? = some y) (hl : Loc X.env.scope y) (ho : p2op f = some op) (hf : f = .add ∨ f = .sub) (hv : PE X v (tG Γ K W (vR Γ) m)) :
    PS X (.AugAssign (.Name y py) op v pos) (tS Γ K W fun ρ st => match ρ[i]? with
    | some (some x) => (m ρ st).fl ρ fun r st => (match x, r with
      | .int a, .d (.int b) => (match augV f a b with | some z => .nx (ρ.set i (some (.int z))) st | none => .bad)
      | _, _ => .bad)
    | _ => .bad) := by
  have key : ∀ (fi : Int → Int → Int), PIp X op (ipI fi) → (∀ a b, augV f a b = some (fi a b)) → PS X (.AugAssign (.Name y py) op v pos) (tS Γ K W fun ρ st => match ρ[i]? with
    | some (some x) => (m ρ st).fl ρ fun r st => (match x, r with
      | .int a, .d (.int b) => (match augV f a b with | some z => .nx (ρ.set i (some (.int z))) st | none => .bad)
      | _, _ => .bad)
    | _ => .bad) := fun fi hp he => by
    refine PS.weak (ps_aug c.nd hi hl hv hp (.inl (c.fn y))) fun De σ H ⟨ad, st, ρ, now, env, g⟩ => ?_
    dsimp only at g
    rcases q : ρ[i]? with _ | _ | x
    · rw [q] at g; exact g.elim
    · rw [q] at g; exact g.elim
    · rw [q] at g
      obtain ⟨u, hu, ru⟩ := env.2 i x q
      refine ⟨u, hu, stageF now env g fun ad1 st1 r w H1 s1 n1 e1 r1 g1 => ?_⟩
      split at g1
      · cases rel_int r1.1
        have ru' := Rel.mv s1.mv ru
        simp only [Rel] at ru'
        subst ru'
        rw [he] at g1
        exact ⟨_, _, rfl, rfl, g1 ad1 H1 _ s1 n1 (env_set e1 (by simp only [Rel]) i)⟩
      · exact g1.elim
  rcases hf with rfl | rfl <;> simp only [p2op, Option.some.injEq] at ho <;> subst ho
  · exact key _ ip_add fun _ _ => rfl
  · exact key _ ip_sub fun _ _ => rfl
end
end L3
/-! L3U: the whole of statements -/
namespace L3
open PySem L2 PySem.Spec PyProof.Rows
section
variable {Γ : Gam} {G : Nm} {tb : Tb} {F : Calls} {K : Ct} {W : WX} {n m : Nat} {X : Cx} {σ : L2.St} {ad ad1 : List Addr} {H H1 : Hp} {st : St} {ρ : Env} {De : Ends}
theorem kv_put_under {b : Nat} {kvs : Kvs} {k y : D} (h : D.unders b (kvs.map (·.2)) = true) (hy : y.under b = true) : D.unders b ((kvPut kvs k y).map (·.2)) = true := by
  refine unders_mem.mpr fun x hx => ?_
  unfold kvPut at hx
  obtain ⟨p, hp, rfl⟩ := List.mem_map.mp hx
  split at hp
  · obtain ⟨p', hp', rfl⟩ := List.mem_map.mp hp
    split
    · exact hy
    · exact unders_mem.mp h _ (List.mem_map.mpr ⟨p', hp', rfl⟩)
  · rcases List.mem_append.mp hp with z | z
    · exact unders_mem.mp h _ (List.mem_map.mpr ⟨p, z, rfl⟩)
    · rw [List.mem_singleton.mp z]; exact hy
/-- x[k] = y -/
theorem setIx_ok {x kk : R} {y : D} {v kv w : V} (n : Now Γ K ad st H) (env : EnvR Γ ad H ρ σ) (h : RR Γ ad H x v) (h' : RR Γ ad H kk kv) (hy : Rel Γ.K ad H y w) (g : GoodS Γ K W ad H (setIx K x kk y ρ st) De) :
    rSetL v kv w H (fun H3 => De.nx σ H3) ∨ rSetD v kv w H (fun H3 => De.nx σ H3) := by
  unfold setIx at g
  split at g
  · rename_i k d
    obtain ⟨a, h1, rfl⟩ := rel_refK h rfl
    split at g
    · rename_i xs q
      split at g
      · rename_i z
        split at g
        · rename_i j hj
          split at g
          · rename_i hm
            cases rel_int h'
            obtain ⟨hk, hu⟩ := may_under n hm
            obtain ⟨vs, z1, z2⟩ := lst_cell n h1 q hk
            obtain ⟨s2, n2⟩ := n.putL h1 z1 hk (z2.set j hy) fun b hb hlt => unders_mem.mpr fun x hx => by
              rcases List.mem_or_eq_of_mem_set hx with e | e
              · exact unders_mem.mp (base_lst n hb q hlt) x e
              · rw [e]; exact hu b hb hlt
            exact .inl ⟨a, vs, z, j, rfl, rfl, z1, by rw [← z2.length]; exact hj, g ad _ _ s2 n2 (env.mv s2.mv)⟩
          · exact g.elim
        · exact g.elim
      · exact g.elim
    · rename_i t kvs q
      split at g
      · rename_i hm
        simp only [Bool.and_eq_true, decide_eq_true_eq] at hm
        obtain ⟨⟨hk1, hm⟩, hz⟩ := hm
        obtain ⟨hk, hu⟩ := may_under n hm
        obtain ⟨b, e1, e2⟩ := n.rep.cell k _ q
        rw [h1] at e1; cases e1
        replace h' : Rel Γ.K ad H d kv := h'
        have hub : ∀ b ∈ K.base :: K.out, k < b → Cell.under b (.dic t (kvPut kvs d y)) = true := fun b hb hlt => kv_put_under (n.base.cl b hb k _ hlt q) (hu b hb hlt)
        refine .inr ?_
        cases t with
        | false =>
          obtain ⟨kv0, z1, z2⟩ := e2
          have z1 := z1.free hk
          obtain ⟨q', eq⟩ := keyOk_K hk1
          have z3 := kv_put (fun e e' => keyK_inj e e') eq hy z2
          obtain ⟨s2, n2⟩ := n.write (c := .dic false (kvPut kvs d y)) (u' := .dK (putK kv0 q' w)) h1 z1 (by intro _ z; cases z) (by intro _ _ z; cases z) (fun ad' H' s e => ⟨_, by unfold atL; rw [if_neg hk]; exact e, Kv.mv s.mv z3⟩) hub
          refine ⟨a, _, rfl, ?_, g ad _ _ s2 n2 (env.mv s2.mv)⟩
          rw [key_v eq h']
          exact DPut.k z1 (by rw [← kv_len z2]; exact hz)
        | true =>
          obtain ⟨kv0, z1, z2⟩ := e2
          have z1 := z1.free hk
          obtain ⟨ds, q', rfl, eq⟩ := keyOk_T hk1
          simp only [Rel] at h'
          obtain ⟨b, vs, rfl, hb, hv⟩ := h'
          have eq' : keyT (.tup ds) = some q' := eq
          have z3 := kv_put (fun e e' => keyT_inj e e') eq' hy z2
          obtain ⟨s2, n2⟩ := n.write (c := .dic true (kvPut kvs (.tup ds) y)) (u' := .dT (putK kv0 q' w)) h1 z1 (by intro _ z; cases z) (by intro _ _ z; cases z) (fun ad' H' s e => ⟨_, by unfold atL; rw [if_neg hk]; exact e, Kv.mv s.mv z3⟩) hub
          refine ⟨a, _, rfl, ?_, g ad _ _ s2 n2 (env.mv s2.mv)⟩
          exact DPut.t z1 (by rw [hb, keys_vs eq hv]) (by rw [← kv_len z2]; exact hz)
      · exact g.elim
    · exact g.elim
  · exact g.elim
theorem PSet.or {t t' : TSet} (h : PSet X t) (h' : PSet X t') : PSet X (fun o i v H Q => t o i v H Q ∨ t' o i v H Q) := by
  intro pins s σ H o i v ov iv u Q I ro ri rv q
  rcases q with q | q
  · exact h pins s σ H o i v ov iv u Q I ro ri rv q
  · exact h' pins s σ H o i v ov iv u Q I ro ri rv q
theorem setix_ok (c : SxOk Γ G W n X) {y z w : Expr} {p pos : Pos} {dO dI dV : Env → St → Out R} (ho : PE X y (tG Γ K W (vR Γ) dO)) (hi : PE X z (tG Γ K W (vR Γ) dI)) (hv : PE X w (tG Γ K W (vR Γ) dV)) (sz : shapeOk z = true) (nc : isComp w = false) :
    PS X (.Assign [.Subscript y z p] w pos) (tS Γ K W fun ρ st => (dV ρ st).fl ρ fun r st => (match r.toD st with
    | some (v, st) => (dO ρ st).fl ρ fun x st => (dI ρ st).fl ρ fun k st => setIx K x k v ρ st
    | none => .bad)) := by
  have ha : ∀ v, assign (.Subscript y z p) X.env v = (do
      let ov ← holding [v] (eval y X.env)
      let iv ← holding [v, ov] (eval z X.env)
      standAt p
      holding [v, ov, iv] (setItem ov iv v)
      release [v, ov, iv] []) := by
    cases z <;> first | (simp [shapeOk] at sz; done) | (intro _; rfl)
  have hw : swappedStores [.Subscript y z p] w X.env = pure none := by cases w <;> rfl
  have hs : swapsWith w (some (.Subscript y z p)) pos.line X.env = pure false := swaps_no nc
  refine PS.weak (ps_asg hv (pg_sub ho hi (PSet.or set_list (set_dict c.toCxOk.hu)) ha) hs hw rfl) fun De σ H ⟨ad, st, ρ, now, env, g⟩ => ?_
  refine stageFD now env g fun ad1 st1 v v' H1 s1 n1 e1 r1 g1 => ?_
  refine stageF n1 e1 g1 fun ad2 st2 x x' H2 s2 n2 e2 r2 g2 => ?_
  refine stageF n2 e2 (GoodS.later s2 g2) fun ad3 st3 k k' H3 s3 n3 e3 r3 g3 => ?_
  exact setIx_ok n3 e3 (r2.1.step s3) r3.1 (Rel.mv s3.mv (Rel.mv s2.mv r1)) (GoodS.later s3 g3)
theorem iff_ok {y : Expr} {p q : List Stmt} {pos : Pos} {dT : Env → St → Out Bool} {da db : Env → St → Fl} (ht : PT X y (tG Γ K W vB dT)) (ha : PSs X p (tS Γ K W da)) (hb : PSs X q (tS Γ K W db)) :
    PS X (.If y p q pos) (tS Γ K W fun ρ st => match dT ρ st with
    | .ok true st => da ρ st
    | .ok false st => db ρ st
    | .err x st => .er x ρ st
    | .bad => .bad) := by
  refine PS.weak (ps_if ht ha hb) fun De σ H ⟨ad, st, ρ, now, env, g⟩ => ⟨ad, st, ρ, now, env, ?_⟩
  dsimp only at g
  rcases e : dT ρ st with ⟨b, st1⟩ | ⟨x, st1⟩ | _
  · rw [e] at g
    intro ad1 H1 b' s1 n1 r1
    cases (show b = b' from r1)
    cases b with
    | true => exact ⟨ad1, st1, ρ, n1, env.mv s1.mv, GoodS.later s1 g⟩
    | false => exact ⟨ad1, st1, ρ, n1, env.mv s1.mv, GoodS.later s1 g⟩
  · rw [e] at g
    exact fun ad1 H1 c d s1 n1 r1 => g ad1 H1 c d σ s1 n1 r1 (env.mv s1.mv)
  · rw [e] at g; exact g.elim
theorem while_ok (c : SxOk Γ G W n X) {y : Expr} {p : List Stmt} {pos : Pos} {dT : Env → St → Out Bool} {db : Env → St → Fl} {k : Nat} (ht : PT X y (tG Γ K W vB dT)) (hb : PSs X p (tS Γ K W db)) :
    PS X (.While y p [] pos) (tS Γ K W fun ρ st => whRun dT db k ρ st) := by
  refine PS.weak (ps_while c.own ht hb) fun De σ H h => ?_
  refine ⟨fun k σ H => tS Γ K W (fun ρ st => whRun dT db k ρ st) De σ H, ⟨k, h⟩, fun k σ H ⟨ad, st, ρ, now, env, g⟩ => ?_⟩
  cases k with
  | zero => exact g.elim
  | succ k =>
    refine ⟨ad, st, ρ, now, env, ?_⟩
    dsimp only [whRun] at g
    rcases e : dT ρ st with ⟨b, st1⟩ | ⟨x, st1⟩ | _
    · rw [e] at g
      intro ad1 H1 b' s1 n1 r1
      cases (show b = b' from r1)
      cases b with
      | false => exact g ad1 H1 σ s1 n1 (env.mv s1.mv)
      | true =>
        refine ⟨fun σ' H' => tS Γ K W (fun ρ st => whRun dT db k ρ st) De σ' H', fun σ' H' z => ⟨k, Nat.lt_succ_self _, z⟩, ad1, st1, ρ, n1, env.mv s1.mv, ?_⟩
        have g1 := GoodS.later s1 g
        dsimp only at g1
        rcases e2 : db ρ st1 with ⟨ρ', st'⟩ | ⟨r, st'⟩ | ⟨ρ', st'⟩ | ⟨ρ', st'⟩ | ⟨x, ρ', st'⟩ | _
        · rw [e2] at g1; exact fun ad2 H2 σ2 s2 n2 e3 => ⟨ad2, st', ρ', n2, e3, GoodS.later s2 g1⟩
        · rw [e2] at g1; exact g1
        · rw [e2] at g1; exact g1
        · rw [e2] at g1; exact fun ad2 H2 σ2 s2 n2 e3 => ⟨ad2, st', ρ', n2, e3, GoodS.later s2 g1⟩
        · rw [e2] at g1; exact g1
        · rw [e2] at g1; exact g1
    · rw [e] at g
      exact fun ad1 H1 c d s1 n1 r1 => g ad1 H1 c d σ s1 n1 r1 (env.mv s1.mv)
    · rw [e] at g; exact g.elim
theorem for_ok (c : SxOk Γ G W n X) {u y : Expr} {p : List Stmt} {pos : Pos} {tg : Tg} {dI : Env → St → Out (List D × Option (Nat × List D))} {db : Env → St → Fl} (hi : PI X u y (tG Γ K W (vI Γ K) dI)) (hu : chkTg X.N X.env.scope tg u = true) (hb : PSs X p (tS Γ K W db)) (sf : ∀ x, foldedSetIterable y X.env x = pure x) :
    PS X (.For u y p [] pos) (tS Γ K W fun ρ st => match dI ρ st with
    | .ok ig st => forRun (still ig.2) (fun x ρ st => match tg.put x ρ with | some σ' => db σ' st | none => .bad) ig.1 ρ st
    | .err x st => .er x ρ st
    | .bad => .bad) := by
  refine PS.weak (ps_for c.own c.calm hi (pg_tg c.nd c.calm c.stores hu) hb sf) fun De σ H ⟨ad, st, ρ, now, env, g⟩ => ⟨ad, st, ρ, now, env, ?_⟩
  dsimp only at g
  rcases e : dI ρ st with ⟨ig, st1⟩ | ⟨x, st1⟩ | _
  · rw [e] at g
    intro ad1 H1 J s1 n1 r1
    obtain ⟨items, gd⟩ := ig
    replace r1 : ItOk Γ K J items gd ad1 H1 := r1
    have g1 := GoodS.later s1 g
    dsimp only at g1
    refine ⟨fun i mm σ H => mm = items.length - i ∧ i ≤ items.length ∧ ∃ ad2 st2 ρ2, Step ad1 H1 ad2 H ∧ Now Γ K ad2 st2 H ∧ EnvR Γ ad2 H ρ2 σ ∧
      GoodS Γ K W ad2 H (forRun (still gd) (fun x ρ st => match tg.put x ρ with | some σ' => db σ' st | none => .bad) (items.drop i) ρ2 st2) De, ⟨_, rfl, Nat.zero_le _, ad1, st1, ρ, Step.refl _ _, n1, env.mv s1.mv, g1⟩, ?_⟩
    rintro i mm σ2 H2 ⟨rfl, hi2, ad2, st2, ρ2, s2, n2, e2, g2⟩
    by_cases hlt : i < items.length
    · refine .inr ?_
      rw [List.drop_eq_getElem_cons hlt] at g2
      have hg : still gd st2 = true := by
        by_cases q : still gd st2 = true
        · exact q
        · simp only [forRun, if_neg q] at g2; exact g2.elim
      simp only [forRun, if_pos hg] at g2
      obtain ⟨hgo, hyl⟩ := (r1 i ad2 H2 st2 s2 n2 hg).1 hlt
      refine ⟨hgo, _, fun σ' H' w => ⟨items.length - (i + 1), by omega, w⟩, fun x H3 hy => ?_⟩
      obtain ⟨d, e1, s3, n3, r3⟩ := hyl x H3 hy
      rw [List.getElem?_eq_getElem hlt] at e1
      cases e1
      rcases hp : tg.put items[i] ρ2 with _ | ρ3
      · rw [hp] at g2; exact g2.elim
      · rw [hp] at g2
        dsimp only at g2
        rw [c.K]
        refine tg_put (e2.mv s3.mv) r3 hp fun σ3 e3 _ _ => ⟨ad2, st2, ρ3, n3, e3, ?_⟩
        have g3 := GoodS.later s3 g2
        rcases e4 : db ρ3 st2 with ⟨ρ', st'⟩ | ⟨r, st'⟩ | ⟨ρ', st'⟩ | ⟨ρ', st'⟩ | ⟨x, ρ', st'⟩ | _
        · rw [e4] at g3; exact fun ad5 H5 σ5 s5 n5 e5 => ⟨rfl, hlt, ad5, st', ρ', s2.trans (s3.trans s5), n5, e5, GoodS.later s5 g3⟩
        · rw [e4] at g3; exact g3
        · rw [e4] at g3; exact g3
        · rw [e4] at g3; exact fun ad5 H5 σ5 s5 n5 e5 => ⟨rfl, hlt, ad5, st', ρ', s2.trans (s3.trans s5), n5, e5, GoodS.later s5 g3⟩
        · rw [e4] at g3; exact g3
        · rw [e4] at g3; exact g3
    · have e5 : i = items.length := by omega
      subst e5
      rw [List.drop_length] at g2
      have hg : still gd st2 = true := by
        by_cases q : still gd st2 = true
        · exact q
        · simp only [forRun, if_neg q] at g2; exact g2.elim
      simp only [forRun, if_pos hg] at g2
      exact .inl ⟨(r1 items.length ad2 H2 st2 s2 n2 hg).2 (Nat.le_refl _), g2 ad2 H2 σ2 (Step.refl _ _) n2 e2⟩
  · rw [e] at g
    exact fun ad1 H1 c d s1 n1 r1 => g ad1 H1 c d σ s1 n1 r1 (env.mv s1.mv)
  · rw [e] at g; exact g.elim
mutual
theorem soundS : ∀ (s : S) {K : Ct} {W : WX} {X : Cx} {x : Stmt}, SxOk Γ G W n X → TbK Γ G tb F n X → Takes X W → chkS G X.N X.env.scope s x = true → PS X x (tS Γ K W (denS F tb K s))
  | .pass, K, W, X, x, c, t, tk, h => by
    simp only [chkS] at h
    split at h
    · exact PS.weak ps_pass fun De σ H ⟨ad, st, ρ, now, env, g⟩ => by simp only [denS] at g; exact g ad H σ (Step.refl _ _) now env
    · cases h
  | .doc, K, W, X, x, c, t, tk, h => by
    simp only [chkS] at h
    split at h
    · exact PS.weak ps_doc fun De σ H ⟨ad, st, ρ, now, env, g⟩ => by simp only [denS] at g; exact g ad H σ (Step.refl _ _) now env
    · cases h
  | .expr e, K, W, X, x, c, t, tk, h => by
    simp only [chkS] at h
    split at h
    · simp only [Bool.and_eq_true, Bool.not_eq_true'] at h
      refine PS.weak (ps_expr (soundE e (K := K) c.toCxOk t tk h.1).pe (swaps_noN h.2)) fun De σ H ⟨ad, st, ρ, now, env, g⟩ => ?_
      simp only [denS] at g
      exact stageF now env g fun ad1 st1 r v H1 s1 n1 e1 r1 g1 => g1 ad1 H1 σ s1 n1 e1
    · cases h
  | .ret e, K, W, X, x, c, t, tk, h => by
    simp only [chkS] at h
    split at h
    · refine PS.weak (ps_ret (soundE e (K := K) c.toCxOk t tk h).pe) fun De σ H ⟨ad, st, ρ, now, env, g⟩ => ?_
      simp only [denS] at g
      exact stageF now env g fun ad1 st1 r v H1 s1 n1 e1 r1 g1 => g1 ad1 H1 v s1 n1 r1
    · cases h
  | .retN, K, W, X, x, c, t, tk, h => by
    simp only [chkS] at h
    split at h
    · exact PS.weak ps_retN fun De σ H ⟨ad, st, ρ, now, env, g⟩ => by simp only [denS] at g; exact g ad H .non (Step.refl _ _) now (vd d_non)
    · cases h
  | .asg tg e, K, W, X, x, c, t, tk, h => by
    simp only [chkS] at h
    split at h
    · rename_i u v pos
      simp only [Bool.and_eq_true] at h
      obtain ⟨⟨h1, h2⟩, h3⟩ := h
      have plain : swapsWith v (some u) pos.line X.env = pure false → swappedStores [u] v X.env = pure none → PS X (.Assign [u] v pos) (tS Γ K W (denS F tb K (.asg tg e))) := fun hs hw =>
        PS.weak (asg_ok c h1 (soundE e (K := K) c.toCxOk t tk h2).pe hs hw) fun De σ H ⟨ad, st, ρ, now, env, g⟩ => ⟨ad, st, ρ, now, env, by simp only [denS] at g; exact g⟩
      unfold asgOk at h3
      split at h3
      · rename_i elt gs cs vpos
        split at h3
        · rename_i y py
          split at h3
          · rename_i hl
            by_cases hcell : X.env.scope.names.lookup y = some .cell
            · refine plain ?_ rfl
              unfold swapsWith
              have hk : (X.env.kindOf y == some NameKind.local) = false := by
                show (X.env.scope.names.lookup y == some NameKind.local) = false
                rw [hcell]; rfl
              simp only [hk, Bool.and_false, Bool.false_and]
              first | rfl | done
            rw [decide_eq_false hcell, Bool.false_or] at h3
            simp only [Bool.and_eq_true, decide_eq_true_eq, Bool.not_eq_true'] at h3
            have hsw := sw_true (elt := elt) (gs := gs) (l := pos.line) c.kd h3.1 hl h3.2
            cases tg with
            | many is => simp [chkTg] at h1
            | one i =>
              obtain ⟨x, pos', ex, hi, _⟩ := chkNm_of (show chkNm X.N X.env.scope i (.Name y py) = true from h1)
              cases ex
              cases e with
              | lc e0 tg0 it0 cd0 => exact PS.weak (setLc_ok (K := K) c t tk h2 hi h3.1 hsw) fun De σ H ⟨ad, st, ρ, now, env, g⟩ => ⟨ad, st, ρ, now, env, by simp only [denS] at g; exact g⟩
              | fz e1 =>
                simp only [chkE, Bool.and_eq_true] at h2
                cases e1 with
                | lc e0 tg0 it0 cd0 => exact PS.weak (setLcF_ok (K := K) c t tk (by simpa only [chkE] using h2.2) hi h3.1 hsw) fun De σ H ⟨ad, st, ρ, now, env, g⟩ => ⟨ad, st, ρ, now, env, by simp only [denS] at g; exact g⟩
                | fz e2 => exact absurd h2.1.2 (by simp)
                | _ => have h2 := h2.2; first | (simp [chkE] at h2; done) | (simp [chkE, litOk] at h2; done) | (simp [chkE, chkP1, chkP2, chkP3] at h2)
              | _ => first | (simp [chkE] at h2; done) | (simp [chkE, litOk] at h2; done) | (simp [chkE, chkP1, chkP2, chkP3] at h2)
          · rename_i hl
            refine plain ?_ rfl
            unfold swapsWith
            simp only [Expr.pos]
            rw [show (py.line == vpos.line) = false by simpa using hl]
            simp only [Bool.and_false, Bool.false_and]
            first | rfl | done
        · refine plain rfl rfl
        · cases h3
      · cases h3
      · cases h3
      · split at h3
        · exact plain rfl rfl
        · exact plain rfl rfl
        · exact plain rfl rfl
        · cases h3
      · rename_i q1 q2 q3 q4
        refine plain (swaps_no ?_) ?_
        · cases v <;> first | rfl | exact absurd rfl (q1 _ _ _ _) | exact absurd rfl (q2 _ _ _ _) | exact absurd rfl (q3 _ _ _ _ _)
        · cases v <;> first | exact absurd rfl (q4 _ _ _) | (cases u <;> rfl)
    · cases h
  | .par i j a b, K, W, X, x, c, t, tk, h => by
    simp only [chkS] at h
    split at h
    · simp only [Bool.and_eq_true, decide_eq_true_eq] at h
      obtain ⟨⟨⟨⟨h1, h2⟩, h3⟩, h4⟩, h5⟩ := h
      exact PS.weak (par_ok c h1 h2 h3 (soundE a (K := K) c.toCxOk t tk h4).pe (soundE b (K := K) c.toCxOk t tk h5).pe (chkE_shape G X.N X.env.scope a h4) (chkE_shape G X.N X.env.scope b h5)) fun De σ H ⟨ad, st, ρ, now, env, g⟩ => ⟨ad, st, ρ, now, env, by simp only [denS] at g; exact g⟩
    · cases h
  | .aug i f e, K, W, X, x, c, t, tk, h => by
    simp only [chkS] at h
    split at h
    · rename_i y py op v pos
      simp only [Bool.and_eq_true, decide_eq_true_eq] at h
      obtain ⟨⟨⟨⟨h1, h2⟩, h3⟩, h4⟩, h5⟩ := h
      have hl : Loc X.env.scope y := by
        split at h2
        · exact .inl (by assumption)
        · exact .inr (by assumption)
        · cases h2
      exact PS.weak (aug_ok c h1 hl h3 h4 (soundE e (K := K) c.toCxOk t tk h5).pe) fun De σ H ⟨ad, st, ρ, now, env, g⟩ => ⟨ad, st, ρ, now, env, by simp only [denS] at g; exact g⟩
    · cases h
  | .setix o i v, K, W, X, x, c, t, tk, h => by
    simp only [chkS] at h
    split at h
    · simp only [Bool.and_eq_true, Bool.not_eq_true'] at h
      obtain ⟨⟨⟨h1, h2⟩, h3⟩, h4⟩ := h
      exact PS.weak (setix_ok c (soundE o (K := K) c.toCxOk t tk h1).pe (soundE i (K := K) c.toCxOk t tk h2).pe (soundE v (K := K) c.toCxOk t tk h3).pe (chkE_shape G X.N X.env.scope i h2) h4) fun De σ H ⟨ad, st, ρ, now, env, g⟩ => ⟨ad, st, ρ, now, env, by simp only [denS] at g; exact g⟩
    · cases h
  | .setfld _ _ _, K, W, X, x, c, t, tk, h => by simp only [chkS] at h; cases h
  | .augfld _ _ _ _, K, W, X, x, c, t, tk, h => by simp only [chkS] at h; cases h
  | .augix _ _ _ _, K, W, X, x, c, t, tk, h => by simp only [chkS] at h; cases h
  | .iff u a b, K, W, X, x, c, t, tk, h => by
    simp only [chkS] at h
    split at h
    · simp only [Bool.and_eq_true] at h
      obtain ⟨⟨h1, h2⟩, h3⟩ := h
      exact PS.weak (iff_ok (soundE u (K := K) c.toCxOk t tk h1).pt (soundSs a (K := K) c t tk h2) (soundSs b (K := K) c t tk h3)) fun De σ H ⟨ad, st, ρ, now, env, g⟩ => ⟨ad, st, ρ, now, env, by simp only [denS] at g; exact g⟩
    · cases h
  | .whl u b, K, W, X, x, c, t, tk, h => by
    simp only [chkS] at h
    split at h
    · simp only [Bool.and_eq_true] at h
      exact PS.weak (while_ok (k := tb.wh) c (soundE u (K := K) c.toCxOk t tk h.1).pt (soundSs b (K := K) c t tk h.2)) fun De σ H ⟨ad, st, ρ, now, env, g⟩ => ⟨ad, st, ρ, now, env, by simp only [denS] at g; exact g⟩
    · cases h
  | .forr tg it b, K, W, X, x, c, t, tk, h => by
    simp only [chkS] at h
    split at h
    · simp only [Bool.and_eq_true] at h
      exact PS.weak (for_ok c (soundIt (K := K) it c.toCxOk t tk ⟨_, h.1.1⟩ h.1.2) h.1.1 (soundSs b (K := K) c t tk h.2) (shape_fold (chkIt_shape h.1.2))) fun De σ H ⟨ad, st, ρ, now, env, g⟩ => ⟨ad, st, ρ, now, env, by simp only [denS] at g; exact g⟩
    · cases h
  | .raise _ _, K, W, X, x, c, t, tk, h => by simp only [chkS] at h; cases h
theorem soundSs : ∀ (ss : Ss) {K : Ct} {W : WX} {X : Cx} {xs : List Stmt}, SxOk Γ G W n X → TbK Γ G tb F n X → Takes X W → chkSs G X.N X.env.scope ss xs = true → PSs X xs (tS Γ K W (denSs F tb K ss))
  | .nil, K, W, X, xs, c, t, tk, h => by
    simp only [chkSs] at h
    split at h
    · exact PSs.weak pss_nil fun De σ H ⟨ad, st, ρ, now, env, g⟩ => by simp only [denSs] at g; exact g ad H σ (Step.refl _ _) now env
    · cases h
  | .cons s ss, K, W, X, xs, c, t, tk, h => by
    simp only [chkSs] at h
    split at h
    · simp only [Bool.and_eq_true] at h
      refine PSs.weak (pss_cons (soundS s (K := K) c t tk h.1) (soundSs ss (K := K) c t tk h.2)) fun De σ H ⟨ad, st, ρ, now, env, g⟩ => ⟨ad, st, ρ, now, env, ?_⟩
      simp only [denSs] at g
      rcases e : denS F tb K s ρ st with ⟨ρ', st'⟩ | ⟨r, st'⟩ | ⟨ρ', st'⟩ | ⟨ρ', st'⟩ | ⟨x, ρ', st'⟩ | _
      · rw [e] at g; exact fun ad2 H2 σ2 s2 n2 e3 => ⟨ad2, st', ρ', n2, e3, GoodS.later s2 g⟩
      · rw [e] at g; exact g
      · rw [e] at g; exact g
      · rw [e] at g; exact g
      · rw [e] at g; exact g
      · rw [e] at g; exact g
    · cases h
end
end
end L3
/-! L3V: a call's end; the defs of a text -/
namespace L3
open PySem L2 PySem.Spec PyProof.Rows
section
variable {Γ : Gam} {G : Nm} {tb : Tb} {F : Calls} {K : Ct} {W : WX} {n m : Nat} {X : Cx} {σ : L2.St} {ad ad1 p : List Addr} {H H1 : Hp} {st : St} {ρ : Env}
mutual
theorem rel_pre : ∀ {d : D} {v : V}, d.under ad.length = true → Rel Γ.K (p ++ ad) H d v → Rel Γ.K ad H d v
  | .non, _, _, h => by simp only [Rel] at h ⊢; exact h
  | .bl _, _, _, h => by simp only [Rel] at h ⊢; exact h
  | .int _, _, _, h => by simp only [Rel] at h ⊢; exact h
  | .str _, _, _, h => by simp only [Rel] at h ⊢; exact h
  | .ref k, _, u, h => by
    simp only [D.under, decide_eq_true_eq] at u
    simp only [Rel] at h ⊢
    obtain ⟨a, h1, h2⟩ := h
    exact ⟨a, by rw [← h1, pick_app_lt u], h2⟩
  | .tup ds, _, u, h => by
    simp only [D.under] at u
    simp only [Rel] at h ⊢
    obtain ⟨a, vs, e, h1, h2⟩ := h
    exact ⟨a, vs, e, h1, rels_pre u h2⟩
  | .frz ds, _, u, h => by
    simp only [D.under] at u
    simp only [Rel] at h ⊢
    obtain ⟨a, vs, e, h1, h2⟩ := h
    exact ⟨a, vs, e, h1, rels_pre u h2⟩
  | .ptup ds, _, u, h => by
    simp only [D.under] at u
    simp only [Rel] at h ⊢
    obtain ⟨a, vs, e, h1, h2⟩ := h
    exact ⟨a, vs, e, h1, rels_pre u h2⟩
theorem rels_pre : ∀ {ds : List D} {vs : List V}, D.unders ad.length ds = true → Rels Γ.K (p ++ ad) H ds vs → Rels Γ.K ad H ds vs
  | [], _, _, h => by simp only [Rels] at h ⊢; exact h
  | d :: ds, _, u, h => by
    simp only [D.unders, Bool.and_eq_true] at u
    simp only [Rels] at h ⊢
    obtain ⟨v, r, e, h1, h2⟩ := h
    exact ⟨v, r, e, rel_pre u.1 h1, rels_pre u.2 h2⟩
end
theorem kv_pre {κ : Type} {key : D → Option κ} : ∀ {kvs : Kvs} {kv : List (κ × V)}, D.unders ad.length (kvs.map (·.2)) = true → Kv key Γ.K (p ++ ad) H kvs kv → Kv key Γ.K ad H kvs kv
  | [], _, _, h => by simp only [Kv] at h ⊢; exact h
  | q :: r, _, u, h => by
    simp only [List.map_cons, D.unders, Bool.and_eq_true] at u
    simp only [Kv] at h ⊢
    obtain ⟨k, v, t, e, h0, h1, h2⟩ := h
    exact ⟨k, v, t, e, h0, rel_pre u.1 h1, kv_pre u.2 h2⟩
theorem fs_pre : ∀ {fs : Fs} {fv : List (Str × V)}, D.unders ad.length (fs.map (·.2)) = true → FsR Γ (p ++ ad) H fs fv → FsR Γ ad H fs fv
  | [], _, _, h => by simp only [FsR] at h ⊢; exact h
  | q :: r, _, u, h => by
    simp only [List.map_cons, D.unders, Bool.and_eq_true] at u
    simp only [FsR] at h ⊢
    obtain ⟨v, t, e, h1, h2⟩ := h
    exact ⟨v, t, e, rel_pre u.1 h1, fs_pre u.2 h2⟩
theorem cell_pre {lk : List Nat} {k : Nat} {a : Addr} {c : Cell} (u : c.under ad.length = true) (h : CellR Γ lk k (p ++ ad) H a c) : CellR Γ lk k ad H a c := by
  cases c with
  | lst xs => obtain ⟨vs, h1, h2⟩ := h; exact ⟨vs, h1, rels_pre u h2⟩
  | dic t kvs => cases t <;> (obtain ⟨vs, h1, h2⟩ := h; exact ⟨vs, h1, kv_pre u h2⟩)
  | ins c fs => obtain ⟨dx, fv, h1, h2⟩ := h; exact ⟨dx, fv, h1, fs_pre u h2⟩
theorem cut_split : ∀ (n : Nat) (st : St), n ≤ st.length → ∃ q, st = q ++ St.cut n st ∧ (St.cut n st).length = n
  | 0, [], _ => ⟨[], rfl, rfl⟩
  | n + 1, [], h => by simp at h
  | n, c :: st, h => by
    simp only [St.cut]
    split
    · rename_i h2
      exact ⟨[], rfl, by simp only [List.length_cons] at h ⊢; omega⟩
    · obtain ⟨q, e, hl⟩ := cut_split n st (by omega)
      exact ⟨c :: q, by rw [List.cons_append, ← e], hl⟩
theorem Now.cut (n : Now Γ K ad st H) (hl : ∀ m ∈ K.lk, m < K.base) : ∃ p ad', ad = p ++ ad' ∧ ad'.length = K.base ∧ Now Γ K ad' (St.cut K.base st) H := by
  obtain ⟨q, e, hc⟩ := cut_split K.base st n.base.le
  refine ⟨ad.take (ad.length - K.base), ad.drop (ad.length - K.base), (List.take_append_drop _ _).symm, ?_, ?_, ?_, ?_⟩
  · rw [List.length_drop]; have := n.base.le; have := n.rep.len; omega
  · have el : (ad.drop (ad.length - K.base)).length = K.base := by rw [List.length_drop]; have := n.base.le; have := n.rep.len; omega
    refine ⟨by rw [el, hc], (List.drop_sublist _ _).nodup n.rep.nd, fun k c hk => ?_⟩
    have hlt := pick_lt hk
    have hk' : pick st k = some c := by rw [e]; exact pick_app hk
    obtain ⟨a, h1, h2⟩ := n.rep.cell k c hk'
    rw [hc] at hlt
    rw [← List.take_append_drop (ad.length - K.base) ad] at h1 h2
    rw [pick_app_lt (by rw [el]; exact hlt)] at h1
    exact ⟨a, h1, cell_pre (by rw [el]; exact n.base.cl _ (List.mem_cons_self) k c hlt hk') h2⟩
  · refine ⟨by rw [hc]; exact Nat.le_refl _, n.base.out, fun b hb k c hk hp => n.base.cl b hb k c hk (by rw [e]; exact pick_app hp)⟩
  · intro m hm; rw [hc]; exact hl m hm
theorem Step.cut {ad0 ad' : List Addr} {H0 : Hp} (s : Step ad0 H0 (p ++ ad') H) (h : ad0.length ≤ ad'.length) : Step ad0 H0 ad' H := by
  obtain ⟨q, e, hq⟩ := s.pre
  refine ⟨?_, s.keep, s.tups, s.frzs, s.some⟩
  rcases List.append_eq_append_iff.mp e with ⟨a, e1, e2⟩ | ⟨c, e1, e2⟩
  · exact ⟨a, e2, fun b hb => hq b (by rw [e1]; exact List.mem_append_right _ hb)⟩
  · have : c = [] := by
      have := congrArg List.length e2
      rw [List.length_append] at this
      exact List.length_eq_zero_iff.mp (by omega)
    subst this
    exact ⟨[], by simpa using e2.symm, by simp⟩
mutual
theorem flat_pre : ∀ {d : D} {v : V}, d.flat = true → Rel Γ.K (p ++ ad) H d v → Rel Γ.K ad H d v := fun {d v} u h => rel_pre (flat_under u) h
end
theorem leave_ok {ad0 : List Addr} {H0 : Hp} {fl : Fl} {Q : VK} {E : XK} (hs : Step ad0 H0 ad H) (h0 : ad0.length ≤ K.base ∧ ∀ n ∈ K.lk, n < K.base) (g : Good Γ K (fun c d _ H => E c d H) [] ad0 H0 (vR Γ) (leave K fl) Q) :
    GoodS Γ K (fun c d _ H => E c d H) ad H fl { nx := fun _ H' => Q .non H', rt := Q } := by
  cases fl with
  | nx ρ' st' =>
    intro ad' H' σ' s n e
    obtain ⟨p, ad2, rfl, hl, n2⟩ := n.cut h0.2
    exact g ad2 H' .non ((hs.trans s).cut (by omega)) n2 (vd d_non)
  | rt r st' =>
    intro ad' H' v s n hv
    have sn : ∀ b, H0 b ≠ none → H b ≠ none := hs.some
    obtain ⟨p, ad2, rfl, hl, n2⟩ := n.cut h0.2
    have s2 := (hs.trans s).cut (p := p) (ad' := ad2) (by omega)
    have hv0 := (vR Γ).later sn hv
    cases r with
    | kt xs =>
      simp only [leave] at g
      exact g.elim
    | fl xs =>
      simp only [leave] at g
      split at g
      · rename_i hu
        obtain ⟨⟨a, vs, h1, h2, h3, h4⟩, hf⟩ := hv0
        exact g ad2 H' v s2 n2 ⟨⟨a, vs, h1, h2, fun z => h3 (List.mem_append_right _ z), rels_pre (by rw [hl]; exact hu) h4⟩, hf⟩
      · exact g.elim
    | fd t kvs =>
      simp only [leave] at g
      split at g
      · rename_i hu
        cases t with
        | false =>
          obtain ⟨⟨a, vs, h1, h2, h3, h4⟩, hf⟩ := hv0
          exact g ad2 H' v s2 n2 ⟨⟨a, vs, h1, h2, fun z => h3 (List.mem_append_right _ z), kv_pre (by rw [hl]; exact hu) h4⟩, hf⟩
        | true =>
          obtain ⟨⟨a, vs, h1, h2, h3, h4⟩, hf⟩ := hv0
          exact g ad2 H' v s2 n2 ⟨⟨a, vs, h1, h2, fun z => h3 (List.mem_append_right _ z), kv_pre (by rw [hl]; exact hu) h4⟩, hf⟩
      · exact g.elim
    | d x =>
      simp only [leave] at g
      split at g
      · rename_i hu
        exact g ad2 H' v s2 n2 ⟨rel_pre (by rw [hl]; exact hu) hv0.1, trivial⟩
      · rename_i hu
        split at g
        · rename_i k
          simp only [D.under, decide_eq_true_eq] at hu
          obtain ⟨a, h1, rfl⟩ := rel_refK hv0.1 rfl
          have hnk : k ∉ K.lk := fun z => hu (h0.2 k z)
          have ha2 : a ∉ ad2 := fun z => by
            obtain ⟨j, hj⟩ := mem_pick z
            have := pick_inj n.rep.nd h1 (pick_app hj)
            have := pick_lt hj
            omega
          have hfr : ∀ b, V.ref a = .ref b → H0 b = none := fun b eb => by
            cases eb
            obtain ⟨q, e, hq⟩ := (hs.trans s).pre
            have hm := pick_mem h1
            rw [e] at hm
            rcases List.mem_append.mp hm with z | z
            · exact hq a z
            · exfalso
              obtain ⟨j, hj⟩ := mem_pick z
              have h1' := h1
              rw [e] at h1'
              have nd' := n.rep.nd
              rw [e] at nd'
              have := pick_inj nd' h1' (pick_app hj)
              have := pick_lt hj
              omega
          split at g
          · rename_i xs q
            split at g
            · rename_i hx
              obtain ⟨vs, z1, z2⟩ := lst_cell n h1 q hnk
              exact g ad2 H' _ s2 n2 ⟨⟨a, vs, rfl, z1, ha2, rels_pre (by rw [hl]; exact hx) z2⟩, hfr⟩
            · exact g.elim
          · rename_i t kvs q
            split at g
            · rename_i hx
              obtain ⟨b, e1, e2⟩ := n.rep.cell k _ q
              rw [h1] at e1; cases e1
              cases t with
              | false =>
                obtain ⟨kv, z1, z2⟩ := e2
                exact g ad2 H' _ s2 n2 ⟨⟨a, kv, rfl, z1.free hnk, ha2, kv_pre (by rw [hl]; exact hx) z2⟩, hfr⟩
              | true =>
                obtain ⟨kv, z1, z2⟩ := e2
                exact g ad2 H' _ s2 n2 ⟨⟨a, kv, rfl, z1.free hnk, ha2, kv_pre (by rw [hl]; exact hx) z2⟩, hfr⟩
            · exact g.elim
          · exact g.elim
        · exact g.elim
  | bk ρ' st' => exact g.elim
  | ct ρ' st' => exact g.elim
  | er x ρ' st' =>
    obtain ⟨c0, val⟩ := x
    intro ad' H' c d σ' s n hx e
    obtain ⟨p, ad2, rfl, hl, n2⟩ := n.cut h0.2
    cases val with
    | none =>
      simp only [leave, if_true] at g
      exact g ad2 H' c d ((hs.trans s).cut (by omega)) n2 hx
    | some y =>
      simp only [leave] at g
      split at g
      · rename_i hfl
        obtain ⟨h1, a, v, z1, z2, z3⟩ := hx
        exact g ad2 H' c d ((hs.trans s).cut (by omega)) n2 ⟨h1, a, v, z1, z2, flat_pre hfl z3⟩
      · exact g.elim
  | bad => exact g.elim
theorem leaveL_ok {ad0 : List Addr} {H0 : Hp} {fl : Fl} {Q : VK} {E : XK} (hs : Step ad0 H0 ad H) (g : Good Γ K (fun c d _ H => E c d H) [] ad0 H0 (vR Γ) (leaveL fl) Q) :
    GoodS Γ K (fun c d _ H => E c d H) ad H fl { nx := fun _ H' => Q .non H', rt := Q } := by
  cases fl with
  | nx ρ' st' => exact fun ad' H' σ' s n e => g ad' H' .non (hs.trans s) n (vd d_non)
  | rt r st' => exact fun ad' H' v s n hv => g ad' H' v (hs.trans s) n ((vR Γ).later hs.some hv)
  | bk ρ' st' => exact g.elim
  | ct ρ' st' => exact g.elim
  | er x ρ' st' =>
    obtain ⟨c0, val⟩ := x
    intro ad' H' c d σ' s n hx e
    cases val with
    | none =>
      simp only [leaveL, if_true] at g
      exact g ad' H' c d (hs.trans s) n hx
    | some y =>
      simp only [leaveL] at g
      split at g
      · exact g ad' H' c d (hs.trans s) n hx
      · exact g.elim
  | bad => exact g.elim
end
/-- a def of the text as it stands, whatever its defaults are -/
structure FunG (K : PySem.W.Frag) (x qual : Str) (st : Stmt) (f : Addr) (fd : FuncData) : Prop where
  ex : ∃ (oc : Value) (od : Option Addr) (dV kV doc pm : Value) (an : Option Addr) (cdv ct : Value) (osl : Array (Option Value)),
    fd = PySem.W.fnOf x qual (defArgs st) (defBody st) (defScope st) dV kV doc pm an cdv ct ∧ K.lookup f = some ⟨oc, od, .func fd, osl⟩ ∧ PySem.W.codeIn K cdv qual = true
  kp : PySem.W.keepIn K (.ref f) = true
theorem FunG.of {K : PySem.W.Frag} {x qual : Str} {st : Stmt} {f : Addr} {fd : FuncData} (F : L2.Fun K x qual st f fd) : FunG K x qual st f fd :=
  let ⟨oc, od, kV, doc, pm, an, cdv, ct, osl, e, l, c⟩ := F.ex
  ⟨⟨oc, od, .none, kV, doc, pm, an, cdv, ct, osl, e, l, c⟩, F.kp⟩
theorem FunG.okX {P : Program} {w : World} {K : PySem.W.Frag} {mg : Str → Option Value} {base : Heap} {x qual : Str} {st : Stmt} {f : Addr} {fd : FuncData} {N ps : List Str} {k : Nat} {sp : Sp} (F : FunG K x qual st f fd) (S : FnScope N ps (defScope st)) (len : ∀ vs H Q E, sp vs H Q E → vs.length = ps.length)
    (body : ∀ (cdv : Value) (A : Around) (outer : List PySem.Env) (s : Shared) (H : Hp) (vs : List V) (Q : VK) (E : XK), Room k (A.deeper (envOfC qual (defScope st) s.heap.objs.size f cdv)) → sp vs H Q E →
      ∃ t, PSs (cxOf (L2.CX P w) P w K mg base N qual (defScope st) f cdv A outer s H E) (defBody st) t ∧ t { nx := fun _ H' => Q .non H', rt := Q } (start N vs) H) : FnOk P w K mg base (L2.CX P w) (k + 1) f fd ps sp := by
  obtain ⟨oc, od, dV, kV, doc, pm, an, cdv, ct, osl, rfl, lk, hcd⟩ := F.ex
  exact fn_of lk hcd S len fun A outer s H vs Q E hr hsp => body cdv A outer s H vs Q E hr hsp
/-- where a text's def stands -/
structure DefAt (G : Nm) (K : PySem.W.Frag) (mg : Str → Option Value) (f : Nat) (fd : Fn) : Prop where
  ex : ∃ (x qual : Str) (stm : Stmt) (a : Addr) (dat : FuncData) (N ps : List Str), FunG K x qual stm a dat ∧ FnScope N ps (defScope stm) ∧ mg (G.fname f) = some (.ref a) ∧ Binds K dat ps [] ∧ (G.dfl f = true → Binds K dat ps [.none]) ∧
    chkSs G N (defScope stm) fd.body (defBody stm) = true ∧ ps.length = fd.np ∧ N.length = fd.ns
theorem sp_bad {Γ : Gam} {tb : Tb} {f np : Nat} {lk : Bool} {vs : List V} {H : Hp} {Q : VK} {E : XK} (h : spF Γ (runF tb 0) f np lk vs H Q E) : False := by
  obtain ⟨_, _, _, _, _, _, _, _, _, _, _, g⟩ := h
  exact g
theorem run_len {tb : Tb} {k : Nat} : ∀ f fd K ds st, tb.fn f = some fd → ds.length ≠ fd.np → runF tb k f K ds st = .bad := by
  intro f fd K ds st h1 h2
  cases k with
  | zero => rfl
  | succ k => simp only [runF, h1, if_neg h2]
theorem env_start {Γ : Gam} {ad : List Addr} {H : Hp} {ds : List D} {vs : List V} {N : List Str} {k : Nat} (h : Rels Γ.K ad H ds vs) (hk : N.length - vs.length = k) : EnvR Γ ad H (ds.map some ++ List.replicate k none) (L2.start N vs) := by
  unfold L2.start
  rw [hk]
  refine ⟨by simp [h.length], fun i d e => ?_⟩
  rw [List.getElem?_append] at e ⊢
  simp only [List.length_map] at e ⊢
  rw [h.length] at e
  split at e
  · rename_i hi
    rw [if_pos hi]
    simp only [List.getElem?_map, Option.map_eq_some_iff] at e ⊢
    obtain ⟨d', e1, e2⟩ := e
    cases e2
    obtain ⟨v, z1, z2⟩ := h.get e1
    exact ⟨v, ⟨v, z1, rfl⟩, z2⟩
  · rw [List.getElem?_replicate] at e
    split at e <;> cases e
/-- one def, from those that it calls -/
theorem def_step {Γ : Gam} {G : Nm} {tb : Tb} {P : Program} {w : World} {K : PySem.W.Frag} {mg : Str → Option Value} {base : Heap} {k f : Nat} {fd : Fn} {x qual : Str} {stm : Stmt} {a : Addr} {dat : FuncData} {N ps : List Str} (hK : K = Γ.K)
    (all : ∀ f fd, tb.fn f = some fd → FnAt Γ G (runF tb k) k P w K mg base f fd) (hc : ∀ g y, G.con g = some y → ConAt w K mg y (tb.con g)) (hb : ∀ x ∈ G.blt, mg x = none)
    (hf : tb.fn f = some fd) (h1 : FunG K x qual stm a dat) (h2 : FnScope N ps (defScope stm)) (h6 : chkSs G N (defScope stm) fd.body (defBody stm) = true) (h7 : ps.length = fd.np) (h8 : N.length = fd.ns) :
    FnOk P w K mg base (L2.CX P w) (k + 1) a dat ps (spF Γ (runF tb (k + 1)) f fd.np fd.leaky) := by
  refine FunG.okX h1 h2 (fun vs H Q E h => by rw [h7]; exact h.1) fun cdv A outer s H vs Q E hr ⟨hl, ad0, H0, ad, st, ds, K', s0, cond, now, rels, g⟩ => ?_
  have hlen : ds.length = fd.np := by rw [rels.length]; exact hl
  simp only [runF, hf, if_pos hlen] at g
  refine ⟨tS Γ K' (fun c d _ H => E c d H) (denSs (runF tb k) tb K' fd.body), soundSs (Γ := Γ) (G := G) (n := k) (X := cxOf (L2.CX P w) P w K mg base N qual (defScope stm) a cdv A outer s H E) fd.body ?_ ?_ ?_ h6, ad, st, ds.map some ++ List.replicate (fd.ns - fd.np) none, now, env_start rels (by rw [h8, hl]), ?_⟩
  · exact ⟨⟨hK, h2.nd, rfl, hr, hb⟩, passes_of (K := fun e s'' => CX P w outer H s E e s'') (E₁ := fun e' s'' => CX P w outer H s E e' s'') rfl, fun _ => rfl, h2.kind⟩
  · exact ⟨⟨all, hc⟩, run_len⟩
  · exact takes_of (X := cxOf (L2.CX P w) P w K mg base N qual (defScope stm) a cdv A outer s H E) rfl rfl rfl rfl
  · split at g
    · exact leaveL_ok s0 g
    · rename_i hlk
      exact leave_ok s0 (cond (by simpa using hlk)) g
/-- every def of the text keeps its promise, at each depth -/
theorem defs_ok {Γ : Gam} {G : Nm} {tb : Tb} {P : Program} {w : World} {K : PySem.W.Frag} {mg : Str → Option Value} {base : Heap} (hK : K = Γ.K) (hd : ∀ f fd, tb.fn f = some fd → DefAt G K mg f fd) (hc : ∀ g y, G.con g = some y → ConAt w K mg y (tb.con g)) (hb : ∀ x ∈ G.blt, mg x = none) :
    ∀ k f fd, tb.fn f = some fd → FnAt Γ G (runF tb k) k P w K mg base f fd
  | 0, f, fd, hf => by
    obtain ⟨x, qual, stm, a, dat, N, ps, h1, h2, h3, h4, h5, h6, h7, h8⟩ := (hd f fd hf).ex
    exact ⟨⟨a, dat, ps, h3, h1.kp, h4, h5, ⟨fun vs H Q E h => (sp_bad h).elim, fun A outer s H args us vs Q E _ _ _ _ h => (sp_bad h).elim⟩⟩⟩
  | k + 1, f, fd, hf => by
    obtain ⟨x, qual, stm, a, dat, N, ps, h1, h2, h3, h4, h5, h6, h7, h8⟩ := (hd f fd hf).ex
    exact ⟨⟨a, dat, ps, h3, h1.kp, h4, h5, def_step hK (fun f fd hf => defs_ok hK hd hc hb k f fd hf) hc hb hf h1 h2 h6 h7 h8⟩⟩
end L3
/-! L3W: the facts that a law's top gives; a law's end -/
namespace L3
open PySem L2 PySem.Spec PyProof.Rows
/-- a def of the text, as the top has made it; x: by which name it is held, y: its own name -/
def FactsAt (K : PySem.W.Frag) (x y : Str) (stm : Stmt) : Prop :=
  ∃ (f : Addr) (oc : Value) (od an : Option Addr) (osl : Array (Option Value)) (kV doc pm cdv ct : Value), PySem.W.nsIn K mainGlobals x = some (some (.ref f)) ∧ K.lookup f = some ⟨oc, od, .func (PySem.W.fnOf y y (defArgs stm) (defBody stm) (defScope stm) .none kV doc pm an cdv ct), osl⟩ ∧
    PySem.W.codeIn K cdv y = true ∧ PySem.W.keepIn K (.ref f) = true
theorem facts_mk {K : PySem.W.Frag} {x y : Str} {stm : Stmt} {f : Addr} {oc : Value} {od an : Option Addr} {osl : Array (Option Value)} {kV doc pm cdv ct : Value} (a : PySem.W.nsIn K mainGlobals x = some (some (.ref f)))
    (l : K.lookup f = some ⟨oc, od, .func (PySem.W.fnOf y y (defArgs stm) (defBody stm) (defScope stm) .none kV doc pm an cdv ct), osl⟩) (c : PySem.W.codeIn K cdv y = true) (k : PySem.W.keepIn K (.ref f) = true) : FactsAt K x y stm := ⟨f, oc, od, an, osl, kV, doc, pm, cdv, ct, a, l, c, k⟩
theorem FactsAt.at {K : PySem.W.Frag} {x y : Str} {stm : Stmt} {G : Nm} {mg : Str → Option Value} {h : Heap} {f : Nat} {fd : Fn} {N ps : List Str} (F : FactsAt K x y stm) (X : K.In h) (g : h.Ns mainGlobals mg) (sc : FnScope N ps (defScope stm))
    (hb : ∀ (kV doc pm : Value) (an : Option Addr) (cdv ct : Value) (us : List Value), us.length = ps.length → bindArgs (PySem.W.fnOf y y (defArgs stm) (defBody stm) (defScope stm) .none kV doc pm an cdv ct) ⟨us, []⟩ = pure (ps.zip us))
    (ck : chkSs G N (defScope stm) fd.body (defBody stm) = true) (hn : G.fname f = x) (h1 : ps.length = fd.np) (h2 : N.length = fd.ns) (nd : G.dfl f = true → False) : DefAt G K mg f fd := by
  obtain ⟨a, oc, od, an, osl, kV, doc, pm, cdv, ct, e1, e2, e3, e4⟩ := F
  have fm := fun_mk (st := stm) e2 e3 e4
  exact ⟨y, y, stm, a, _, N, ps, FunG.of fm, sc, by rw [hn]; exact PySem.W.mg_of X g e1, fm.binds hb, fun z => (nd z).elim, ck, h1, h2⟩
/-- a def whose last parameter may be left out: None stands for it -/
def FactsD (K : PySem.W.Frag) (x y : Str) (stm : Stmt) : Prop :=
  ∃ (f T : Addr) (oc : Value) (od an : Option Addr) (osl : Array (Option Value)) (kV doc pm cdv ct : Value) (o : Obj) (n : Nat), PySem.W.nsIn K mainGlobals x = some (some (.ref f)) ∧ K.lookup f = some ⟨oc, od, .func (PySem.W.fnOf y y (defArgs stm) (defBody stm) (defScope stm) (.ref T) kV doc pm an cdv ct), osl⟩ ∧
    PySem.W.codeIn K cdv y = true ∧ PySem.W.keepIn K (.ref f) = true ∧ K.lookup T = some o ∧ o.data = .seq #[.none] n
theorem factsD_mk {K : PySem.W.Frag} {x y : Str} {stm : Stmt} {f T : Addr} {oc : Value} {od an : Option Addr} {osl : Array (Option Value)} {kV doc pm cdv ct : Value} {o : Obj} (a : PySem.W.nsIn K mainGlobals x = some (some (.ref f)))
    (l : K.lookup f = some ⟨oc, od, .func (PySem.W.fnOf y y (defArgs stm) (defBody stm) (defScope stm) (.ref T) kV doc pm an cdv ct), osl⟩) (c : PySem.W.codeIn K cdv y = true) (k : PySem.W.keepIn K (.ref f) = true) (t : K.lookup T = some o) (d : ∃ n, o.data = .seq #[.none] n) : FactsD K x y stm :=
  let ⟨n, d⟩ := d; ⟨f, T, oc, od, an, osl, kV, doc, pm, cdv, ct, o, n, a, l, c, k, t, d⟩
theorem FactsD.at {K : PySem.W.Frag} {x y : Str} {stm : Stmt} {G : Nm} {mg : Str → Option Value} {h : Heap} {f : Nat} {fd : Fn} {N ps : List Str} {q : Nat} (F : FactsD K x y stm) (X : K.In h) (g : h.Ns mainGlobals mg) (sc : FnScope N ps (defScope stm)) (hq : q + 1 = ps.length)
    (hb1 : ∀ (T : Addr) (kV doc pm : Value) (an : Option Addr) (cdv ct : Value) (us its : List Value), us.length = q + 1 → its.length = 1 →
      ∃ k, bindArgs (PySem.W.fnOf y y (defArgs stm) (defBody stm) (defScope stm) (.ref T) kV doc pm an cdv ct) ⟨us, []⟩ = seqItems? (.ref T) >>= k ∧ k (some its.toArray) = pure (ps.zip (us ++ its.drop 1)))
    (hb0 : ∀ (T : Addr) (kV doc pm : Value) (an : Option Addr) (cdv ct : Value) (us its : List Value), us.length = q → its.length = 1 →
      ∃ k, bindArgs (PySem.W.fnOf y y (defArgs stm) (defBody stm) (defScope stm) (.ref T) kV doc pm an cdv ct) ⟨us, []⟩ = seqItems? (.ref T) >>= k ∧ k (some its.toArray) = pure (ps.zip (us ++ its.drop 0)))
    (ck : chkSs G N (defScope stm) fd.body (defBody stm) = true) (hn : G.fname f = x) (h1 : ps.length = fd.np) (h2 : N.length = fd.ns) : DefAt G K mg f fd := by
  obtain ⟨a, T, oc, od, an, osl, kV, doc, pm, cdv, ct, o, n, e1, e2, e3, e4, e5, e6⟩ := F
  have FD : FunD K y y (defArgs stm) (defBody stm) (defScope stm) [V.non] [] a (PySem.W.fnOf y y (defArgs stm) (defBody stm) (defScope stm) (.ref T) kV doc pm an cdv ct) := ⟨⟨oc, od, .ref T, kV, doc, pm, an, cdv, ct, osl, rfl, e2, e3, .inr ⟨by simp, T, o, [.none], n, rfl, e5, e6, .cons rfl .nil⟩, .inl rfl⟩, e4⟩
  obtain ⟨d1, r1, b1⟩ := FD.binds1 (q + 1) 1 (by simp) (by simpa using hq) hb1
  obtain ⟨d0, r0, b0⟩ := FD.binds1 q 0 (by simp) (by simpa using hq) hb0
  refine ⟨y, y, stm, a, _, N, ps, ⟨⟨oc, od, .ref T, kV, doc, pm, an, cdv, ct, osl, rfl, e2, e3⟩, e4⟩, sc, by rw [hn]; exact PySem.W.mg_of X g e1, ?_, fun _ => ?_, ck, h1, h2⟩
  · cases r1; exact b1
  · cases r0 with
    | cons u t => cases u; cases t; exact b0
/-- texts of the top's tuple -/
def StrTup (K : PySem.W.Frag) (x : Str) (zs : List Str) : Prop :=
  ∃ (a : Addr) (o : Obj) (its : Array Value) (n : Nat), PySem.W.nsIn K mainGlobals x = some (some (.ref a)) ∧ K.lookup a = some o ∧ o.cls = .type "tuple" ∧ o.data = .seq its n ∧ o.dict = none ∧ its.size ≤ sizeLine ∧ Vals (zs.map V.str) its.toList
theorem strtup_mk {K : PySem.W.Frag} {x : Str} {zs : List Str} {a : Addr} {o : Obj} (h : PySem.W.nsIn K mainGlobals x = some (some (.ref a))) (l : K.lookup a = some o)
    (r : o.cls = .type "tuple" ∧ ∃ (its : Array Value) (n : Nat), o.data = .seq its n ∧ o.dict = none ∧ its.size ≤ sizeLine ∧ Vals (zs.map V.str) its.toList) : StrTup K x zs :=
  let ⟨h1, its, n, h2, h3, h4, h5⟩ := r; ⟨a, o, its, n, h, l, h1, h2, h3, h4, h5⟩
theorem StrTup.at {w : World} {K : PySem.W.Frag} {mg : Str → Option Value} {h : Heap} {x : Str} {zs : List Str} (F : StrTup K x zs) (X : K.In h) (g : h.Ns mainGlobals mg) : ConAt w K mg x (.tup (zs.map D.str)) := by
  obtain ⟨a, o, its, n, e1, e2, e3, e4, e5, e6, e7⟩ := F
  refine ⟨a, zs.map V.str, PySem.W.mg_of X g e1, ⟨⟨o, its, n, e2, e3, e4, e6, e7⟩, o, e2, e3, e5⟩, ?_⟩
  clear e7
  induction zs with
  | nil => simp [Rels]
  | cons z r ih => simp only [List.map_cons, Rels]; exact ⟨_, _, rfl, by simp only [Rel], ih⟩
/-- a written dict of texts -/
inductive DicIs (K : PySem.W.Frag) (a : Addr) : List (Str × Str) → Prop where
  | nil : DicIs K a []
  | cons {p : Str × Str} {r : List (Str × Str)} (h : ∃ u, PySem.W.nsIn K a p.1 = some (some u) ∧ RelV (V.str p.2) u) (t : DicIs K a r) : DicIs K a (p :: r)
def StrDic (w : World) (K : PySem.W.Frag) (x : Str) (zs : List (Str × Str)) : Prop :=
  ∃ (a : Addr) (es : Array DictEntry) (n : Nat), PySem.W.nsIn K mainGlobals x = some (some (.ref a)) ∧ K.lookup a = some ⟨.type "dict", none, .dict es n, #[]⟩ ∧ PySem.W.KeysLit w.params es.toList ∧ DicIs K a zs
theorem strdic_mk {w : World} {K : PySem.W.Frag} {x : Str} {zs : List (Str × Str)} {a : Addr} {es : Array DictEntry} {n : Nat} (h : PySem.W.nsIn K mainGlobals x = some (some (.ref a))) (l : K.lookup a = some ⟨.type "dict", none, .dict es n, #[]⟩) (hk : PySem.W.KeysLit w.params es.toList) (r : DicIs K a zs) : StrDic w K x zs := ⟨a, es, n, h, l, hk, r⟩
theorem StrDic.at {w : World} {K : PySem.W.Frag} {mg : Str → Option Value} {h : Heap} {x : Str} {zs : List (Str × Str)} (F : StrDic w K x zs) (X : K.In h) (g : h.Ns mainGlobals mg) : ConAt w K mg x (.frz (zs.map fun p => .tup [.str p.1, .str p.2])) := by
  obtain ⟨a, es, n, e1, e2, e3, e4⟩ := F
  refine ⟨a, PySem.W.mg_of X g e1, ?_⟩
  induction e4 with
  | nil => intro z u hz; simp [D.dcGet] at hz
  | cons h t ih =>
    intro z u hz
    simp only [List.map_cons, D.dcGet] at hz
    split at hz
    · rename_i q
      cases hz
      obtain ⟨v, q1, q2⟩ := h
      exact ⟨es, n, v, e2, e3, by rw [← q]; exact q1, q2⟩
    · exact ih z u hz
theorem law_sp {Γ : Gam} {tb : Tb} {k f : Nat} {H : Hp} {a : Addr} {ns : List Int} (hO : Only H) (hS : SqL Γ.K H a (ns.map V.int)) (hf : ∃ st, runF tb k f ⟨0, [], []⟩ [.frz (ns.map D.int)] [] = .ok (.d (.bl true)) st) :
    spF Γ (runF tb k) f 1 false [.ref a] H (fun v _ => v = .bl true) fun _ _ _ => False := by
  obtain ⟨st, hf⟩ := hf
  have hz : FrzL Γ.K H a (ns.map V.int) := by
    rcases hS with (h | ⟨o, h⟩) | h
    · rcases hO a with z | ⟨o, xs, z⟩
      · rw [z] at h; cases h
      · rw [z] at h; cases h
    · exact .inl ⟨o, h⟩
    · exact .inr h
  refine ⟨rfl, [], H, [], [], [.frz (ns.map D.int)], ⟨0, [], []⟩, Step.refl _ _, fun _ => ⟨Nat.le_refl _, fun n hn => by cases hn⟩, ⟨⟨rfl, List.nodup_nil, fun n c e => by simp [pick] at e⟩, ⟨Nat.le_refl _, fun b hb => by simp at hb, fun b hb n c hn e => by simp [pick] at e⟩, fun n hn => by cases hn⟩, ?_, ?_⟩
  · simp only [Rels, Rel]
    exact ⟨.ref a, [], rfl, ⟨a, _, rfl, hz, rels_of_ints ns⟩, rfl⟩
  · rw [hf]
    exact fun ad' H' v s n p => rel_bl p.1
def fnms (i : Nat) : Str := ⟨(List.replicate i 97).toArray⟩
theorem fnms_inj : ∀ i j, fnms i = fnms j → i = j := fun i j e => by
  have := congrArg (fun s : Str => s.cps.size) e
  simpa [fnms] using this
/-- a law: its def's run tells True -/
theorem law_end {l : PySem.W.OpenLaw} {q : Program} {loose : List Str} {XP : (Str → Option Value) → Heap → Prop} {YP : World → Heap → Prop} {d : DefRec} {K : Params → PySem.W.Frag} {G : Nm} {tb : Tb} {f k : Nat} {fd : Fn} {x nm : Str} {N : List Str} {stm : Stmt}
    (hn : l.most = some 63) (hdf : d.params.defaults = []) (hr : Room (k + 1) callerA) (hY : ∀ (w : World) (h : Heap), YP w h → (K w.params).In h) (hfd : tb.fn f = some fd) (hlk : fd.leaky = false) (hnp : fd.np = 1) (hnm : d.name = nm)
    (sc : FnScope N [x] (defScope stm)) (ck : chkSs G N (defScope stm) fd.body (defBody stm) = true) (h2 : N.length = fd.ns)
    (hb : ∀ (kV doc pm : Value) (an : Option Addr) (cdv ct : Value) (us : List Value), us.length = [x].length → bindArgs (PySem.W.fnOf nm nm (defArgs stm) (defBody stm) (defScope stm) .none kV doc pm an cdv ct) ⟨us, []⟩ = pure ([x].zip us))
    (FL : ∀ w : World, FactsAt (K w.params) nm nm stm)
    (F : ∀ (w : World) (mg : Str → Option Value) (h : Heap), (K w.params).In h → h.Ns mainGlobals mg → (∀ f fd, tb.fn f = some fd → DefAt G (K w.params) mg f fd) ∧ (∀ g y, G.con g = some y → ConAt w (K w.params) mg y (tb.con g)) ∧ ∀ x ∈ G.blt, mg x = none)
    (hrun : ∀ ns : List Int, ns.length ≤ 63 → (∀ z ∈ ns, Builtin.Int.intBits z ≤ 1048576) → ∃ st, runF tb (k + 1) f ⟨0, [], []⟩ [.frz (ns.map D.int)] [] = .ok (.d (.bl true)) st) :
    PySem.W.WalkO q loose XP YP l.row.toRowW d [] (fun f vs => PySem.call f vs) := by
  refine walk_ofB (n := 63) (k := k + 1) (x := x) (CX := fun w => L2.CX l.prog w) (sp := fun w => spF ⟨K w.params, fun _ => 0, fnms, fnms_inj⟩ (runF tb (k + 1)) f 1 false) hn (by decide) hdf hr hY (fun w mg fa h KX g hmg => ?_) (fun w H a ns hl hbits hO hS => law_sp hO hS (hrun ns hl hbits)) (fun w H s e s' h => ?_)
  · obtain ⟨a, oc, od, an, osl, kV, doc, pm, cdv, ct, e1, e2, e3, e4⟩ := FL w
    have fm := FunG.of (fun_mk (st := stm) e2 e3 e4)
    rw [hnm, PySem.W.mg_of KX g e1] at hmg
    cases hmg
    refine ⟨_, fun s u => .of_eq (hb kV doc pm an cdv ct [u] rfl), fun base kb gb => ?_⟩
    obtain ⟨f1, f2, f3⟩ := F w mg base kb gb
    have := def_step (Γ := ⟨K w.params, fun _ => 0, fnms, fnms_inj⟩) (P := l.prog) (w := w) (base := base) rfl (fun f fd hf => defs_ok rfl f1 f2 f3 k f fd hf) f2 f3 hfd fm sc ck (by rw [hnp]; rfl) h2
    rw [hnp, hlk] at this
    exact this
  · obtain ⟨_, _, _, _, _, _, _, _, _, _, _, _, z⟩ := h
    exact z.elim
end L3
/-! L3X: how a run is followed, in plain terms -/
namespace L3
open PySem
def Out.to {α : Type} (o : Out α) (P : α → St → Prop) : Prop := match o with | .ok a st => P a st | _ => False
def Fl.to (f : Fl) (nx : Env → St → Prop) (rt : R → St → Prop) : Prop := match f with | .nx σ st => nx σ st | .rt r st => rt r st | _ => False
section
variable {α β : Type} {P Q : α → St → Prop} {F : Calls} {tb : Tb} {K : Ct} {σ : Env} {st : St}
theorem to_bind {m : Out α} {f : α → St → Out β} {P : β → St → Prop} : (m.bind f).to P ↔ m.to fun a st => (f a st).to P := by cases m <;> rfl
theorem to_ok {a : α} : (Out.ok a st).to P ↔ P a st := Iff.rfl
theorem to_okR {x : D} {P : R → St → Prop} : (okR x st).to P ↔ P (.d x) st := Iff.rfl
theorem to_bad : (Out.bad : Out α).to P ↔ False := Iff.rfl
theorem to_if {c : Prop} [Decidable c] {a : Out α} : (if c then a else .bad).to P ↔ c ∧ a.to P := by split <;> simp_all [Out.to]
theorem to_ite {c : Prop} [Decidable c] {a b : Out α} : (if c then a else b).to P ↔ if c then a.to P else b.to P := by split <;> rfl
theorem Out.to.imp {m : Out α} (h : m.to P) (i : ∀ a st, P a st → Q a st) : m.to Q := by cases m <;> first | exact i _ _ h | exact h
theorem fl_bind {m : Out R} {f : R → St → Fl} {nx : Env → St → Prop} {rt : R → St → Prop} : (m.fl σ f).to nx rt ↔ m.to fun r st => (f r st).to nx rt := by cases m <;> rfl
theorem fl_nx {nx : Env → St → Prop} {rt : R → St → Prop} : (Fl.nx σ st).to nx rt ↔ nx σ st := Iff.rfl
theorem fl_rt {r : R} {nx : Env → St → Prop} {rt : R → St → Prop} : (Fl.rt r st).to nx rt ↔ rt r st := Iff.rfl
theorem fl_bad {nx : Env → St → Prop} {rt : R → St → Prop} : (Fl.bad).to nx rt ↔ False := Iff.rfl
theorem fl_if {c : Prop} [Decidable c] {a : Fl} {nx : Env → St → Prop} {rt : R → St → Prop} : (if c then a else .bad).to nx rt ↔ c ∧ a.to nx rt := by split <;> simp_all [Fl.to]
theorem fl_ite {c : Prop} [Decidable c] {a b : Fl} {nx : Env → St → Prop} {rt : R → St → Prop} : (if c then a else b).to nx rt ↔ if c then a.to nx rt else b.to nx rt := by split <;> rfl
theorem Fl.to.imp {f : Fl} {nx nx' : Env → St → Prop} {rt rt' : R → St → Prop} (h : f.to nx rt) (i : ∀ σ st, nx σ st → nx' σ st) (j : ∀ r st, rt r st → rt' r st) : f.to nx' rt' := by
  cases f <;> first | exact i _ _ h | exact j _ _ h | exact h
theorem ss_nil {nx : Env → St → Prop} {rt : R → St → Prop} : (denSs F tb K .nil σ st).to nx rt ↔ nx σ st := by simp only [denSs]; rfl
theorem ss_cons {s : S} {ss : Ss} {nx : Env → St → Prop} {rt : R → St → Prop} : (denSs F tb K (.cons s ss) σ st).to nx rt ↔ (denS F tb K s σ st).to (fun σ st => (denSs F tb K ss σ st).to nx rt) rt := by
  simp only [denSs]
  cases denS F tb K s σ st <;> rfl
theorem s_iff {t : E} {a b : Ss} {nx : Env → St → Prop} {rt : R → St → Prop} : (denS F tb K (.iff t a b) σ st).to nx rt ↔ (denT F tb K t σ st).to fun c st => if c = true then (denSs F tb K a σ st).to nx rt else (denSs F tb K b σ st).to nx rt := by
  simp only [denS]
  cases h : denT F tb K t σ st with
  | ok b st => cases b <;> rfl
  | err x st => rfl
  | bad => rfl
/-- a loop, by an invariant of the turn -/
theorem for_to {g : St → Bool} {body : D → Env → St → Fl} {nx : Env → St → Prop} {rt : R → St → Prop} (I : Nat → Env → St → Prop) : ∀ (xs : List D) (k : Nat) (σ : Env) (st : St), I k σ st → (∀ i σ st, k ≤ i → i ≤ k + xs.length → I i σ st → g st = true) →
    (∀ i x σ st, xs[i]? = some x → I (k + i) σ st → (body x σ st).to (I (k + i + 1)) rt) → (∀ σ st, I (k + xs.length) σ st → nx σ st) → (forRun g body xs σ st).to nx rt
  | [], k, σ, st, h, hg, _, he => by simp only [forRun, if_pos (hg k σ st (Nat.le_refl _) (by simp) h)]; exact he σ st h
  | x :: xs, k, σ, st, h, hg, hs, he => by
    simp only [forRun, if_pos (hg k σ st (Nat.le_refl _) (by simp) h)]
    have h1 := hs 0 x σ st rfl h
    have next : ∀ σ st, I (k + 1) σ st → (forRun g body xs σ st).to nx rt := fun σ st h2 =>
      for_to I xs (k + 1) σ st h2 (fun i σ st a b c => hg i σ st (by omega) (by simp; omega) c) (fun i y σ st e c => by
        have := hs (i + 1) y σ st (by simpa using e) (by rw [show k + (i + 1) = k + 1 + i by omega]; exact c)
        rw [show k + 1 + i + 1 = k + (i + 1) + 1 by omega]; exact this) (fun σ st c => he σ st (by rw [List.length_cons, show k + (xs.length + 1) = k + 1 + xs.length by omega]; exact c))
    cases e : body x σ st with
    | nx σ' st' => rw [e] at h1; exact next σ' st' h1
    | rt r st' => rw [e] at h1; exact h1
    | bk σ' st' => rw [e] at h1; exact h1.elim
    | ct σ' st' => rw [e] at h1; exact h1.elim
    | er y σ' st' => rw [e] at h1; exact h1.elim
    | bad => rw [e] at h1; exact h1.elim
/-- a comprehension's turns, by an invariant of the items made -/
theorem lc_to {g : St → Bool} {step : D → St → Out (Option D)} {P : List D → St → Prop} (I : Nat → List D → St → Prop) : ∀ (xs : List D) (k : Nat) (acc : List D) (st : St), I k acc st → (∀ i a st, k ≤ i → i ≤ k + xs.length → I i a st → g st = true) →
    (∀ i x a st, xs[i]? = some x → I (k + i) a st → (step x st).to fun o st => I (k + i + 1) (a ++ o.toList) st) → (∀ a st, I (k + xs.length) (acc ++ a) st → P a st) → (lcRun g step xs st).to P
  | [], k, acc, st, h, hg, _, he => by simp only [lcRun, if_pos (hg k acc st (Nat.le_refl _) (by simp) h)]; exact he [] st (by simpa using h)
  | x :: xs, k, acc, st, h, hg, hs, he => by
    simp only [lcRun, if_pos (hg k acc st (Nat.le_refl _) (by simp) h), to_bind]
    refine (hs 0 x acc st rfl h).imp fun o st1 h1 => ?_
    refine lc_to (P := fun ys st2 => (Out.ok (o.toList ++ ys) st2).to P) I xs (k + 1) (acc ++ o.toList) st1 h1 (fun i a st p q c => hg i a st (by omega) (by simp; omega) c) (fun i y a st e c => ?_) fun a st2 c => ?_
    · have := hs (i + 1) y a st (by simpa using e) (by rw [show k + (i + 1) = k + 1 + i by omega]; exact c)
      rw [show k + 1 + i + 1 = k + (i + 1) + 1 by omega]; exact this
    · exact he (o.toList ++ a) st2 (by rw [List.length_cons, show k + (xs.length + 1) = k + 1 + xs.length by omega, ← List.append_assoc]; exact c)
theorem to_noErr {m : Out α} : m.noErr.to P ↔ m.to P := by cases m <;> rfl
/-! ### cells -/
theorem set_cons {c d : Cell} {a : Nat} (h : a < st.length) : St.set (c :: st) a d = c :: St.set st a d := by
  simp only [St.set]; rw [if_neg (by omega)]
theorem set_top {c d : Cell} : St.set (c :: st) st.length d = d :: st := by simp [St.set]
theorem len_set : ∀ (st : St) (a : Nat) (d : Cell), (St.set st a d).length = st.length
  | [], _, _ => rfl
  | c :: st, a, d => by simp only [St.set]; split <;> simp [len_set st a d]
theorem set_set : ∀ (st : St) (a : Nat) (c d : Cell), St.set (St.set st a c) a d = St.set st a d
  | [], _, _, _ => rfl
  | e :: st, a, c, d => by
    simp only [St.set]
    split
    · rename_i h; simp [St.set, h]
    · rename_i h; simp only [St.set, len_set]; rw [if_neg h, set_set st a c d]
theorem pick_set : ∀ (st : St) (a : Nat) (d : Cell), a < st.length → pick (St.set st a d) a = some d
  | [], _, _, h => by simp at h
  | e :: st, a, d, h => by
    simp only [St.set]
    split
    · rename_i h; simp [pick, h]
    · rename_i h2; simp only [pick, len_set]; rw [if_neg h2]; exact pick_set st a d (by simp at h; omega)
theorem pick_set_ne : ∀ (st : St) (a b : Nat) (d : Cell), a ≠ b → pick (St.set st a d) b = pick st b
  | [], _, _, _, _ => rfl
  | e :: st, a, b, d, h => by
    simp only [St.set]
    split
    · rename_i h2; simp only [pick]; rw [if_neg (by omega), if_neg (by omega)]
    · rename_i h2; simp only [pick, len_set]; rw [pick_set_ne st a b d h]
theorem pick_cons {c : Cell} {a : Nat} (h : a < st.length) : pick (c :: st) a = pick st a := by
  simp only [pick]; rw [if_neg (by omega)]
theorem pick_top {c : Cell} : pick (c :: st) st.length = some c := by simp [pick]
theorem cut_self : ∀ (st : St), St.cut st.length st = st
  | [] => rfl
  | c :: st => by simp [St.cut]
theorem cut_cons {c : Cell} {n : Nat} (h : n ≤ st.length) : St.cut n (c :: st) = St.cut n st := by
  simp only [St.cut]; rw [if_neg (by omega)]
/-! ### terms -/
theorem e_var {i : Nat} {P : R → St → Prop} : (denE F tb K (.var i) σ st).to P ↔ (match σ[i]? with | some (some x) => okR x st | _ => .bad).to P := by simp only [denE] <;> rfl
theorem e_lit {x : D} {P : R → St → Prop} : (denE F tb K (.lit x) σ st).to P ↔ P (.d x) st := by simp only [denE] <;> rfl
theorem e_con {g : Nat} {P : R → St → Prop} : (denE F tb K (.con g) σ st).to P ↔ (match tb.con g with | .tup ds => Out.ok (R.kt ds) st | .frz _ => .bad | x => okR x st).to P := by simp only [denE] <;> rfl
theorem e_p1 {f : P1} {a : E} {P : R → St → Prop} : (denE F tb K (.p1 f a) σ st).to P ↔ (denE F tb K a σ st).to fun x st => (ev1 f K x st).to P := by simp only [denE, to_bind]
theorem e_p2 {f : P2} {a b : E} {P : R → St → Prop} : (denE F tb K (.p2 f a b) σ st).to P ↔ (denE F tb K a σ st).to fun x st => pre2 f x st = true ∧ (denE F tb K b σ st).to fun y st => (ev2 f K x y st).to P := by simp only [denE, to_bind, to_if]
theorem e_lst {es : Es} {P : R → St → Prop} : (denE F tb K (.lst es) σ st).to P ↔ (denEs F tb K es σ st).to fun xs st => xs.length ≤ sizeLine ∧ P (.fl xs) st := by simp only [denE, to_bind, to_if]; rfl
theorem e_tup {es : Es} {P : R → St → Prop} : (denE F tb K (.tup es) σ st).to P ↔ (denEs F tb K es σ st).to fun xs st => xs.length ≤ sizeLine ∧ P (.d (.tup xs)) st := by simp only [denE, to_bind, to_if]; rfl
theorem e_one {a : E} {P : R → St → Prop} : (denE F tb K (.one a) σ st).to P ↔ (denE F tb K a σ st).to P := by simp only [denE]
theorem e_slc {a : E} {lo hi : Eo} {P : R → St → Prop} : (denE F tb K (.slc a lo hi) σ st).to P ↔ (denE F tb K a σ st).to fun x st => (denEo F tb K lo σ st).to fun l st => (denEo F tb K hi σ st).to fun h st => (evSl x l h st).to P := by simp only [denE, to_bind]
theorem e_call {f : Nat} {fd : Fn} {es : Es} {P : R → St → Prop} (h : tb.fn f = some fd) (hl : fd.leaky = false) : (denE F tb K (.call f es) σ st).to P ↔ (denEs F tb (K.sub st) es σ st).to fun xs st1 => (F f (K.sub st) xs st1).to P := by
  simp only [denE, h, hl, Bool.false_eq_true, if_false, to_bind]
theorem es_nil {P : List D → St → Prop} : (denEs F tb K .nil σ st).to P ↔ P [] st := by simp only [denEs] <;> rfl
theorem es_cons {e : E} {es : Es} {P : List D → St → Prop} : (denEs F tb K (.cons e es) σ st).to P ↔ (denE F tb K e σ st).to fun r st => match r.toD st with | some (x, st) => (denEs F tb K es σ st).to fun xs st2 => P (x :: xs) st2 | none => False := by
  simp only [denEs, to_bind]
  refine iff_of_eq (congrArg _ ?_)
  funext r st
  cases r.toD st with
  | none => rfl
  | some p => simp only [to_bind]; rfl
theorem e_fz {e : E} {P : R → St → Prop} : (denE F tb K (.fz e) σ st).to P ↔ (denE F tb K e σ st).to fun r st => P r.frz st := by simp only [denE, to_bind]; rfl
theorem e_cget {g : Nat} {k : E} {ds : List D} {P : R → St → Prop} (h : tb.con g = .frz ds) : (denE F tb K (.cget g k) σ st).to P ↔ (denE F tb K k σ st).to fun r st => match r with | .d (.str z) => (match D.dcGet ds z with | some u => P (.d (.str u)) st | none => False) | _ => False := by
  simp only [denE, h, to_bind]
  refine iff_of_eq (congrArg _ ?_)
  funext r st
  cases r with
  | d x =>
    cases x with
    | str z => dsimp only; cases D.dcGet ds z <;> rfl
    | _ => rfl
  | _ => rfl
theorem frz_d {x : D} : R.frz (.d x) = .d x := rfl
theorem frz_fl {xs : List D} : R.frz (.fl xs) = .d (.frz xs) := rfl
theorem frz_fd {t : Bool} {kvs : Kvs} : R.frz (.fd t kvs) = .fd t kvs := rfl
theorem o_no {P : Option Int → St → Prop} : (denEo F tb K .no σ st).to P ↔ P none st := by simp only [denEo] <;> rfl
theorem o_yes {e : E} {P : Option Int → St → Prop} : (denEo F tb K (.yes e) σ st).to P ↔ (denE F tb K e σ st).to fun r st => match r with | .d (.int i) => P (some i) st | _ => False := by
  simp only [denEo, to_bind]
  refine iff_of_eq (congrArg _ ?_)
  funext r st
  cases r with
  | d x => cases x <;> rfl
  | _ => rfl
theorem t_plain {e : E} {P : Bool → St → Prop} (h : denT F tb K e = fun σ st => (denE F tb K e σ st).bind R.test) : (denT F tb K e σ st).to P ↔ (denE F tb K e σ st).to fun r st => (r.test st).to P := by rw [h]; exact to_bind
theorem t_p2 {f : P2} {a b : E} {P : Bool → St → Prop} : (denT F tb K (.p2 f a b) σ st).to P ↔ (denE F tb K (.p2 f a b) σ st).to fun r st => (r.test st).to P := by simp only [denT, to_bind]
theorem t_p1 {f : P1} {a : E} {P : Bool → St → Prop} : (denT F tb K (.p1 f a) σ st).to P ↔ (denE F tb K (.p1 f a) σ st).to fun r st => (r.test st).to P := by simp only [denT, to_bind]
theorem t_one {a : E} {P : Bool → St → Prop} : (denT F tb K (.one a) σ st).to P ↔ (denT F tb K a σ st).to P := by simp only [denT]
theorem t_not {a : E} {P : Bool → St → Prop} : (denT F tb K (.not a) σ st).to P ↔ (denT F tb K a σ st).to fun b st => P (!b) st := by simp only [denT, to_bind] <;> rfl
theorem t_and {a b : E} {P : Bool → St → Prop} : (denT F tb K (.and a b) σ st).to P ↔ (denT F tb K a σ st).to fun c st => if c = true then (denT F tb K b σ st).to P else P false st := by simp only [denT, to_bind, to_ite]; rfl
theorem t_or {a b : E} {P : Bool → St → Prop} : (denT F tb K (.or a b) σ st).to P ↔ (denT F tb K a σ st).to fun c st => if c = true then P true st else (denT F tb K b σ st).to P := by simp only [denT, to_bind, to_ite]; rfl
theorem test_bl {b : Bool} {P : Bool → St → Prop} : ((R.d (.bl b)).test st).to P ↔ P b st := Iff.rfl
theorem s_ret {e : E} {nx : Env → St → Prop} {rt : R → St → Prop} : (denS F tb K (.ret e) σ st).to nx rt ↔ (denE F tb K e σ st).to rt := by simp only [denS, fl_bind]; rfl
theorem s_expr {e : E} {nx : Env → St → Prop} {rt : R → St → Prop} : (denS F tb K (.expr e) σ st).to nx rt ↔ (denE F tb K e σ st).to fun _ st => nx σ st := by simp only [denS, fl_bind]; rfl
theorem s_asg {tg : Tg} {e : E} {nx : Env → St → Prop} {rt : R → St → Prop} : (denS F tb K (.asg tg e) σ st).to nx rt ↔ (denE F tb K e σ st).to fun r st => match r.toD st with | some (x, st) => (match tg.put x σ with | some σ' => nx σ' st | none => False) | none => False := by
  simp only [denS, fl_bind]
  refine iff_of_eq (congrArg _ ?_)
  funext r st
  cases r.toD st with
  | none => rfl
  | some p => cases p with | mk x st => dsimp only; cases tg.put x σ <;> rfl
theorem s_setix {o i v : E} {nx : Env → St → Prop} {rt : R → St → Prop} : (denS F tb K (.setix o i v) σ st).to nx rt ↔ (denE F tb K v σ st).to fun r st => match r.toD st with | some (y, st) => (denE F tb K o σ st).to fun x st => (denE F tb K i σ st).to fun k st => (setIx K x k y σ st).to nx rt | none => False := by
  simp only [denS, fl_bind]
  refine iff_of_eq (congrArg _ ?_)
  funext r st
  cases r.toD st with
  | none => rfl
  | some p => simp only [fl_bind]
theorem run_to {n f : Nat} {fd : Fn} {xs : List D} {P : R → St → Prop} (h : tb.fn f = some fd) (hl : fd.leaky = false) (hn : xs.length = fd.np) :
    (runF tb (n + 1) f K xs st).to P ↔ (leave K (denSs (runF tb n) tb K fd.body (xs.map some ++ List.replicate (fd.ns - fd.np) none) st)).to P := by
  simp only [runF, h, hl, hn, if_true, Bool.false_eq_true, if_false]
theorem leave_to {f : Fl} {P : R → St → Prop} : (leave K f).to P ↔ f.to (fun _ st => P (.d .non) (St.cut K.base st)) fun r st => (leave K (.rt r st)).to P := by
  cases f with
  | er x ρ st =>
    obtain ⟨c, v⟩ := x
    cases v with
    | none => simp only [leave, if_true]; rfl
    | some d => simp only [leave]; split <;> rfl
  | _ => rfl
theorem leave_int {i : Int} {P : R → St → Prop} : (leave K (.rt (.d (.int i)) st)).to P ↔ P (.d (.int i)) (St.cut K.base st) := by simp [leave, D.under, Out.to]
/-! ### operations -/
section
variable {P : R → St → Prop} {i j : Int} {a : Nat} {xs : List D} {v : D}
theorem ix_ref (h : pick st a = some (.lst xs)) (hv : atD xs i = some v) : (ev2 .item K (.d (.ref a)) (.d (.int i)) st).to P ↔ P (.d v) st := by
  simp only [ev2, R.kvs, R.items, St.get, h, hv]; rfl
theorem ix_tup (hv : atD xs i = some v) : (ev2 .item K (.d (.tup xs)) (.d (.int i)) st).to P ↔ P (.d v) st := by
  simp only [ev2, R.kvs, R.items, hv]; rfl
theorem ix_fl (hv : atD xs i = some v) : (ev2 .item K (.fl xs) (.d (.int i)) st).to P ↔ P (.d v) st := by
  simp only [ev2, R.kvs, R.items, hv]; rfl
theorem ix_frz (hv : atD xs i = some v) : (ev2 .item K (.d (.frz xs)) (.d (.int i)) st).to P ↔ P (.d v) st := by
  simp only [ev2, R.kvs, R.items, hv]; rfl
theorem v_add : (ev2 .add K (.d (.int i)) (.d (.int j)) st).to P ↔ P (.d (.int (i + j))) st := Iff.rfl
theorem v_sub : (ev2 .sub K (.d (.int i)) (.d (.int j)) st).to P ↔ P (.d (.int (i - j))) st := Iff.rfl
theorem v_lt : (ev2 .lt K (.d (.int i)) (.d (.int j)) st).to P ↔ P (.d (.bl (decide (i < j)))) st := Iff.rfl
theorem v_le : (ev2 .le K (.d (.int i)) (.d (.int j)) st).to P ↔ P (.d (.bl (decide (i ≤ j)))) st := Iff.rfl
theorem v_gt : (ev2 .gt K (.d (.int i)) (.d (.int j)) st).to P ↔ P (.d (.bl (decide (j < i)))) st := Iff.rfl
theorem v_ge : (ev2 .ge K (.d (.int i)) (.d (.int j)) st).to P ↔ P (.d (.bl (decide (j ≤ i)))) st := Iff.rfl
theorem v_eq : (ev2 .eq K (.d (.int i)) (.d (.int j)) st).to P ↔ P (.d (.bl (decide (i = j)))) st := by
  simp only [ev2, R.cmp, D.plain, if_true, D.py, PyData.eqv]
  have : (i == j) = decide (i = j) := by by_cases z : i = j <;> simp [z]
  rw [this]; rfl
theorem v_ne : (ev2 .ne K (.d (.int i)) (.d (.int j)) st).to P ↔ P (.d (.bl (!decide (i = j)))) st := by
  simp only [ev2, R.cmp, D.plain, if_true, D.py, PyData.eqv]
  have : (i == j) = decide (i = j) := by by_cases z : i = j <;> simp [z]
  rw [this]; rfl
theorem v_mul : (ev2 .mul K (.d (.int i)) (.d (.int j)) st).to P ↔ i.natAbs.log2 + j.natAbs.log2 < 100000000 ∧ P (.d (.int (i * j))) st := by simp only [ev2, to_if]; rfl
theorem v_mod (h : 0 < j) : (ev2 .mod K (.d (.int i)) (.d (.int j)) st).to P ↔ P (.d (.int (i % j))) st := by simp only [ev2, if_pos h]; rfl
theorem v_fdiv (h : 0 < j) (h2 : j.natAbs.log2 < 9000) : (ev2 .fdiv K (.d (.int i)) (.d (.int j)) st).to P ↔ P (.d (.int (i / j))) st := by simp only [ev2, if_pos (And.intro h h2)]; rfl
theorem log_lt {x : Int} {k : Nat} (h : x.natAbs < 2 ^ k) (hk : 0 < k) : x.natAbs.log2 < k := by
  rcases Nat.eq_zero_or_pos x.natAbs with z | z
  · rw [z]; simpa using hk
  · exact (Nat.log2_lt (by omega)).mpr h
theorem log64 {x : Int} (h : -18446744073709551616 < x) (h2 : x < 18446744073709551616) : x.natAbs.log2 < 64 := log_lt (by omega) (by decide)
theorem mul64 {x y : Int} (h : -18446744073709551616 < x) (h2 : x < 18446744073709551616) (h3 : -18446744073709551616 < y) (h4 : y < 18446744073709551616) : x.natAbs.log2 + y.natAbs.log2 < 100000000 := by
  have := log64 h h2; have := log64 h3 h4; omega
theorem mul100 {x y : Int} (h : x.natAbs < 1267650600228229401496703205376) (h2 : y.natAbs < 1267650600228229401496703205376) : x.natAbs.log2 + y.natAbs.log2 < 100000000 := by
  have := log_lt (k := 100) h (by decide); have := log_lt (k := 100) h2 (by decide); omega
theorem v_pow : (ev2 .pow K (.d (.int i)) (.d (.int j)) st).to P ↔ (0 ≤ j ∧ j ≤ 1000000 ∧ i.natAbs < 2 ^ 64) ∧ P (.d (.int (i ^ j.toNat))) st := by simp only [ev2, to_if]; rfl
theorem v_neg : (ev1 .neg K (.d (.int i)) st).to P ↔ P (.d (.int (-i))) st := Iff.rfl
theorem v_intB {b : Bool} : (ev1 .int K (.d (.bl b)) st).to P ↔ P (.d (.int (if b then 1 else 0))) st := Iff.rfl
theorem v_intI : (ev1 .int K (.d (.int i)) st).to P ↔ P (.d (.int i)) st := Iff.rfl
theorem toD_d {x : D} : R.toD (.d x) st = some (x, st) := rfl
theorem toD_fl : R.toD (.fl xs) st = some (.ref st.length, .lst xs :: st) := rfl
theorem atD_ok {α : Type} {xs : List α} {i : Int} (h : 0 ≤ i) (h2 : i < xs.length) : ∃ d, atD xs i = some d := by
  have hi : i.toNat < xs.length := by omega
  exact ⟨xs[i.toNat], by simp only [atD, ixD, if_pos h, if_pos h2, Option.bind_some, List.getElem?_eq_getElem hi]⟩
theorem atD_mem {xs : List D} {i : Int} (h : 0 ≤ i) (h2 : i < xs.length) : ∃ d, atD xs i = some d ∧ d ∈ xs := by
  have hi : i.toNat < xs.length := by omega
  refine ⟨xs[i.toNat], ?_, List.getElem_mem hi⟩
  simp only [atD, ixD, if_pos h, if_pos h2, Option.bind_some, List.getElem?_eq_getElem hi]
/-- any item of a list at hand -/
theorem ix_any (h : 0 ≤ i) (h2 : i < xs.length) (hall : ∀ d ∈ xs, P (.d d) st) : (ev2 .item K (.fl xs) (.d (.int i)) st).to P := by
  obtain ⟨d, hd, hm⟩ := atD_mem h h2
  rw [ix_fl hd]; exact hall d hm
theorem cut_len {n : Nat} (h : st.length = n) : St.cut n st = st := by rw [← h]; exact cut_self st
theorem ints_map : ∀ ns : List Int, D.ints (ns.map D.int) = some ns
  | [] => rfl
  | n :: ns => by simp [D.ints, ints_map ns]
theorem bits_log {z : Int} {N : Nat} (h : Builtin.Int.intBits z ≤ N) : z.natAbs.log2 ≤ N := by
  unfold Builtin.Int.intBits at h
  split at h
  · rename_i e; simp at e; subst e; exact Nat.zero_le _
  · omega
theorem leave_fl (h : D.unders K.base xs = true) : (leave K (.rt (.fl xs) st)).to P ↔ P (.fl xs) (St.cut K.base st) := by simp only [leave, if_pos h]; rfl
theorem leave_d {x : D} (h : x.under K.base = true) : (leave K (.rt (.d x) st)).to P ↔ P (.d x) (St.cut K.base st) := by simp only [leave, if_pos h]; rfl
theorem len_frz : (ev1 .len K (.d (.frz xs)) st).to P ↔ P (.d (.int xs.length)) st := Iff.rfl
theorem len_tup : (ev1 .len K (.d (.tup xs)) st).to P ↔ P (.d (.int xs.length)) st := Iff.rfl
theorem sum_frz {ns : List Int} : (ev1 .sum K (.d (.frz (ns.map D.int))) st).to P ↔ P (.d (.int ns.sum)) st := by simp only [ev1, R.lst?, ints_map]; rfl
/-- a list's cell: one item put -/
theorem set_ref {σ : Env} {nx : Env → St → Prop} {rt : R → St → Prop} {k : Nat} (h : pick st a = some (.lst xs)) (hi : ixD xs.length i = some k) (hm : K.lk = []) (hv : v.flat = true) : (setIx K (.d (.ref a)) (.d (.int i)) v σ st).to nx rt ↔ nx σ (St.set st a (.lst (xs.set k v))) := by
  simp only [setIx, St.get, h, hi, Ct.may, hm, hv, List.contains_nil, Bool.not_false, Bool.true_or, Bool.and_self, if_true]; rfl
theorem cut_set {n : Nat} {c : Cell} (h : n = st.length) : St.cut n (St.set st a c) = St.set st a c := by
  have := cut_self (St.set st a c)
  rw [len_set] at this
  rw [h]; exact this
theorem e_lc1 {e : E} {i : Nat} {it : It} {P : R → St → Prop} (I : Nat → List D → St → Prop)
    (h : (denIt F tb K it σ st).to fun ig s1 => I 0 [] s1 ∧ (∀ k a s, k ≤ ig.1.length → I k a s → still ig.2 s = true) ∧ (∀ k x a s, ig.1[k]? = some x → I k a s → (denE F tb K e (σ.set i (some x)) s).to fun r s => match r.toD s with | some (y, s) => I (k + 1) (a ++ [y]) s | none => False) ∧
      ∀ a s, I ig.1.length a s → a.length ≤ sizeLine ∧ P (.fl a) s) : (denE F tb K (.lc e (.one i) it .no) σ st).to P := by
  simp only [denE, to_bind, to_noErr]
  refine h.imp fun ig s1 ⟨h1, h2, h3, h4⟩ => ?_
  refine lc_to I ig.1 0 [] s1 h1 (fun k a s _ hk hi => h2 k a s (by omega) hi) (fun k x a s e hi => ?_) (fun a s hi => ?_)
  · simp only [Tg.put, denC, Out.bind, if_true, to_bind]
    rw [Nat.zero_add] at hi ⊢
    have := h3 k x a s e hi
    show ((denE F tb K _ _ s).bind _).to _
    rw [to_bind]
    refine this.imp fun r s2 q => ?_
    cases hr : r.toD s2 with
    | none => rw [hr] at q; exact q
    | some p => rw [hr] at q; exact q
  · rw [Nat.zero_add, List.nil_append] at hi
    rw [to_if]
    exact h4 a s hi
theorem it_range1 {a : E} {P : List D × Option (Nat × List D) → St → Prop} : (denIt F tb K (.range1 a) σ st).to P ↔ (denE F tb K a σ st).to fun r st => match r with | .d (.int n) => (-(2 ^ 62) ≤ n ∧ n < 2 ^ 62) ∧ P ((List.range n.toNat).map fun (i : Nat) => D.int i, none) st | _ => False := by
  simp only [denIt, to_bind]
  refine iff_of_eq (congrArg _ ?_)
  funext r st
  cases r with
  | d x => cases x <;> first | rfl | (dsimp only; rw [to_if]; rfl)
  | _ => rfl
theorem it_seq {a : E} {P : List D × Option (Nat × List D) → St → Prop} : (denIt F tb K (.seq a) σ st).to P ↔ (denE F tb K a σ st).to fun r st => match r.items st with | some xs => P (xs, guardOf r xs) st | none => False := by
  simp only [denIt, to_bind]
  refine iff_of_eq (congrArg _ ?_)
  funext r st
  cases r.items st <;> rfl
theorem s_for {i : Nat} {it : It} {b : Ss} {nx : Env → St → Prop} {rt : R → St → Prop} (I : Nat → Env → St → Prop)
    (h : (denIt F tb K it σ st).to fun ig s1 => I 0 σ s1 ∧ (∀ k σ' s, k ≤ ig.1.length → I k σ' s → still ig.2 s = true) ∧ (∀ k x σ' s, ig.1[k]? = some x → I k σ' s → (denSs F tb K b (σ'.set i (some x)) s).to (I (k + 1)) rt) ∧
      ∀ σ' s, I ig.1.length σ' s → nx σ' s) : (denS F tb K (.forr (.one i) it b) σ st).to nx rt := by
  simp only [denS]
  cases q : denIt F tb K it σ st with
  | ok ig s1 =>
    rw [q] at h
    obtain ⟨h1, h2, h3, h4⟩ := h
    refine for_to I ig.1 0 σ s1 h1 (fun k σ' s _ hk hi => h2 k σ' s (by omega) hi) (fun k x σ' s e hi => ?_) (fun σ' s hi => ?_)
    · rw [Nat.zero_add] at hi ⊢
      exact h3 k x σ' s e hi
    · rw [Nat.zero_add] at hi; exact h4 σ' s hi
  | err x s1 => rw [q] at h; exact h.elim
  | bad => rw [q] at h; exact h.elim
theorem pick_mid {c : Cell} {rest : St} : ∀ (gs : St), pick (gs ++ c :: rest) rest.length = some c
  | [] => pick_top
  | g :: gs => by rw [List.cons_append, pick_cons (by simp; omega)]; exact pick_mid gs
theorem set_mid {c d : Cell} {rest : St} : ∀ (gs : St), St.set (gs ++ c :: rest) rest.length d = gs ++ d :: rest
  | [] => set_top
  | g :: gs => by rw [List.cons_append, set_cons (by simp; omega), set_mid gs]; rfl
theorem lst_ref (h : pick st a = some (.lst xs)) : (ev1 .lst K (.d (.ref a)) st).to P ↔ P (.fl xs) st := by simp only [ev1, R.items, St.get, h]; rfl
theorem app_ref (h : pick st a = some (.lst xs)) (hl : xs.length < sizeLine) (hm : K.lk = []) (hv : v.flat = true) : (ev2 .append K (.d (.ref a)) (.d v) st).to P ↔ P (.d .non) (St.set st a (.lst (xs ++ [v]))) := by
  simp only [ev2, toD_d, St.get, h, if_pos hl, setCell, Ct.may, hm, hv, List.contains_nil, Bool.not_false, Bool.true_or, Bool.and_self, if_true]; rfl
theorem pre_app (h : pick st a = some (.lst xs)) : pre2 .append (.d (.ref a)) st = true := by simp only [pre2, St.get, h]
theorem ix_str {z : Str} {c : Nat} (hz : z.length ≤ sizeLine) (hc : atD z.cps.toList i = some c) : (ev2 .item K (.d (.str z)) (.d (.int i)) st).to P ↔ P (.d (.str ⟨#[c]⟩)) st := by simp only [ev2, if_pos hz, hc]; rfl
theorem add_str {x y : Str} (h : x.length + y.length ≤ sizeLine) : (ev2 .add K (.d (.str x)) (.d (.str y)) st).to P ↔ P (.d (.str (x ++ y))) st := by simp only [ev2, if_pos h]; rfl
theorem strs_map : ∀ ns : List Str, D.strs (ns.map D.str) = some ns
  | [] => rfl
  | n :: ns => by simp [D.strs, strs_map ns]
theorem join_fl {z : Str} {ys : List Str} (h : (ys.map (·.length)).sum + ys.length * z.length ≤ 16777216) : (ev2 .join K (.d (.str z)) (.fl (ys.map D.str)) st).to P ↔ P (.d (.str (Str.join z ys))) st := by
  simp only [ev2, R.items, strs_map, if_pos h]; rfl
theorem mul_str01 {z : Str} : (ev2 .mul K (.d (.str z)) (.d (.int j)) st).to P ↔ if j = 0 then P (.d (.str Str.empty)) st else j = 1 ∧ P (.d (.str z)) st := by
  simp only [ev2]
  split
  · rfl
  · rw [to_if]; rfl
theorem leave_new {k : Nat} (hk : K.base ≤ k) (h : pick st k = some (.lst xs)) (hu : D.unders K.base xs = true) : (leave K (.rt (.d (.ref k)) st)).to P ↔ P (.fl xs) (St.cut K.base st) := by
  have : D.under K.base (.ref k) = false := by simp only [D.under]; simp; omega
  simp only [leave, this, Bool.false_eq_true, if_false, St.get, h, if_pos hu]; rfl
theorem app_len (x y : Str) : (x ++ y).length = x.length + y.length := by
  show (x.cps ++ y.cps).size = _
  exact Array.size_append
theorem join_len (z : Str) : ∀ ys : List Str, (Str.join z ys).length ≤ (ys.map (·.length)).sum + ys.length * z.length
  | [] => by show Str.empty.length ≤ _; exact Nat.zero_le _
  | [x] => by show x.length ≤ _; simp
  | x :: y :: r => by
    have := join_len z (y :: r)
    show (x ++ z ++ Str.join z (y :: r)).length ≤ _
    rw [app_len, app_len]
    simp only [List.map_cons, List.sum_cons, List.length_cons, Nat.add_mul, Nat.one_mul] at this ⊢
    omega
theorem ones_sum : ∀ {ys : List Str}, (∀ y ∈ ys, y.length = 1) → (ys.map (·.length)).sum = ys.length
  | [], _ => rfl
  | y :: ys, h => by
    simp only [List.map_cons, List.sum_cons, List.length_cons]
    rw [h y List.mem_cons_self, ones_sum fun x hx => h x (List.mem_cons_of_mem _ hx)]; omega
theorem tup_fl : (ev1 .tup K (.fl xs) st).to P ↔ P (.d (.tup xs)) st := Iff.rfl
theorem tup_ref (h : pick st a = some (.lst xs)) : (ev1 .tup K (.d (.ref a)) st).to P ↔ P (.d (.tup xs)) st := by simp only [ev1, R.items, St.get, h]; rfl
theorem len_ref (h : pick st a = some (.lst xs)) : (ev1 .len K (.d (.ref a)) st).to P ↔ P (.d (.int xs.length)) st := by simp only [ev1, R.items, St.get, h]; rfl
theorem e_lcG {e : E} {tg : Tg} {it : It} {c : Eo} {P : R → St → Prop} (I : Nat → List D → St → Prop)
    (h : (denIt F tb K it σ st).to fun ig s1 => I 0 [] s1 ∧ (∀ k a s, k ≤ ig.1.length → I k a s → still ig.2 s = true) ∧ (∀ k x a s, ig.1[k]? = some x → I k a s → ∃ σ', tg.put x σ = some σ' ∧ (denC F tb K c σ' s).to fun b s => if b = true then (denE F tb K e σ' s).to fun r s => match r.toD s with | some (y, s) => I (k + 1) (a ++ [y]) s | none => False else I (k + 1) a s) ∧
      ∀ a s, I ig.1.length a s → a.length ≤ sizeLine ∧ P (.fl a) s) : (denE F tb K (.lc e tg it c) σ st).to P := by
  simp only [denE, to_bind, to_noErr]
  refine h.imp fun ig s1 ⟨h1, h2, h3, h4⟩ => ?_
  refine lc_to I ig.1 0 [] s1 h1 (fun k a s _ hk hi => h2 k a s (by omega) hi) (fun k x a s e hi => ?_) (fun a s hi => ?_)
  · rw [Nat.zero_add] at hi ⊢
    obtain ⟨σ', e1, q⟩ := h3 k x a s e hi
    simp only [e1, to_bind]
    refine q.imp fun b s2 q => ?_
    cases b with
    | false =>
      simp only [Bool.false_eq_true, if_false] at q ⊢
      show I (k + 1) (a ++ []) s2
      rw [List.append_nil]; exact q
    | true =>
      simp only [if_true, to_bind] at q ⊢
      refine q.imp fun r s3 q => ?_
      cases hr : r.toD s3 with
      | none => rw [hr] at q; exact q
      | some p => rw [hr] at q; exact q
  · rw [Nat.zero_add, List.nil_append] at hi
    rw [to_if]
    exact h4 a s hi
theorem s_forG {tg : Tg} {it : It} {b : Ss} {nx : Env → St → Prop} {rt : R → St → Prop} (I : Nat → Env → St → Prop)
    (h : (denIt F tb K it σ st).to fun ig s1 => I 0 σ s1 ∧ (∀ k σ' s, k ≤ ig.1.length → I k σ' s → still ig.2 s = true) ∧ (∀ k x σ' s, ig.1[k]? = some x → I k σ' s → ∃ σ2, tg.put x σ' = some σ2 ∧ (denSs F tb K b σ2 s).to (I (k + 1)) rt) ∧
      ∀ σ' s, I ig.1.length σ' s → nx σ' s) : (denS F tb K (.forr tg it b) σ st).to nx rt := by
  simp only [denS]
  cases q : denIt F tb K it σ st with
  | ok ig s1 =>
    rw [q] at h
    obtain ⟨h1, h2, h3, h4⟩ := h
    refine for_to I ig.1 0 σ s1 h1 (fun k σ' s _ hk hi => h2 k σ' s (by omega) hi) (fun k x σ' s e hi => ?_) (fun σ' s hi => ?_)
    · rw [Nat.zero_add] at hi ⊢
      obtain ⟨σ2, e1, q⟩ := h3 k x σ' s e hi
      simp only [e1]; exact q
    · rw [Nat.zero_add] at hi; exact h4 σ' s hi
  | err x s1 => rw [q] at h; exact h.elim
  | bad => rw [q] at h; exact h.elim
theorem it_zipG {a b : E} {P : List D × Option (Nat × List D) → St → Prop} : (denIt F tb K (.zip a b) σ st).to P ↔ (denE F tb K a σ st).to fun r s => (denE F tb K b σ s).to fun q s => (match r.items s, q.items s with
    | some xs, some ys => (match guardOf r xs, guardOf q ys with
      | some _, some _ => Out.bad
      | some g, none => if r.tup?.isSome == q.tup?.isSome then .ok (List.zipWith (fun x y => D.tup [x, y]) xs ys, some g) s else .bad
      | none, g => if r.tup?.isSome == q.tup?.isSome then .ok (List.zipWith (fun x y => D.tup [x, y]) xs ys, g) s else .bad)
    | _, _ => .bad).to P := by simp only [denIt, to_bind] <;> rfl
end
end
end L3
/-! L3Y: a deck among the cells; more rules to follow a run -/
namespace L3
open PySem
theorem pcs {c x : Cell} {st : St} {n : Nat} (h : pick st n = some x) : pick (c :: st) n = some x := pick_app (p := [c]) h
theorem ptop {c : Cell} {st : St} {n : Nat} (h : n = st.length) : pick (c :: st) n = some c := by rw [h]; exact pick_top
theorem pset {x c : Cell} {st : St} {n m : Nat} (h : pick st n = some x) (ne : n ≠ m) : pick (St.set st m c) n = some x := by rw [pick_set_ne st m n c (Ne.symm ne)]; exact h
theorem pset_at {x c : Cell} {st : St} {n : Nat} (h : pick st n = some x) : pick (St.set st n c) n = some c := pick_set st n c (pick_lt h)
theorem pick_cut : ∀ (st : St) (b n : Nat), n < b → pick (St.cut b st) n = pick st n
  | [], _, _, _ => rfl
  | c :: st, b, n, h => by
    simp only [St.cut]
    split
    · rfl
    · rw [pick_cut st b n h]; simp only [pick]; rw [if_neg (by omega)]
theorem len_cut : ∀ (st : St) (b : Nat), b ≤ st.length → (St.cut b st).length = b
  | [], b, h => by simp at h; subst h; rfl
  | c :: st, b, h => by
    simp only [St.cut]
    split
    · simp at h; simp; omega
    · exact len_cut st b (by omega)
/-- a kind of decks: what stands at a, drawn from at most B times -/
structure Deck where
  p : Nat → Int → St → Prop
  lt : ∀ {a : Nat} {B : Int} {st : St}, p a B st → a < st.length
  mono : ∀ {a : Nat} {B C : Int} {st : St}, p a B st → B ≤ C → p a C st
  low : ∀ {a : Nat} {B : Int} {st st' : St}, p a B st → (∀ n, n ≤ a → pick st' n = pick st n) → p a B st'
section
variable {D : Deck} {a : Nat} {B C : Int} {st s s1 s2 : St}
/-- a frame's way: from st on nothing but the deck was written of the old cells -/
structure Ds (D : Deck) (a : Nat) (B : Int) (st s : St) : Prop where
  d : D.p a B s
  le : st.length ≤ s.length
  old : ∀ n, a < n → n < st.length → pick s n = pick st n
/-- .. and no cell is new -/
structure Dr (D : Deck) (a : Nat) (B : Int) (st s : St) : Prop where
  d : D.p a B s
  len : s.length = st.length
  old : ∀ n, a < n → pick s n = pick st n
theorem Ds.start (h : D.p a B st) : Ds D a B st st := ⟨h, Nat.le_refl _, fun _ _ _ => rfl⟩
theorem Dr.start (h : D.p a B st) : Dr D a B st st := ⟨h, rfl, fun _ _ => rfl⟩
theorem Dr.ds (h : Dr D a B st s) : Ds D a B st s := ⟨h.d, Nat.le_of_eq h.len.symm, fun n h1 _ => h.old n h1⟩
theorem Ds.trans (h : Ds D a B st s) (h' : Ds D a C s s1) : Ds D a C st s1 := ⟨h'.d, Nat.le_trans h.le h'.le, fun n h1 h2 => (h'.old n h1 (Nat.lt_of_lt_of_le h2 h.le)).trans (h.old n h1 h2)⟩
theorem Ds.dr (h : Ds D a B st s) (h' : Dr D a C s s1) : Ds D a C st s1 := h.trans h'.ds
theorem Dr.trans (h : Dr D a B st s) (h' : Dr D a C s s1) : Dr D a C st s1 := ⟨h'.d, h'.len.trans h.len, fun n h1 => (h'.old n h1).trans (h.old n h1)⟩
theorem Ds.mono (h : Ds D a B st s) (hc : B ≤ C) : Ds D a C st s := ⟨D.mono h.d hc, h.le, h.old⟩
theorem Dr.mono (h : Dr D a B st s) (hc : B ≤ C) : Dr D a C st s := ⟨D.mono h.d hc, h.len, h.old⟩
theorem Deck.push (h : D.p a B s) (c : Cell) : D.p a B (c :: s) := D.low h fun n hn => by
  have := D.lt h
  exact pick_cons (by omega)
theorem Ds.push (h : Ds D a B st s) (c : Cell) : Ds D a B st (c :: s) := ⟨D.push h.d c, Nat.le_succ_of_le h.le, fun n h1 h2 => by rw [pick_cons (Nat.lt_of_lt_of_le h2 h.le)]; exact h.old n h1 h2⟩
theorem Deck.put (h : D.p a B s) {k : Nat} (hk : a < k) (c : Cell) : D.p a B (St.set s k c) := D.low h fun n hn => pick_set_ne s k n c (by omega)
theorem Ds.put (h : Ds D a B st s) {k : Nat} (hk : st.length ≤ k) (ha : a < k) (c : Cell) : Ds D a B st (St.set s k c) :=
  ⟨D.put h.d ha c, by rw [len_set]; exact h.le, fun n h1 h2 => by rw [pick_set_ne s k n c (by omega)]; exact h.old n h1 h2⟩
theorem Ds.cut (h : Ds D a B st s) (ha : a < st.length) : Dr D a B st (St.cut st.length s) :=
  ⟨D.low h.d fun n hn => pick_cut s _ n (by omega), len_cut s _ h.le, fun n h1 => by
    by_cases q : n < st.length
    · rw [pick_cut s _ n q]; exact h.old n h1 q
    · have e1 : pick (St.cut st.length s) n = none := by
        cases z : pick (St.cut st.length s) n with
        | none => rfl
        | some c => have := pick_lt z; rw [len_cut s _ h.le] at this; omega
      have e2 : pick st n = none := by
        cases z : pick st n with
        | none => rfl
        | some c => have := pick_lt z; omega
      rw [e1, e2]⟩
theorem Dr.at (h : Dr D a B st s) {n : Nat} {c : Cell} (hn : a < n) (e : pick st n = some c) : pick s n = some c := (h.old n hn).trans e
theorem Ds.at (h : Ds D a B st s) {n : Nat} {c : Cell} (hn : a < n) (e : pick st n = some c) : pick s n = some c := (h.old n hn (pick_lt e)).trans e
end
/-! ### rules -/
section
variable {F : Calls} {tb : Tb} {K : Ct} {σ : Env} {st : St} {P : R → St → Prop} {xs : List D} {a : Nat} {i : Int}
theorem len_fl : (ev1 .len K (.fl xs) st).to P ↔ P (.d (.int xs.length)) st := Iff.rfl
theorem ints_plain : ∀ is : List Int, D.plains 40 (is.map D.int) = true
  | [] => rfl
  | i :: is => by simp only [List.map_cons, D.plains, D.plain, Bool.true_and]; exact ints_plain is
theorem eq_nil {is : List Int} (h : pick st a = some (.lst (is.map D.int))) : (ev2 .eq K (.d (.ref a)) (.fl []) st).to P ↔ P (.d (.bl (decide (is = [])))) st := by
  have e : PyData.eqv (.list (D.pys (is.map D.int))) (.list []) = decide (is = []) := by
    cases is with
    | nil => rfl
    | cons i is => simp only [List.map_cons, D.pys]; rfl
  simp only [ev2, R.cmp, St.get, h, ints_plain, if_true, D.pys, D.plains, e]; rfl
theorem pop_ref {v : D} (h : pick st a = some (.lst xs)) (hv : xs[xs.length - 1]? = some v) (hK : K.lk = []) : (ev1 .pop K (.d (.ref a)) st).to P ↔ P (.d v) (St.set st a (.lst xs.dropLast)) := by
  simp only [ev1, St.get, h, hv, setCell, hK, List.contains_nil, Bool.not_false, Bool.and_self, if_true]; rfl
theorem lrev_frz : (ev1 .lrev K (.d (.frz xs)) st).to P ↔ P (.fl xs.reverse) st := Iff.rfl
theorem lrev_fl : (ev1 .lrev K (.fl xs) st).to P ↔ P (.fl xs.reverse) st := Iff.rfl
theorem sl_frz {lo hi : Option Int} : (evSl (.d (.frz xs)) lo hi st).to P ↔ P (.fl (cutL xs lo hi)) st := Iff.rfl
theorem sl_fl {lo hi : Option Int} : (evSl (.fl xs) lo hi st).to P ↔ P (.fl (cutL xs lo hi)) st := Iff.rfl
theorem sl_tup {lo hi : Option Int} : (evSl (.d (.tup xs)) lo hi st).to P ↔ P (.d (.tup (cutL xs lo hi))) st := Iff.rfl
theorem sum_fl {ns : List Int} : (ev1 .sum K (.fl (ns.map D.int)) st).to P ↔ P (.d (.int ns.sum)) st := by simp only [ev1, R.lst?, ints_map]; rfl
theorem cat_lst {x y : R} {as bs : List D} (hx : x.lst? st = some as) (hy : y.lst? st = some bs) (hl : as.length + bs.length ≤ sizeLine) (h1 : x.tup? = none) : (ev2 .add K x y st).to P ↔ P (.fl (as ++ bs)) st := by
  cases x with
  | kt _ => simp [R.lst?] at hx
  | fd _ _ => simp [R.lst?] at hx
  | fl xs => simp only [ev2, hx, hy, if_pos hl]; rfl
  | d d => cases d <;> first | (simp [R.lst?] at hx; done) | (simp only [ev2, hx, hy, if_pos hl]; rfl)
theorem e_and {x y : E} : (denE F tb K (.and x y) σ st).to P ↔ (denE F tb K x σ st).to fun r st => match r with | .d (.bl true) => (denE F tb K y σ st).to P | .d (.bl false) => P (.d (.bl false)) st | _ => False := by
  simp only [denE, to_bind]
  refine iff_of_eq (congrArg _ ?_)
  funext r st
  cases r with
  | d x => cases x with
    | bl b => cases b <;> rfl
    | _ => rfl
  | _ => rfl
theorem e_or {x y : E} : (denE F tb K (.or x y) σ st).to P ↔ (denE F tb K x σ st).to fun r st => match r with | .d (.bl false) => (denE F tb K y σ st).to P | .d (.bl true) => P (.d (.bl true)) st | _ => False := by
  simp only [denE, to_bind]
  refine iff_of_eq (congrArg _ ?_)
  funext r st
  cases r with
  | d x => cases x with
    | bl b => cases b <;> rfl
    | _ => rfl
  | _ => rfl
theorem e_not {x : E} : (denE F tb K (.not x) σ st).to P ↔ (denE F tb K x σ st).to fun r st => match r with | .d (.bl b) => P (.d (.bl (!b))) st | _ => False := by
  simp only [denE, to_bind]
  refine iff_of_eq (congrArg _ ?_)
  funext r st
  cases r with
  | d x => cases x <;> rfl
  | _ => rfl
/-- a test that is a value -/
theorem t_call {f : Nat} {es : Es} {P : Bool → St → Prop} : (denT F tb K (.call f es) σ st).to P ↔ (denE F tb K (.call f es) σ st).to fun r st => (r.test st).to P := by simp only [denT, to_bind]
theorem t_lit {x : D} {P : Bool → St → Prop} : (denT F tb K (.lit x) σ st).to P ↔ (denE F tb K (.lit x) σ st).to fun r st => (r.test st).to P := by simp only [denT, to_bind]
theorem t_var {i : Nat} {P : Bool → St → Prop} : (denT F tb K (.var i) σ st).to P ↔ (denE F tb K (.var i) σ st).to fun r st => (r.test st).to P := by simp only [denT, to_bind]
theorem runL_to {n f : Nat} {fd : Fn} {xs : List D} {P : R → St → Prop} (h : tb.fn f = some fd) (hl : fd.leaky = true) (hn : xs.length = fd.np) :
    (runF tb (n + 1) f K xs st).to P ↔ (denSs (runF tb n) tb K fd.body (xs.map some ++ List.replicate (fd.ns - fd.np) none) st).to (fun _ st => P (.d .non) st) fun r st => P r st := by
  simp only [runF, h, hl, hn, if_true]
  generalize denSs (runF tb n) tb K fd.body (xs.map some ++ List.replicate (fd.ns - fd.np) none) st = f
  cases f with
  | er x ρ st =>
    obtain ⟨c, v⟩ := x
    cases v with
    | none => simp only [leaveL, if_true]; rfl
    | some d => simp only [leaveL]; split <;> rfl
  | _ => rfl
theorem e_callL {f : Nat} {fd : Fn} {es : Es} {P : R → St → Prop} (h : tb.fn f = some fd) (hl : fd.leaky = true) : (denE F tb K (.call f es) σ st).to P ↔ (denEs F tb K es σ st).to fun xs st => (F f K xs st).to P := by
  simp only [denE, h, hl, if_true, to_bind]
theorem isInt_v : (ev1 .isInt K (.d (.int i)) st).to P ↔ P (.d (.bl true)) st := Iff.rfl
theorem isBool_v : (ev1 .isBool K (.d (.int i)) st).to P ↔ P (.d (.bl false)) st := Iff.rfl
theorem isTup_v : (ev1 .isTup K (.d (.tup xs)) st).to P ↔ P (.d (.bl true)) st := Iff.rfl
theorem isTup_p : (ev1 .isTup K (.d (.ptup xs)) st).to P ↔ P (.d (.bl true)) st := Iff.rfl
theorem len_ptup : (ev1 .len K (.d (.ptup xs)) st).to P ↔ P (.d (.int xs.length)) st := Iff.rfl
theorem ix_ptup {i : Int} {v : D} (hv : atD xs i = some v) : (ev2 .item K (.d (.ptup xs)) (.d (.int i)) st).to P ↔ P (.d v) st := by
  simp only [ev2, R.kvs, R.items, hv]; rfl
theorem lst_refP {n : Nat} (h : pick st n = some (.lst xs)) : R.lst? st (.d (.ref n)) = some xs := by simp only [R.lst?, St.get, h]
theorem lst_flP : R.lst? st (.fl xs) = some xs := rfl
theorem e_pt {e : E} : (denE F tb K (.pt e) σ st).to P ↔ (denE F tb K e σ st).to fun r st => match R.lst? st r with | some xs => P (.d (.ptup xs)) st | none => False := by
  simp only [denE, to_bind]
  refine iff_of_eq (congrArg _ ?_)
  funext r st
  cases R.lst? st r <;> rfl
theorem e_dt {e : E} : (denE F tb K (.dt e) σ st).to P ↔ (denE F tb K e σ st).to fun r st => (ev1 .dct K r st).to P := by simp only [denE, to_bind]
theorem dct_p {ps : Kvs} (h : D.pairs xs = some ps) : (ev1 .dct K (.d (.ptup xs)) st).to P ↔ P (.fd false (kvMerge [] ps)) st := by simp only [ev1, h]; rfl
theorem isStr_v {x : Str} : (ev1 .isStr K (.d (.str x)) st).to P ↔ P (.d (.bl true)) st := Iff.rfl
theorem min2_v {i j : Int} : (ev2 .min2 K (.d (.int i)) (.d (.int j)) st).to P ↔ P (.d (.int (if j < i then j else i))) st := Iff.rfl
theorem max2_v {i j : Int} : (ev2 .max2 K (.d (.int i)) (.d (.int j)) st).to P ↔ P (.d (.int (if i < j then j else i))) st := Iff.rfl
/-- a comprehension that changes no cell -/
theorem e_lcF {e : E} {tg : Tg} {it : It} {c : Eo} (p : D → Bool) (g : D → D)
    (h : (denIt F tb K it σ st).to fun ig s => still ig.2 s = true ∧ (∀ x ∈ ig.1, ∃ σ', tg.put x σ = some σ' ∧ ((denC F tb K c σ' s).to fun b s' => s' = s ∧ b = p x) ∧ (p x = true → (denE F tb K e σ' s).to fun r s' => s' = s ∧ r.toD s = some (g x, s))) ∧
      ig.1.length ≤ sizeLine ∧ P (.fl ((ig.1.filter p).map g)) s) : (denE F tb K (.lc e tg it c) σ st).to P := by
  refine e_lcG (fun k acc s' => ∃ ig : List D × Option (Nat × List D), ∃ s, (denIt F tb K it σ st) = .ok ig s ∧ s' = s ∧ acc = ((ig.1.take k).filter p).map g) ?_
  cases q : denIt F tb K it σ st with
  | err x s => rw [q] at h; exact h.elim
  | bad => rw [q] at h; exact h.elim
  | ok ig s =>
    rw [q] at h
    obtain ⟨h1, h2, h3, h4⟩ := h
    refine ⟨⟨ig, s, rfl, rfl, by simp⟩, fun k acc s' _ ⟨ig', s0, e1, e2, _⟩ => by cases e1; rw [e2]; exact h1, fun k x acc s' hx ⟨ig', s0, e1, e2, e3⟩ => ?_, fun acc s' ⟨ig', s0, e1, e2, e3⟩ => ?_⟩
    · cases e1; subst e2
      obtain ⟨σ', w1, w2, w3⟩ := h2 x (List.mem_of_getElem? hx)
      refine ⟨σ', w1, w2.imp fun b s1 ⟨z1, z2⟩ => ?_⟩
      subst z1 z2
      have ht : ig.1.take (k + 1) = ig.1.take k ++ [x] := by rw [List.take_add_one, hx]; rfl
      cases hp : p x with
      | false => simp only [Bool.false_eq_true, if_false]; exact ⟨ig, s1, rfl, rfl, by rw [ht, List.filter_append, e3]; simp [hp]⟩
      | true =>
        simp only [if_true]
        refine (w3 hp).imp fun r s2 ⟨z1, z2⟩ => ?_
        subst z1
        rw [z2]
        exact ⟨ig, s2, rfl, rfl, by rw [ht, List.filter_append, e3]; simp [hp]⟩
    · cases e1; subst e2
      rw [List.take_length] at e3
      subst e3
      exact ⟨by rw [List.length_map]; exact Nat.le_trans (List.length_filter_le _ _) h3, h4⟩
theorem cutL_take {α : Type} (xs : List α) {v : Int} (hv : 0 ≤ v) : cutL xs none (some v) = xs.take v.toNat := by
  unfold cutL
  simp only [cutAt, if_neg (show ¬ v < 0 by omega), List.drop_zero, Nat.sub_zero]
  rcases Nat.le_total v.toNat xs.length with q | q
  · rw [Nat.min_eq_left q]
  · rw [Nat.min_eq_right q, List.take_of_length_le (Nat.le_refl _), List.take_of_length_le q]
theorem flats_str : ∀ ys : List Str, D.flats (ys.map D.str) = true
  | [] => rfl
  | y :: ys => by simp [D.flats, D.flat, flats_str ys]
theorem flats_int : ∀ ys : List Int, D.flats (ys.map D.int) = true
  | [] => rfl
  | y :: ys => by simp [D.flats, D.flat, flats_int ys]
theorem flats_app : ∀ {xs ys : List D}, D.flats xs = true → D.flats ys = true → D.flats (xs ++ ys) = true
  | [], _, _, h => h
  | x :: xs, ys, h, h' => by simp only [D.flats, Bool.and_eq_true, List.cons_append] at h ⊢; exact ⟨h.1, flats_app h.2 h'⟩
theorem join_nil : ∀ ys : List Str, (Str.join (Str.ofString "") ys).cps.toList = (ys.map (·.cps.toList)).flatten
  | [] => rfl
  | [x] => by show x.cps.toList = _; simp
  | x :: y :: r => by
    have := join_nil (y :: r)
    have e0 : (Str.ofString "").cps = #[] := by decide
    show ((x.cps ++ (Str.ofString "").cps) ++ (Str.join (Str.ofString "") (y :: r)).cps).toList = _
    rw [Array.toList_append, Array.toList_append, this, e0]
    simp
theorem it_enum {a : E} {P : List D × Option (Nat × List D) → St → Prop} : (denIt F tb K (.enum a) σ st).to P ↔ (denE F tb K a σ st).to fun r st => match r.walk st with | some xs => P (xs.zipIdx.map fun p => D.tup [.int p.2, p.1], guardOf r xs) st | none => False := by
  simp only [denIt, to_bind]
  refine iff_of_eq (congrArg _ ?_)
  funext r st
  cases r.walk st <;> rfl
theorem it_zipS {a b : E} {P : List D × Option (Nat × List D) → St → Prop} : (denIt F tb K (.zipS a b) σ st).to P ↔ (denE F tb K a σ st).to fun r st => (denE F tb K b σ st).to fun q st => match r.walk st, q.walk st with
    | some xs, some ys => ((guardOf r xs).isNone && (guardOf q ys).isNone) = true ∧ P (List.zipWith (fun x y => D.tup [x, y]) xs ys, none) st
    | _, _ => False := by
  simp only [denIt, to_bind]
  refine iff_of_eq (congrArg _ ?_)
  funext r st
  refine congrArg _ ?_
  funext q st
  cases r.walk st with
  | none => rfl
  | some xs =>
    cases q.walk st with
    | none => rfl
    | some ys => dsimp only; rw [to_if]; rfl
theorem it_range2 {a b : E} {P : List D × Option (Nat × List D) → St → Prop} : (denIt F tb K (.range2 a b) σ st).to P ↔ (denE F tb K a σ st).to fun r st => (denE F tb K b σ st).to fun q st => match r, q with
    | .d (.int m), .d (.int n) => (-(2 ^ 62) ≤ m ∧ m < 2 ^ 62 ∧ -(2 ^ 62) ≤ n ∧ n < 2 ^ 62) ∧ P ((List.range (n - m).toNat).map fun (i : Nat) => D.int (m + i), none) st
    | _, _ => False := by
  simp only [denIt, to_bind]
  refine iff_of_eq (congrArg _ ?_)
  funext r st
  refine congrArg _ ?_
  funext q st
  cases r with
  | d x =>
    cases x with
    | int m =>
      cases q with
      | d y => cases y <;> first | rfl | (dsimp only; rw [to_if]; rfl)
      | _ => rfl
    | _ => rfl
  | _ => rfl
end
end L3
namespace L3
namespace K09
open PySem
-- printed by tr.py
/-- work_of -/
def fd0 : Fn := { np := 2, ns := 2, body :=
  (.cons (.ret (.p2 .item (.p2 .item (.var 0) (.lit (.int 1))) (.p2 .tindex (.con 0) (.p2 .item (.var 1) (.lit (.int 0))))))
   .nil) }
/-- many_of -/
def fd1 : Fn := { np := 2, ns := 2, body :=
  (.cons (.ret (.p2 .item (.dt (.p2 .item (.var 0) (.lit (.int 0)))) (.var 1)))
   .nil) }
/-- _law_deck -/
def fd2 : Fn := { np := 1, ns := 2, leaky := true, body :=
  (.cons (.ret (.lst (.cons (.p1 .lrev (.slc (.var 0) .no (.yes (.lit (.int 63))))) (.cons (.lit (.int 0)) (.cons (.p2 .add (.lit (.int 48271)) (.p1 .sum (.lc (.p2 .mod (.var 1) (.lit (.int 1000003))) (.one 1) (.seq (.slc (.var 0) .no (.yes (.lit (.int 63))))) .no))) .nil)))))
   .nil) }
/-- _law_mixed -/
def fd3 : Fn := { np := 2, ns := 3, body :=
  (.cons (.asg (.one 2) (.p2 .mod (.p2 .mul (.p2 .add (.p2 .add (.p2 .mod (.var 0) (.lit (.int 2147483629))) (.p2 .mul (.lit (.int 7919)) (.var 1))) (.lit (.int 101))) (.lit (.int 48271))) (.lit (.int 2147483647))))
   (.cons (.asg (.one 2) (.p2 .mod (.p2 .add (.p2 .add (.p2 .mul (.var 2) (.var 2)) (.p2 .mul (.lit (.int 69621)) (.var 2))) (.var 1)) (.lit (.int 2147483587))))
   (.cons (.ret (.p2 .fdiv (.p2 .mod (.p2 .mul (.var 2) (.lit (.int 39373))) (.lit (.int 2147483563))) (.lit (.int 16))))
   .nil))) }
/-- _law_draw -/
def fd4 : Fn := { np := 2, ns := 3, body :=
  (.cons (.setix (.var 0) (.lit (.int 1)) (.p2 .add (.p2 .item (.var 0) (.lit (.int 1))) (.lit (.int 1))))
   (.cons (.iff (.p2 .eq (.p2 .item (.var 0) (.lit (.int 0))) (.lst .nil))
   (.cons (.ret (.p2 .mod (.call 3 (.cons (.p2 .item (.var 0) (.lit (.int 2))) (.cons (.p2 .item (.var 0) (.lit (.int 1))) .nil))) (.var 1)))
    .nil)
   .nil)
   (.cons (.asg (.one 2) (.p1 .pop (.p2 .item (.var 0) (.lit (.int 0)))))
   (.cons (.iff (.p2 .lt (.var 2) (.p2 .pow (.lit (.int 10)) (.lit (.int 18))))
   (.cons (.ret (.p2 .mod (.call 3 (.cons (.var 2) (.cons (.p2 .item (.var 0) (.lit (.int 1))) .nil))) (.var 1)))
    .nil)
   .nil)
   (.cons (.expr (.p2 .append (.p2 .item (.var 0) (.lit (.int 0))) (.p2 .fdiv (.var 2) (.var 1))))
   (.cons (.ret (.p2 .mod (.var 2) (.var 1)))
   .nil)))))) }
/-- _law_names -/
def fd5 : Fn := { np := 2, ns := 11, body :=
  (.cons (.asg (.one 2) (.lit (.str (Str.ofString "abcdefghijklmnopqrstuvwxyz"))))
   (.cons (.asg (.one 3) (.fz (.lc (.call 4 (.cons (.var 0) (.cons (.lit (.int 26)) .nil))) (.one 8) (.range1 (.lit (.int 8))) .no)))
   (.cons (.asg (.one 4) (.p2 .add (.lit (.int 1)) (.call 4 (.cons (.var 0) (.cons (.lit (.int 8)) .nil)))))
   (.cons (.asg (.one 5) (.call 4 (.cons (.var 0) (.cons (.var 4) .nil))))
   (.cons (.asg (.one 6) (.p2 .item (.lst (.cons (.lit (.int 1)) (.cons (.lit (.int 3)) (.cons (.lit (.int 5)) (.cons (.lit (.int 7)) (.cons (.lit (.int 9)) (.cons (.lit (.int 11)) .nil))))))) (.call 4 (.cons (.var 0) (.cons (.lit (.int 6)) .nil)))))
   (.cons (.iff (.p2 .eq (.call 4 (.cons (.var 0) (.cons (.lit (.int 3)) .nil))) (.lit (.int 0)))
   (.cons (.ret (.lc (.p2 .join (.lit (.str (Str.ofString ""))) (.lc (.p2 .item (.var 2) (.var 10)) (.one 10) (.seq (.slc (.var 3) .no (.yes (.p2 .add (.lit (.int 1)) (.var 8))))) .no)) (.one 8) (.range1 (.var 1)) .no))
    .nil)
   .nil)
   (.cons (.asg (.one 7) (.lst .nil))
   (.cons (.forr (.one 8) (.range1 (.var 1))
   (.cons (.asg (.one 9) (.slc (.var 3) .no (.yes (.var 4))))
    (.cons (.setix (.var 9) (.var 5) (.p2 .mod (.p2 .add (.p2 .item (.var 3) (.var 5)) (.p2 .mul (.var 6) (.var 8))) (.lit (.int 26))))
    (.cons (.expr (.p2 .append (.var 7) (.p2 .join (.lit (.str (Str.ofString ""))) (.lc (.p2 .item (.var 2) (.var 10)) (.one 10) (.seq (.var 9)) .no))))
    .nil))))
   (.cons (.ret (.var 7))
   .nil))))))))) }
/-- _law_machine -/
def fd6 : Fn := { np := 1, ns := 8, body :=
  (.cons (.asg (.one 1) (.p2 .item (.lst (.cons (.p2 .add (.lit (.int 1)) (.call 4 (.cons (.var 0) (.cons (.lit (.int 3)) .nil)))) (.cons (.lit (.int 6)) .nil))) (.p1 .int (.p2 .eq (.call 4 (.cons (.var 0) (.cons (.lit (.int 8)) .nil))) (.lit (.int 5))))))
   (.cons (.asg (.one 2) (.fz (.call 5 (.cons (.var 0) (.cons (.var 1) .nil)))))
   (.cons (.asg (.one 3) (.lst .nil))
   (.cons (.forr (.one 4) (.seq (.var 2))
   (.cons (.expr (.p2 .append (.var 3) (.tup (.cons (.var 4) (.cons (.p2 .item (.lst (.cons (.p2 .add (.lit (.int 1)) (.call 4 (.cons (.var 0) (.cons (.lit (.int 2)) .nil)))) (.cons (.p2 .add (.lit (.int 1)) (.call 4 (.cons (.var 0) (.cons (.lit (.int 6)) .nil)))) .nil))) (.p1 .int (.p2 .eq (.call 4 (.cons (.var 0) (.cons (.lit (.int 4)) .nil))) (.lit (.int 3))))) .nil)))))
    .nil))
   (.cons (.asg (.one 5) (.lst .nil))
   (.cons (.forr (.one 6) (.range1 (.lit (.int 11)))
   (.cons (.asg (.one 7) (.p2 .item (.lst (.cons (.lit (.int 3)) (.cons (.lit (.int 6)) .nil))) (.p1 .int (.p2 .eq (.call 4 (.cons (.var 0) (.cons (.lit (.int 4)) .nil))) (.lit (.int 3))))))
    (.cons (.expr (.p2 .append (.var 5) (.tup (.cons (.p2 .item (.var 2) (.call 4 (.cons (.var 0) (.cons (.var 1) .nil)))) (.cons (.p2 .add (.lit (.int 1)) (.call 4 (.cons (.var 0) (.cons (.var 7) .nil)))) (.cons (.p2 .add (.lit (.int 1)) (.call 4 (.cons (.var 0) (.cons (.var 7) .nil)))) .nil))))))
    .nil)))
   (.cons (.ret (.tup (.cons (.pt (.var 3)) (.cons (.pt (.var 5)) .nil))))
   .nil))))))) }
/-- _law_deeds -/
def fd7 : Fn := { np := 1, ns := 4, body :=
  (.cons (.asg (.one 1) (.call 4 (.cons (.var 0) (.cons (.lit (.int 30)) .nil))))
   (.cons (.asg (.one 2) (.call 4 (.cons (.var 0) (.cons (.lit (.int 30)) .nil))))
   (.cons (.asg (.one 3) (.fz (.lst (.cons (.tup (.cons (.lit (.str (Str.ofString "number"))) (.cons (.p2 .sub (.var 1) (.lit (.int 15))) .nil))) (.cons (.tup (.cons (.lit (.str (Str.ofString "plus"))) (.cons (.var 1) (.cons (.var 2) .nil)))) (.cons (.tup (.cons (.lit (.str (Str.ofString "minus"))) (.cons (.var 2) (.cons (.var 1) .nil)))) (.cons (.tup (.cons (.lit (.str (Str.ofString "times"))) (.cons (.var 1) (.cons (.var 1) .nil)))) (.cons (.tup (.cons (.lit (.str (Str.ofString "less"))) (.cons (.var 1) (.cons (.var 2) .nil)))) (.cons (.tup (.cons (.lit (.str (Str.ofString "pick"))) (.cons (.var 1) (.cons (.var 2) (.cons (.var 1) .nil))))) .nil)))))))))
   (.cons (.ret (.p2 .add (.var 3) (.lst (.cons (.tup (.cons (.lit (.str (Str.ofString "share"))) (.cons (.var 2) (.cons (.var 2) .nil)))) (.cons (.tup (.cons (.lit (.str (Str.ofString "read"))) (.cons (.var 1) (.cons (.p2 .sub (.var 2) (.lit (.int 9))) .nil)))) (.cons (.tup (.cons (.lit (.str (Str.ofString "write"))) (.cons (.var 1) (.cons (.p2 .sub (.lit (.int 0)) (.var 2)) (.cons (.var 2) .nil))))) (.cons (.tup (.cons (.lit (.str (Str.ofString "keep"))) (.cons (.var 1) (.cons (.var 2) .nil)))) (.cons (.tup (.cons (.lit (.str (Str.ofString "fetch"))) (.cons (.var 2) .nil))) .nil))))))))
   .nil)))) }
/-- _law_whole -/
def fd8 : Fn := { np := 1, ns := 1, body :=
  (.cons (.ret (.and (.p1 .isInt (.var 0)) (.one (.not (.p1 .isBool (.var 0))))))
   .nil) }
/-- _law_right -/
def fd9 : Fn := { np := 2, ns := 6, body :=
  (.cons (.forr (.one 2) (.range1 (.lit (.int 11)))
   (.cons (.asg (.one 3) (.call 0 (.cons (.var 0) (.cons (.p2 .item (.var 1) (.var 2)) .nil))))
    (.cons (.iff (.or (.not (.p1 .isTup (.var 3))) (.one (.p2 .ne (.var 3) (.p2 .item (.p2 .item (.var 0) (.lit (.int 1))) (.var 2)))))
    (.cons (.ret (.lit (.bl false)))
     .nil)
    .nil)
    (.cons (.iff (.or (.not (.p1 .isStr (.p2 .item (.var 3) (.lit (.int 0))))) (.or (.not (.call 8 (.cons (.p2 .item (.var 3) (.lit (.int 1))) .nil))) (.one (.not (.call 8 (.cons (.p2 .item (.var 3) (.lit (.int 2))) .nil))))))
    (.cons (.ret (.lit (.bl false)))
     .nil)
    .nil)
    .nil))))
   (.cons (.forr (.many [4, 5]) (.seq (.p2 .item (.var 0) (.lit (.int 0))))
   (.cons (.asg (.one 3) (.call 1 (.cons (.var 0) (.cons (.var 4) .nil))))
    (.cons (.iff (.or (.not (.call 8 (.cons (.var 3) .nil))) (.one (.p2 .ne (.var 3) (.var 5))))
    (.cons (.ret (.lit (.bl false)))
     .nil)
    .nil)
    .nil)))
   (.cons (.ret (.lit (.bl true)))
   .nil))) }
/-- law -/
def fd10 : Fn := { np := 1, ns := 6, body :=
  (.cons (.asg (.one 1) (.call 2 (.cons (.var 0) .nil)))
   (.cons (.asg (.one 2) (.fz (.lst (.cons (.call 6 (.cons (.var 1) .nil)) (.cons (.call 6 (.cons (.var 1) .nil)) .nil)))))
   (.cons (.forr (.one 3) (.range1 (.lit (.int 2)))
   (.cons (.asg (.one 4) (.fz (.call 7 (.cons (.var 1) .nil))))
    (.cons (.forr (.one 5) (.seq (.var 2))
    (.cons (.iff (.not (.call 9 (.cons (.var 5) (.cons (.var 4) .nil))))
     (.cons (.ret (.lit (.bl false)))
      .nil)
     .nil)
     .nil))
    .nil)))
   (.cons (.ret (.lit (.bl true)))
   .nil)))) }
def tbFn : Nat → Option Fn
  | 0 => some fd0
  | 1 => some fd1
  | 2 => some fd2
  | 3 => some fd3
  | 4 => some fd4
  | 5 => some fd5
  | 6 => some fd6
  | 7 => some fd7
  | 8 => some fd8
  | 9 => some fd9
  | 10 => some fd10
  | _ => none
def tbCon : Nat → D
  | 0 => (.tup [(.str (Str.ofString "number")), (.str (Str.ofString "plus")), (.str (Str.ofString "minus")), (.str (Str.ofString "times")), (.str (Str.ofString "less")), (.str (Str.ofString "pick")), (.str (Str.ofString "share")), (.str (Str.ofString "read")), (.str (Str.ofString "write")), (.str (Str.ofString "keep")), (.str (Str.ofString "fetch"))])
  | _ => .non
def tbInit : Nat → Option Nat
  | _ => none
def tb : Tb := { fn := tbFn, con := tbCon, init := tbInit, wh := 1000000 }
end K09
end L3
namespace L3
namespace K09
open PySem L2 PySem.Spec PyProof.Rows
/-! the joint -/
def top (i : Nat) : Stmt := PySem.Challenge.pw_widerows_k09_units_and_works.main.body.getD i (.Pass ⟨0, 0, 0, 0⟩)
def nmF : Nat → Str
  | 0 => Str.ofString "work_of"
  | 1 => Str.ofString "many_of"
  | 2 => Str.ofString "_law_deck"
  | 3 => Str.ofString "_law_mixed"
  | 4 => Str.ofString "_law_draw"
  | 5 => Str.ofString "_law_names"
  | 6 => Str.ofString "_law_machine"
  | 7 => Str.ofString "_law_deeds"
  | 8 => Str.ofString "_law_whole"
  | 9 => Str.ofString "_law_right"
  | 10 => Str.ofString "law"
  | _ => Str.ofString ""
def nmC : Nat → Option Str
  | 0 => some (Str.ofString "KINDS")
  | _ => none
def G : Nm := { fname := nmF, mname := fun _ => Str.ofString "", cname := fun _ => Str.ofString "", con := nmC, fld := fun _ => Str.ofString "", dfl := fun f => decide (f ∈ []), blt := [Str.ofString "bool", Str.ofString "dict", Str.ofString "int", Str.ofString "isinstance", Str.ofString "list", Str.ofString "range", Str.ofString "reversed", Str.ofString "str", Str.ofString "sum", Str.ofString "tuple"] }
def N0 : List Str := [Str.ofString "machine", Str.ofString "deed"]
def Pr0 : List Str := [Str.ofString "machine", Str.ofString "deed"]
theorem sc0 : FnScope N0 Pr0 (defScope (top 2)) := ⟨rfl, rfl, rfl, by decide +kernel, rfl, by decide +kernel, by decide +kernel⟩
theorem ck0 : chkSs G N0 (defScope (top 2)) fd0.body (defBody (top 2)) = true := by decide +kernel
theorem at0 {K : PySem.W.Frag} {mg : Str → Option Value} {h : Heap} (X : K.In h) (g : h.Ns mainGlobals mg) (f : FactsAt K (Str.ofString "work_of") (Str.ofString "work_of") (top 2)) : DefAt G K mg 0 fd0 := f.at X g (N := N0) (ps := Pr0) sc0 (fun _ _ _ _ _ _ us hl => match us, hl with | [_, _], _ => rfl) ck0 rfl rfl rfl (fun z => by cases z)
def N1 : List Str := [Str.ofString "machine", Str.ofString "name"]
def Pr1 : List Str := [Str.ofString "machine", Str.ofString "name"]
theorem sc1 : FnScope N1 Pr1 (defScope (top 3)) := ⟨rfl, rfl, rfl, by decide +kernel, rfl, by decide +kernel, by decide +kernel⟩
theorem ck1 : chkSs G N1 (defScope (top 3)) fd1.body (defBody (top 3)) = true := by decide +kernel
theorem at1 {K : PySem.W.Frag} {mg : Str → Option Value} {h : Heap} (X : K.In h) (g : h.Ns mainGlobals mg) (f : FactsAt K (Str.ofString "many_of") (Str.ofString "many_of") (top 3)) : DefAt G K mg 1 fd1 := f.at X g (N := N1) (ps := Pr1) sc1 (fun _ _ _ _ _ _ us hl => match us, hl with | [_, _], _ => rfl) ck1 rfl rfl rfl (fun z => by cases z)
def N2 : List Str := [Str.ofString "_law_script", Str.ofString "_law_cell"]
def Pr2 : List Str := [Str.ofString "_law_script"]
theorem sc2 : FnScope N2 Pr2 (defScope (top 5)) := ⟨rfl, rfl, rfl, by decide +kernel, rfl, by decide +kernel, by decide +kernel⟩
theorem ck2 : chkSs G N2 (defScope (top 5)) fd2.body (defBody (top 5)) = true := by decide +kernel
theorem at2 {K : PySem.W.Frag} {mg : Str → Option Value} {h : Heap} (X : K.In h) (g : h.Ns mainGlobals mg) (f : FactsAt K (Str.ofString "_law_deck") (Str.ofString "_law_deck") (top 5)) : DefAt G K mg 2 fd2 := f.at X g (N := N2) (ps := Pr2) sc2 (fun _ _ _ _ _ _ us hl => match us, hl with | [_], _ => rfl) ck2 rfl rfl rfl (fun z => by cases z)
def N3 : List Str := [Str.ofString "_law_cell", Str.ofString "_law_k", Str.ofString "_law_figure"]
def Pr3 : List Str := [Str.ofString "_law_cell", Str.ofString "_law_k"]
theorem sc3 : FnScope N3 Pr3 (defScope (top 6)) := ⟨rfl, rfl, rfl, by decide +kernel, rfl, by decide +kernel, by decide +kernel⟩
theorem ck3 : chkSs G N3 (defScope (top 6)) fd3.body (defBody (top 6)) = true := by decide +kernel
theorem at3 {K : PySem.W.Frag} {mg : Str → Option Value} {h : Heap} (X : K.In h) (g : h.Ns mainGlobals mg) (f : FactsAt K (Str.ofString "_law_mixed") (Str.ofString "_law_mixed") (top 6)) : DefAt G K mg 3 fd3 := f.at X g (N := N3) (ps := Pr3) sc3 (fun _ _ _ _ _ _ us hl => match us, hl with | [_, _], _ => rfl) ck3 rfl rfl rfl (fun z => by cases z)
def N4 : List Str := [Str.ofString "_law_pile", Str.ofString "_law_most", Str.ofString "_law_cell"]
def Pr4 : List Str := [Str.ofString "_law_pile", Str.ofString "_law_most"]
theorem sc4 : FnScope N4 Pr4 (defScope (top 7)) := ⟨rfl, rfl, rfl, by decide +kernel, rfl, by decide +kernel, by decide +kernel⟩
theorem ck4 : chkSs G N4 (defScope (top 7)) fd4.body (defBody (top 7)) = true := by decide +kernel
theorem at4 {K : PySem.W.Frag} {mg : Str → Option Value} {h : Heap} (X : K.In h) (g : h.Ns mainGlobals mg) (f : FactsAt K (Str.ofString "_law_draw") (Str.ofString "_law_draw") (top 7)) : DefAt G K mg 4 fd4 := f.at X g (N := N4) (ps := Pr4) sc4 (fun _ _ _ _ _ _ us hl => match us, hl with | [_, _], _ => rfl) ck4 rfl rfl rfl (fun z => by cases z)
def N5 : List Str := [Str.ofString "_law_pile", Str.ofString "_law_many", Str.ofString "_law_letters", Str.ofString "_law_word", Str.ofString "_law_long", Str.ofString "_law_at", Str.ofString "_law_step", Str.ofString "_law_found", Str.ofString "_law_k", Str.ofString "_law_signs", Str.ofString "_law_sign"]
def Pr5 : List Str := [Str.ofString "_law_pile", Str.ofString "_law_many"]
theorem sc5 : FnScope N5 Pr5 (defScope (top 8)) := ⟨rfl, rfl, rfl, by decide +kernel, rfl, by decide +kernel, by decide +kernel⟩
theorem ck5 : chkSs G N5 (defScope (top 8)) fd5.body (defBody (top 8)) = true := by decide +kernel
theorem at5 {K : PySem.W.Frag} {mg : Str → Option Value} {h : Heap} (X : K.In h) (g : h.Ns mainGlobals mg) (f : FactsAt K (Str.ofString "_law_names") (Str.ofString "_law_names") (top 8)) : DefAt G K mg 5 fd5 := f.at X g (N := N5) (ps := Pr5) sc5 (fun _ _ _ _ _ _ us hl => match us, hl with | [_, _], _ => rfl) ck5 rfl rfl rfl (fun z => by cases z)
def N6 : List Str := [Str.ofString "_law_pile", Str.ofString "_law_many", Str.ofString "_law_words", Str.ofString "_law_units", Str.ofString "_law_name", Str.ofString "_law_works", Str.ofString "_law_k", Str.ofString "_law_most"]
def Pr6 : List Str := [Str.ofString "_law_pile"]
theorem sc6 : FnScope N6 Pr6 (defScope (top 9)) := ⟨rfl, rfl, rfl, by decide +kernel, rfl, by decide +kernel, by decide +kernel⟩
theorem ck6 : chkSs G N6 (defScope (top 9)) fd6.body (defBody (top 9)) = true := by decide +kernel
theorem at6 {K : PySem.W.Frag} {mg : Str → Option Value} {h : Heap} (X : K.In h) (g : h.Ns mainGlobals mg) (f : FactsAt K (Str.ofString "_law_machine") (Str.ofString "_law_machine") (top 9)) : DefAt G K mg 6 fd6 := f.at X g (N := N6) (ps := Pr6) sc6 (fun _ _ _ _ _ _ us hl => match us, hl with | [_], _ => rfl) ck6 rfl rfl rfl (fun z => by cases z)
def N7 : List Str := [Str.ofString "_law_pile", Str.ofString "_law_a", Str.ofString "_law_b", Str.ofString "_law_deeds_here"]
def Pr7 : List Str := [Str.ofString "_law_pile"]
theorem sc7 : FnScope N7 Pr7 (defScope (top 10)) := ⟨rfl, rfl, rfl, by decide +kernel, rfl, by decide +kernel, by decide +kernel⟩
theorem ck7 : chkSs G N7 (defScope (top 10)) fd7.body (defBody (top 10)) = true := by decide +kernel
theorem at7 {K : PySem.W.Frag} {mg : Str → Option Value} {h : Heap} (X : K.In h) (g : h.Ns mainGlobals mg) (f : FactsAt K (Str.ofString "_law_deeds") (Str.ofString "_law_deeds") (top 10)) : DefAt G K mg 7 fd7 := f.at X g (N := N7) (ps := Pr7) sc7 (fun _ _ _ _ _ _ us hl => match us, hl with | [_], _ => rfl) ck7 rfl rfl rfl (fun z => by cases z)
def N8 : List Str := [Str.ofString "_law_thing"]
def Pr8 : List Str := [Str.ofString "_law_thing"]
theorem sc8 : FnScope N8 Pr8 (defScope (top 11)) := ⟨rfl, rfl, rfl, by decide +kernel, rfl, by decide +kernel, by decide +kernel⟩
theorem ck8 : chkSs G N8 (defScope (top 11)) fd8.body (defBody (top 11)) = true := by decide +kernel
theorem at8 {K : PySem.W.Frag} {mg : Str → Option Value} {h : Heap} (X : K.In h) (g : h.Ns mainGlobals mg) (f : FactsAt K (Str.ofString "_law_whole") (Str.ofString "_law_whole") (top 11)) : DefAt G K mg 8 fd8 := f.at X g (N := N8) (ps := Pr8) sc8 (fun _ _ _ _ _ _ us hl => match us, hl with | [_], _ => rfl) ck8 rfl rfl rfl (fun z => by cases z)
def N9 : List Str := [Str.ofString "_law_plant", Str.ofString "_law_deeds_here", Str.ofString "_law_k", Str.ofString "_law_found", Str.ofString "_law_name", Str.ofString "_law_many"]
def Pr9 : List Str := [Str.ofString "_law_plant", Str.ofString "_law_deeds_here"]
theorem sc9 : FnScope N9 Pr9 (defScope (top 12)) := ⟨rfl, rfl, rfl, by decide +kernel, rfl, by decide +kernel, by decide +kernel⟩
theorem ck9 : chkSs G N9 (defScope (top 12)) fd9.body (defBody (top 12)) = true := by decide +kernel
theorem at9 {K : PySem.W.Frag} {mg : Str → Option Value} {h : Heap} (X : K.In h) (g : h.Ns mainGlobals mg) (f : FactsAt K (Str.ofString "_law_right") (Str.ofString "_law_right") (top 12)) : DefAt G K mg 9 fd9 := f.at X g (N := N9) (ps := Pr9) sc9 (fun _ _ _ _ _ _ us hl => match us, hl with | [_, _], _ => rfl) ck9 rfl rfl rfl (fun z => by cases z)
def N10 : List Str := [Str.ofString "_law_script", Str.ofString "_law_pile", Str.ofString "_law_machines", Str.ofString "_law_turn", Str.ofString "_law_deeds_here", Str.ofString "_law_plant"]
def Pr10 : List Str := [Str.ofString "_law_script"]
theorem sc10 : FnScope N10 Pr10 (defScope (top 13)) := ⟨rfl, rfl, rfl, by decide +kernel, rfl, by decide +kernel, by decide +kernel⟩
theorem ck10 : chkSs G N10 (defScope (top 13)) fd10.body (defBody (top 13)) = true := by decide +kernel
theorem at10 {K : PySem.W.Frag} {mg : Str → Option Value} {h : Heap} (X : K.In h) (g : h.Ns mainGlobals mg) (f : FactsAt K (Str.ofString "law") (Str.ofString "law") (top 13)) : DefAt G K mg 10 fd10 := f.at X g (N := N10) (ps := Pr10) sc10 (fun _ _ _ _ _ _ us hl => match us, hl with | [_], _ => rfl) ck10 rfl rfl rfl (fun z => by cases z)
def zs0 : List Str := [Str.ofString "number", Str.ofString "plus", Str.ofString "minus", Str.ofString "times", Str.ofString "less", Str.ofString "pick", Str.ofString "share", Str.ofString "read", Str.ofString "write", Str.ofString "keep", Str.ofString "fetch"]
theorem defs {K : PySem.W.Frag} {mg : Str → Option Value} {h : Heap} (X : K.In h) (g : h.Ns mainGlobals mg) (f0 : FactsAt K (Str.ofString "work_of") (Str.ofString "work_of") (top 2)) (f1 : FactsAt K (Str.ofString "many_of") (Str.ofString "many_of") (top 3)) (f2 : FactsAt K (Str.ofString "_law_deck") (Str.ofString "_law_deck") (top 5)) (f3 : FactsAt K (Str.ofString "_law_mixed") (Str.ofString "_law_mixed") (top 6)) (f4 : FactsAt K (Str.ofString "_law_draw") (Str.ofString "_law_draw") (top 7)) (f5 : FactsAt K (Str.ofString "_law_names") (Str.ofString "_law_names") (top 8)) (f6 : FactsAt K (Str.ofString "_law_machine") (Str.ofString "_law_machine") (top 9)) (f7 : FactsAt K (Str.ofString "_law_deeds") (Str.ofString "_law_deeds") (top 10)) (f8 : FactsAt K (Str.ofString "_law_whole") (Str.ofString "_law_whole") (top 11)) (f9 : FactsAt K (Str.ofString "_law_right") (Str.ofString "_law_right") (top 12)) (f10 : FactsAt K (Str.ofString "law") (Str.ofString "law") (top 13)) : ∀ f fd, tb.fn f = some fd → DefAt G K mg f fd := by
  intro f fd hf
  simp only [tb] at hf
  unfold tbFn at hf
  split at hf
  · cases hf; exact at0 X g f0
  · cases hf; exact at1 X g f1
  · cases hf; exact at2 X g f2
  · cases hf; exact at3 X g f3
  · cases hf; exact at4 X g f4
  · cases hf; exact at5 X g f5
  · cases hf; exact at6 X g f6
  · cases hf; exact at7 X g f7
  · cases hf; exact at8 X g f8
  · cases hf; exact at9 X g f9
  · cases hf; exact at10 X g f10
  · cases hf
theorem blts {K : PySem.W.Frag} {mg : Str → Option Value} {h : Heap} (X : K.In h) (g : h.Ns mainGlobals mg) (z0 : PySem.W.nsIn K mainGlobals (Str.ofString "bool") = some none) (z1 : PySem.W.nsIn K mainGlobals (Str.ofString "dict") = some none) (z2 : PySem.W.nsIn K mainGlobals (Str.ofString "int") = some none) (z3 : PySem.W.nsIn K mainGlobals (Str.ofString "isinstance") = some none) (z4 : PySem.W.nsIn K mainGlobals (Str.ofString "list") = some none) (z5 : PySem.W.nsIn K mainGlobals (Str.ofString "range") = some none) (z6 : PySem.W.nsIn K mainGlobals (Str.ofString "reversed") = some none) (z7 : PySem.W.nsIn K mainGlobals (Str.ofString "str") = some none) (z8 : PySem.W.nsIn K mainGlobals (Str.ofString "sum") = some none) (z9 : PySem.W.nsIn K mainGlobals (Str.ofString "tuple") = some none) : ∀ x ∈ G.blt, mg x = none := by
  intro x hx
  simp only [G, List.mem_cons, List.not_mem_nil, or_false] at hx
  rcases hx with rfl | rfl | rfl | rfl | rfl | rfl | rfl | rfl | rfl | rfl
  · exact PySem.W.mg_none_of X g z0
  · exact PySem.W.mg_none_of X g z1
  · exact PySem.W.mg_none_of X g z2
  · exact PySem.W.mg_none_of X g z3
  · exact PySem.W.mg_none_of X g z4
  · exact PySem.W.mg_none_of X g z5
  · exact PySem.W.mg_none_of X g z6
  · exact PySem.W.mg_none_of X g z7
  · exact PySem.W.mg_none_of X g z8
  · exact PySem.W.mg_none_of X g z9
theorem cons {w : World} {K : PySem.W.Frag} {mg : Str → Option Value} {h : Heap} (X : K.In h) (g : h.Ns mainGlobals mg) (c0 : StrTup K (Str.ofString "KINDS") zs0) : ∀ i y, G.con i = some y → ConAt w K mg y (tb.con i) := by
  intro i y hy
  simp only [G] at hy
  unfold nmC at hy
  split at hy
  · cases hy; exact StrTup.at c0 X g
  · cases hy
end K09
end L3
namespace L3
namespace K09
open PySem
/-! pile -/
/-- a pile of cells, how often it was drawn from, a number -/
def pileP (a : Nat) (B : Int) (st : St) : Prop := ∃ m cs y z, m < a ∧ a < st.length ∧ pick st a = some (.lst [.ref m, .int y, .int z]) ∧ pick st m = some (.lst (List.map D.int cs)) ∧ cs.length ≤ 63 ∧ 0 ≤ y ∧ y ≤ B ∧ 0 ≤ z ∧ z ≤ 1000000000
def DK : Deck where
  p := pileP
  lt := fun ⟨_, _, _, _, _, h, _⟩ => h
  mono := fun ⟨m, cs, y, z, h1, h2, h3, h4, h5, h6, h7, h8⟩ hc => ⟨m, cs, y, z, h1, h2, h3, h4, h5, h6, by omega, h8⟩
  low := fun ⟨m, cs, y, z, h1, h2, h3, h4, h5⟩ hl => ⟨m, cs, y, z, h1, pick_lt ((hl _ (Nat.le_refl _)).trans h3), (hl _ (Nat.le_refl _)).trans h3, (hl _ (Nat.le_of_lt h1)).trans h4, h5⟩
theorem mixed {n : Nat} {K : Ct} {st : St} {c k : Int} {P : R → St → Prop} (hb : K.base = st.length) (hk : 0 ≤ k) (hk2 : k ≤ 1000000000) (h : ∀ v, 0 ≤ v → P (.d (.int v)) st) :
    (runF tb (n + 1) 3 K [.int c, .int k] st).to P := by
  rw [run_to (fd := fd3) rfl rfl rfl, leave_to]
  simp only [fd3, ss_nil, ss_cons, s_iff, s_asg, s_setix, s_ret, s_expr, t_p1, t_p2, t_one, t_not, t_and, t_or, e_p1, e_p2, e_var, e_lit, e_lst, e_tup, e_one, e_slc, es_nil, es_cons, o_no, o_yes, List.map_cons, List.map_nil, List.replicate, List.cons_append, List.nil_append, List.getElem?_cons_zero, List.getElem?_cons_succ, to_okR, pre2, true_and, and_true, toD_d, toD_fl, v_pow, v_neg, v_intB, v_intI, Tg.put, List.set_cons_zero, List.set_cons_succ, v_add, v_sub, v_lt, v_le, v_gt, v_ge, v_eq, v_ne, v_mul, test_bl, decide_eq_true_eq, e_fz, frz_d, frz_fl, frz_fd, sl_frz, sl_fl, sl_tup, isInt_v, isBool_v, isTup_v, isStr_v, min2_v, max2_v, t_call, t_lit, t_var, e_pt, e_dt, isTup_p, len_ptup, lst_flP, Bool.not_true, Bool.not_false, Bool.false_eq_true, if_false, if_true]
  rw [v_mod (show (0 : Int) < 2147483629 by decide)]
  have c1 := Int.emod_nonneg c (show (2147483629 : Int) ≠ 0 by decide)
  have c2 := Int.emod_lt_of_pos c (show (0 : Int) < 2147483629 by decide)
  refine ⟨mul64 (by decide) (by decide) (by omega) (by omega), ?_⟩
  simp only [ss_nil, ss_cons, s_iff, s_asg, s_setix, s_ret, s_expr, t_p1, t_p2, t_one, t_not, t_and, t_or, e_p1, e_p2, e_var, e_lit, e_lst, e_tup, e_one, e_slc, es_nil, es_cons, o_no, o_yes, List.map_cons, List.map_nil, List.replicate, List.cons_append, List.nil_append, List.getElem?_cons_zero, List.getElem?_cons_succ, to_okR, pre2, true_and, and_true, toD_d, toD_fl, v_pow, v_neg, v_intB, v_intI, Tg.put, List.set_cons_zero, List.set_cons_succ, v_add, v_sub, v_lt, v_le, v_gt, v_ge, v_eq, v_ne, v_mul, test_bl, decide_eq_true_eq, e_fz, frz_d, frz_fl, frz_fd, sl_frz, sl_fl, sl_tup, isInt_v, isBool_v, isTup_v, isStr_v, min2_v, max2_v, t_call, t_lit, t_var, e_pt, e_dt, isTup_p, len_ptup, lst_flP, Bool.not_true, Bool.not_false, Bool.false_eq_true, if_false, if_true]
  generalize hx : c % 2147483629 + 7919 * k + 101 = x
  refine ⟨mul64 (by omega) (by omega) (by decide) (by decide), ?_⟩
  rw [v_mod (show (0 : Int) < 2147483647 by decide)]
  have f1 := Int.emod_nonneg (x * 48271) (show (2147483647 : Int) ≠ 0 by decide)
  have f2 := Int.emod_lt_of_pos (x * 48271) (show (0 : Int) < 2147483647 by decide)
  generalize x * 48271 % 2147483647 = f at f1 f2
  simp only [ss_nil, ss_cons, s_iff, s_asg, s_setix, s_ret, s_expr, t_p1, t_p2, t_one, t_not, t_and, t_or, e_p1, e_p2, e_var, e_lit, e_lst, e_tup, e_one, e_slc, es_nil, es_cons, o_no, o_yes, List.map_cons, List.map_nil, List.replicate, List.cons_append, List.nil_append, List.getElem?_cons_zero, List.getElem?_cons_succ, to_okR, pre2, true_and, and_true, toD_d, toD_fl, v_pow, v_neg, v_intB, v_intI, Tg.put, List.set_cons_zero, List.set_cons_succ, v_add, v_sub, v_lt, v_le, v_gt, v_ge, v_eq, v_ne, v_mul, test_bl, decide_eq_true_eq, e_fz, frz_d, frz_fl, frz_fd, sl_frz, sl_fl, sl_tup, isInt_v, isBool_v, isTup_v, isStr_v, min2_v, max2_v, t_call, t_lit, t_var, e_pt, e_dt, isTup_p, len_ptup, lst_flP, Bool.not_true, Bool.not_false, Bool.false_eq_true, if_false, if_true]
  refine ⟨mul64 (by omega) (by omega) (by omega) (by omega), mul64 (by decide) (by decide) (by omega) (by omega), ?_⟩
  rw [v_mod (show (0 : Int) < 2147483587 by decide)]
  have g1 := Int.emod_nonneg (f * f + 69621 * f + k) (show (2147483587 : Int) ≠ 0 by decide)
  have g2 := Int.emod_lt_of_pos (f * f + 69621 * f + k) (show (0 : Int) < 2147483587 by decide)
  generalize (f * f + 69621 * f + k) % 2147483587 = g at g1 g2
  simp only [ss_nil, ss_cons, s_iff, s_asg, s_setix, s_ret, s_expr, t_p1, t_p2, t_one, t_not, t_and, t_or, e_p1, e_p2, e_var, e_lit, e_lst, e_tup, e_one, e_slc, es_nil, es_cons, o_no, o_yes, List.map_cons, List.map_nil, List.replicate, List.cons_append, List.nil_append, List.getElem?_cons_zero, List.getElem?_cons_succ, to_okR, pre2, true_and, and_true, toD_d, toD_fl, v_pow, v_neg, v_intB, v_intI, Tg.put, List.set_cons_zero, List.set_cons_succ, v_add, v_sub, v_lt, v_le, v_gt, v_ge, v_eq, v_ne, v_mul, test_bl, decide_eq_true_eq, e_fz, frz_d, frz_fl, frz_fd, sl_frz, sl_fl, sl_tup, isInt_v, isBool_v, isTup_v, isStr_v, min2_v, max2_v, t_call, t_lit, t_var, e_pt, e_dt, isTup_p, len_ptup, lst_flP, Bool.not_true, Bool.not_false, Bool.false_eq_true, if_false, if_true]
  refine ⟨mul64 (by omega) (by omega) (by decide) (by decide), ?_⟩
  rw [v_mod (show (0 : Int) < 2147483563 by decide)]
  have q1 := Int.emod_nonneg (g * 39373) (show (2147483563 : Int) ≠ 0 by decide)
  rw [v_fdiv (show (0 : Int) < 16 by decide) (by decide), leave_int, hb, cut_len rfl]
  exact h _ (Int.ediv_nonneg q1 (by decide))
theorem draw {n : Nat} {K : Ct} {st : St} {a : Nat} {B m : Int} {P : R → St → Prop} (hK : K.lk = []) (hd : DK.p a B st) (hB : B ≤ 900000000) (hm : 0 < m) (hm2 : m ≤ 1000000000)
    (h : ∀ v s, 0 ≤ v → v < m → Dr DK a (B + 1) st s → P (.d (.int v)) s) : (runF tb (n + 2) 4 (K.sub st) [.ref a, .int m] st).to P := by
  obtain ⟨p, cs, y, z, h1, h2, h3, h4, h5, h6, h7, h8, h9⟩ := hd
  have hK' : (K.sub st).lk = [] := hK
  have hb : (K.sub st).base = st.length := rfl
  generalize K.sub st = K at hK' hb
  rw [run_to (fd := fd4) rfl rfl rfl, leave_to]
  simp only [fd4, ss_nil, ss_cons, s_iff, s_asg, s_setix, s_ret, s_expr, t_p1, t_p2, t_one, t_not, t_and, t_or, e_p1, e_p2, e_var, e_lit, e_lst, e_tup, e_one, e_slc, es_nil, es_cons, o_no, o_yes, List.map_cons, List.map_nil, List.replicate, List.cons_append, List.nil_append, List.getElem?_cons_zero, List.getElem?_cons_succ, to_okR, pre2, true_and, and_true, toD_d, toD_fl, v_pow, v_neg, v_intB, v_intI, Tg.put, List.set_cons_zero, List.set_cons_succ, v_add, v_sub, v_lt, v_le, v_gt, v_ge, v_eq, v_ne, v_mul, test_bl, decide_eq_true_eq, e_fz, frz_d, frz_fl, frz_fd, sl_frz, sl_fl, sl_tup, isInt_v, isBool_v, isTup_v, isStr_v, min2_v, max2_v, t_call, t_lit, t_var, e_pt, e_dt, isTup_p, len_ptup, lst_flP, Bool.not_true, Bool.not_false, Bool.false_eq_true, if_false, if_true, ix_ref h3 (show atD _ 1 = some (D.int y) from rfl), set_ref h3 (show ixD _ 1 = some 1 from rfl) hK' (show D.flat (.int _) = true from rfl)]
  have i3 := pset_at (c := .lst [D.ref p, .int (y + 1), .int z]) h3
  have i4 := pset (c := .lst [D.ref p, .int (y + 1), .int z]) h4 (show p ≠ a by omega)
  have il : (St.set st a (.lst [D.ref p, .int (y + 1), .int z])).length = st.length := len_set _ _ _
  have io : ∀ k, a < k → pick (St.set st a (.lst [D.ref p, .int (y + 1), .int z])) k = pick st k := fun k hk => pick_set_ne st a k _ (by omega)
  generalize St.set st a (.lst [D.ref p, .int (y + 1), .int z]) = s at i3 i4 il io
  have cut : ∀ {s' : St}, s'.length = st.length → St.cut K.base s' = s' := fun e => by rw [hb]; exact cut_len e
  have a0 : atD [D.ref p, .int (y + 1), .int z] 0 = some (.ref p) := rfl
  have a1 : atD [D.ref p, .int (y + 1), .int z] 1 = some (.int (y + 1)) := rfl
  have a2 : atD [D.ref p, .int (y + 1), .int z] 2 = some (.int z) := rfl
  simp only [ix_ref i3 a0, ix_ref i3 a1, ix_ref i3 a2, eq_nil i4, ss_nil, ss_cons, s_iff, s_asg, s_setix, s_ret, s_expr, t_p1, t_p2, t_one, t_not, t_and, t_or, e_p1, e_p2, e_var, e_lit, e_lst, e_tup, e_one, e_slc, es_nil, es_cons, o_no, o_yes, List.map_cons, List.map_nil, List.replicate, List.cons_append, List.nil_append, List.getElem?_cons_zero, List.getElem?_cons_succ, to_okR, pre2, true_and, and_true, toD_d, toD_fl, v_pow, v_neg, v_intB, v_intI, Tg.put, List.set_cons_zero, List.set_cons_succ, v_add, v_sub, v_lt, v_le, v_gt, v_ge, v_eq, v_ne, v_mul, test_bl, decide_eq_true_eq, e_fz, frz_d, frz_fl, frz_fd, sl_frz, sl_fl, sl_tup, isInt_v, isBool_v, isTup_v, isStr_v, min2_v, max2_v, t_call, t_lit, t_var, e_pt, e_dt, isTup_p, len_ptup, lst_flP, Bool.not_true, Bool.not_false, Bool.false_eq_true, if_false, if_true]
  refine ⟨Nat.zero_le _, ?_⟩
  split
  · refine (e_call (f := 3) (fd := fd3) (tb := tb) rfl rfl).mpr ?_
    simp only [ss_nil, ss_cons, s_iff, s_asg, s_setix, s_ret, s_expr, t_p1, t_p2, t_one, t_not, t_and, t_or, e_p1, e_p2, e_var, e_lit, e_lst, e_tup, e_one, e_slc, es_nil, es_cons, o_no, o_yes, List.map_cons, List.map_nil, List.replicate, List.cons_append, List.nil_append, List.getElem?_cons_zero, List.getElem?_cons_succ, to_okR, pre2, true_and, and_true, toD_d, toD_fl, v_pow, v_neg, v_intB, v_intI, Tg.put, List.set_cons_zero, List.set_cons_succ, v_add, v_sub, v_lt, v_le, v_gt, v_ge, v_eq, v_ne, v_mul, test_bl, decide_eq_true_eq, e_fz, frz_d, frz_fl, frz_fd, sl_frz, sl_fl, sl_tup, isInt_v, isBool_v, isTup_v, isStr_v, min2_v, max2_v, t_call, t_lit, t_var, e_pt, e_dt, isTup_p, len_ptup, lst_flP, Bool.not_true, Bool.not_false, Bool.false_eq_true, if_false, if_true, ix_ref i3 a0, ix_ref i3 a1, ix_ref i3 a2]
    refine mixed (n := n) rfl (by omega) (by omega) fun v hv => ?_
    rw [v_mod hm, leave_int, cut il]
    exact h _ _ (Int.emod_nonneg _ (by omega)) (Int.emod_lt_of_pos _ hm) ⟨⟨p, cs, y + 1, z, h1, by omega, i3, i4, h5, by omega, by omega, h8, h9⟩, il, io⟩
  · rename_i hne
    have hpos : 0 < cs.length := by cases cs with | nil => exact absurd rfl hne | cons _ _ => simp
    have hlast : (List.map D.int cs)[(List.map D.int cs).length - 1]? = some (.int (cs[cs.length - 1]'(by omega))) := by
      rw [List.length_map, List.getElem?_map, List.getElem?_eq_getElem (show cs.length - 1 < cs.length by omega)]; rfl
    rw [pop_ref i4 hlast hK']
    have j3 := pset (c := .lst (List.map D.int cs).dropLast) i3 (show a ≠ p by omega)
    have j4 := pset_at (c := .lst (List.map D.int cs).dropLast) i4
    have jl : (St.set s p (.lst (List.map D.int cs).dropLast)).length = st.length := (len_set _ _ _).trans il
    have jo : ∀ k, a < k → pick (St.set s p (.lst (List.map D.int cs).dropLast)) k = pick st k := fun k hk => (pick_set_ne s p k _ (by omega)).trans (io k hk)
    have e4 : (List.map D.int cs).dropLast = List.map D.int cs.dropLast := by rw [List.map_dropLast]
    generalize St.set s p (.lst (List.map D.int cs).dropLast) = t at j3 j4 jl jo
    rw [e4] at j4
    generalize cs[cs.length - 1]'(by omega) = c
    have hdl : cs.dropLast.length + 1 ≤ 63 := by rw [List.length_dropLast]; omega
    simp only [ss_nil, ss_cons, s_iff, s_asg, s_setix, s_ret, s_expr, t_p1, t_p2, t_one, t_not, t_and, t_or, e_p1, e_p2, e_var, e_lit, e_lst, e_tup, e_one, e_slc, es_nil, es_cons, o_no, o_yes, List.map_cons, List.map_nil, List.replicate, List.cons_append, List.nil_append, List.getElem?_cons_zero, List.getElem?_cons_succ, to_okR, pre2, true_and, and_true, toD_d, toD_fl, v_pow, v_neg, v_intB, v_intI, Tg.put, List.set_cons_zero, List.set_cons_succ, v_add, v_sub, v_lt, v_le, v_gt, v_ge, v_eq, v_ne, v_mul, test_bl, decide_eq_true_eq, e_fz, frz_d, frz_fl, frz_fd, sl_frz, sl_fl, sl_tup, isInt_v, isBool_v, isTup_v, isStr_v, min2_v, max2_v, t_call, t_lit, t_var, e_pt, e_dt, isTup_p, len_ptup, lst_flP, Bool.not_true, Bool.not_false, Bool.false_eq_true, if_false, if_true]
    refine ⟨by decide, ?_⟩
    split
    · refine (e_call (f := 3) (fd := fd3) (tb := tb) rfl rfl).mpr ?_
      simp only [ss_nil, ss_cons, s_iff, s_asg, s_setix, s_ret, s_expr, t_p1, t_p2, t_one, t_not, t_and, t_or, e_p1, e_p2, e_var, e_lit, e_lst, e_tup, e_one, e_slc, es_nil, es_cons, o_no, o_yes, List.map_cons, List.map_nil, List.replicate, List.cons_append, List.nil_append, List.getElem?_cons_zero, List.getElem?_cons_succ, to_okR, pre2, true_and, and_true, toD_d, toD_fl, v_pow, v_neg, v_intB, v_intI, Tg.put, List.set_cons_zero, List.set_cons_succ, v_add, v_sub, v_lt, v_le, v_gt, v_ge, v_eq, v_ne, v_mul, test_bl, decide_eq_true_eq, e_fz, frz_d, frz_fl, frz_fd, sl_frz, sl_fl, sl_tup, isInt_v, isBool_v, isTup_v, isStr_v, min2_v, max2_v, t_call, t_lit, t_var, e_pt, e_dt, isTup_p, len_ptup, lst_flP, Bool.not_true, Bool.not_false, Bool.false_eq_true, if_false, if_true, ix_ref j3 a1]
      refine mixed (n := n) rfl (by omega) (by omega) fun v hv => ?_
      rw [v_mod hm, leave_int, cut jl]
      exact h _ _ (Int.emod_nonneg _ (by omega)) (Int.emod_lt_of_pos _ hm) ⟨⟨p, cs.dropLast, y + 1, z, h1, by omega, j3, j4, by omega, by omega, by omega, h8, h9⟩, jl, jo⟩
    · simp only [ss_nil, ss_cons, s_iff, s_asg, s_setix, s_ret, s_expr, t_p1, t_p2, t_one, t_not, t_and, t_or, e_p1, e_p2, e_var, e_lit, e_lst, e_tup, e_one, e_slc, es_nil, es_cons, o_no, o_yes, List.map_cons, List.map_nil, List.replicate, List.cons_append, List.nil_append, List.getElem?_cons_zero, List.getElem?_cons_succ, to_okR, pre2, true_and, and_true, toD_d, toD_fl, v_pow, v_neg, v_intB, v_intI, Tg.put, List.set_cons_zero, List.set_cons_succ, v_add, v_sub, v_lt, v_le, v_gt, v_ge, v_eq, v_ne, v_mul, test_bl, decide_eq_true_eq, e_fz, frz_d, frz_fl, frz_fd, sl_frz, sl_fl, sl_tup, isInt_v, isBool_v, isTup_v, isStr_v, min2_v, max2_v, t_call, t_lit, t_var, e_pt, e_dt, isTup_p, len_ptup, lst_flP, Bool.not_true, Bool.not_false, Bool.false_eq_true, if_false, if_true, ix_ref j3 a0]
      refine ⟨pre_app j4, ?_⟩
      rw [v_fdiv hm (by have := log64 (x := m) (by omega) (by omega); omega)]
      rw [app_ref j4 (by rw [List.length_map]; exact Nat.lt_of_lt_of_le (show cs.dropLast.length < 64 by omega) (by decide)) hK' rfl]
      have k3 := pset (c := .lst (List.map D.int cs.dropLast ++ [.int (c / m)])) j3 (show a ≠ p by omega)
      have k4 := pset_at (c := .lst (List.map D.int cs.dropLast ++ [.int (c / m)])) j4
      have kl : (St.set t p (.lst (List.map D.int cs.dropLast ++ [.int (c / m)]))).length = st.length := (len_set _ _ _).trans jl
      have ko : ∀ k, a < k → pick (St.set t p (.lst (List.map D.int cs.dropLast ++ [.int (c / m)]))) k = pick st k := fun k hk => (pick_set_ne t p k _ (by omega)).trans (jo k hk)
      generalize St.set t p (.lst (List.map D.int cs.dropLast ++ [.int (c / m)])) = t' at k3 k4 kl ko
      rw [v_mod hm, leave_int, cut kl]
      exact h _ _ (Int.emod_nonneg _ (by omega)) (Int.emod_lt_of_pos _ hm) ⟨⟨p, cs.dropLast ++ [c / m], y + 1, z, h1, by omega, k3, by simpa using k4, by simp; omega, by omega, by omega, h8, h9⟩, kl, ko⟩
theorem sum_mod : ∀ cs : List Int, 0 ≤ (cs.map fun c : Int => c % 1000003).sum ∧ (cs.map fun c : Int => c % 1000003).sum ≤ cs.length * 1000003
  | [] => by simp
  | c :: cs => by
    have := sum_mod cs
    have h1 := Int.emod_nonneg c (show (1000003 : Int) ≠ 0 by decide)
    have h2 := Int.emod_lt_of_pos c (show (0 : Int) < 1000003 by decide)
    simp only [List.map_cons, List.sum_cons, List.length_cons]
    omega
theorem deck {n : Nat} {K : Ct} {st : St} {ns : List Int} {P : R → St → Prop} (hl : ns.length ≤ 63)
    (h : ∀ z cs, List.length cs ≤ 63 → 0 ≤ z → z ≤ 1000000000 → P (.fl [.ref st.length, .int 0, .int z]) (.lst (List.map D.int cs) :: st)) : (runF tb (n + 1) 2 K [.frz (List.map D.int ns)] st).to P := by
  rw [runL_to (fd := fd2) rfl rfl rfl]
  simp only [fd2, ss_nil, ss_cons, s_iff, s_asg, s_setix, s_ret, s_expr, t_p1, t_p2, t_one, t_not, t_and, t_or, e_p1, e_p2, e_var, e_lit, e_lst, e_tup, e_one, e_slc, es_nil, es_cons, o_no, o_yes, List.map_cons, List.map_nil, List.replicate, List.cons_append, List.nil_append, List.getElem?_cons_zero, List.getElem?_cons_succ, to_okR, pre2, true_and, and_true, toD_d, toD_fl, v_pow, v_neg, v_intB, v_intI, Tg.put, List.set_cons_zero, List.set_cons_succ, v_add, v_sub, v_lt, v_le, v_gt, v_ge, v_eq, v_ne, v_mul, test_bl, decide_eq_true_eq, e_fz, frz_d, frz_fl, frz_fd, sl_frz, sl_fl, sl_tup, isInt_v, isBool_v, isTup_v, isStr_v, min2_v, max2_v, t_call, t_lit, t_var, e_pt, e_dt, isTup_p, len_ptup, lst_flP, Bool.not_true, Bool.not_false, Bool.false_eq_true, if_false, if_true, lrev_fl]
  have e0 : cutL (List.map D.int ns) none (some 63) = List.map D.int ns := by
    rw [cutL_take _ (by decide), List.take_of_length_le (by rw [List.length_map]; exact hl)]
  simp only [e0]
  refine e_lcF (fun _ => true) (fun x => match x with | .int i => .int (i % 1000003) | x => x) ?_
  simp only [it_seq, ss_nil, ss_cons, s_iff, s_asg, s_setix, s_ret, s_expr, t_p1, t_p2, t_one, t_not, t_and, t_or, e_p1, e_p2, e_var, e_lit, e_lst, e_tup, e_one, e_slc, es_nil, es_cons, o_no, o_yes, List.map_cons, List.map_nil, List.replicate, List.cons_append, List.nil_append, List.getElem?_cons_zero, List.getElem?_cons_succ, to_okR, pre2, true_and, and_true, toD_d, toD_fl, v_pow, v_neg, v_intB, v_intI, Tg.put, List.set_cons_zero, List.set_cons_succ, v_add, v_sub, v_lt, v_le, v_gt, v_ge, v_eq, v_ne, v_mul, test_bl, decide_eq_true_eq, e_fz, frz_d, frz_fl, frz_fd, sl_frz, sl_fl, sl_tup, isInt_v, isBool_v, isTup_v, isStr_v, min2_v, max2_v, t_call, t_lit, t_var, e_pt, e_dt, isTup_p, len_ptup, lst_flP, Bool.not_true, Bool.not_false, Bool.false_eq_true, if_false, if_true, e0, R.items, guardOf]
  refine ⟨by rfl, fun x hx => ?_, by rw [List.length_map]; exact Nat.le_trans hl (by decide), ?_⟩
  · obtain ⟨c, _, rfl⟩ := List.mem_map.mp hx
    refine ⟨_, rfl, ?_, fun _ => ?_⟩
    · simp only [denC]; exact ⟨rfl, rfl⟩
    · simp only [List.set_cons_zero, List.set_cons_succ, List.getElem?_cons_succ, List.getElem?_cons_zero, to_okR, v_mod (show (0 : Int) < 1000003 by decide), toD_d]
      exact ⟨trivial, trivial⟩
  · have e1 : List.map (fun x => match x with | D.int i => D.int (i % 1000003) | x => x) (List.filter (fun _ => true) (List.map D.int ns)) = (ns.map fun c : Int => c % 1000003).map D.int := by
      rw [List.filter_eq_self.mpr fun _ _ => rfl, List.map_map, List.map_map]; rfl
    rw [e1, sum_fl]
    have := sum_mod ns
    simp only [v_add, toD_d]
    refine ⟨by show 3 ≤ sizeLine; decide, ?_⟩
    rw [← List.map_reverse]
    exact h _ _ (by rw [List.length_reverse]; exact hl) (by omega) (by omega)

/-! names -/
/-- the letters' numbers as a text -/
def wordS (is : List Int) : Str := ⟨(is.map fun i => 97 + i.toNat).toArray⟩
theorem letter_at {i : Int} (h : 0 ≤ i) (h2 : i < 26) : atD (Str.ofString "abcdefghijklmnopqrstuvwxyz").cps.toList i = some (97 + i.toNat) := by
  have hl : (Str.ofString "abcdefghijklmnopqrstuvwxyz").cps.toList.length = 26 := by decide
  have all : ∀ j : Fin 26, (Str.ofString "abcdefghijklmnopqrstuvwxyz").cps.toList[j.val]? = some (97 + j.val) := by decide
  simp only [atD, ixD, if_pos h, hl, if_pos (show i < ((26 : Nat) : Int) by omega), Option.bind_some]
  exact all ⟨i.toNat, by omega⟩
theorem word_join (is : List Int) : Str.join (Str.ofString "") (is.map fun i => (⟨#[97 + i.toNat]⟩ : Str)) = wordS is := by
  have h := join_nil (is.map fun i => (⟨#[97 + i.toNat]⟩ : Str))
  have e : (Str.join (Str.ofString "") (is.map fun i => (⟨#[97 + i.toNat]⟩ : Str))).cps = (is.map fun i => 97 + i.toNat).toArray := by
    apply Array.toList_inj.mp
    rw [h]
    simp only [List.map_map]
    clear h
    induction is with
    | nil => rfl
    | cons i is ih => simp only [List.map_cons, List.flatten_cons, ih]; rfl
  cases hq : Str.join (Str.ofString "") (is.map fun i => (⟨#[97 + i.toNat]⟩ : Str)) with
  | mk c => rw [hq] at e; simp only at e; rw [e]; rfl
theorem word_inj {is js : List Int} (hi : ∀ i ∈ is, 0 ≤ i) (hj : ∀ i ∈ js, 0 ≤ i) (h : wordS is = wordS js) : is = js := by
  have h' : is.map (fun i => 97 + i.toNat) = js.map (fun i => 97 + i.toNat) := by
    have := congrArg (fun s : Str => s.cps.toList) h
    simpa [wordS] using this
  clear h
  induction is generalizing js with
  | nil => cases js with | nil => rfl | cons _ _ => simp at h'
  | cons i is ih =>
    cases js with
    | nil => simp at h'
    | cons j js =>
      simp only [List.map_cons, List.cons.injEq] at h'
      have a := hi i List.mem_cons_self
      have b := hj j List.mem_cons_self
      rw [ih (fun x hx => hi x (List.mem_cons_of_mem _ hx)) (fun x hx => hj x (List.mem_cons_of_mem _ hx)) h'.2, show i = j by omega]
theorem word_ok {is : List Int} (h : ∀ i ∈ is, 0 ≤ i ∧ i < 26) : PyData.strOk (wordS is) = true := by
  simp only [PyData.strOk, wordS, List.all_toArray, List.all_eq_true, decide_eq_true_eq, Array.all_eq_true', List.mem_toArray, List.mem_map]
  rintro x ⟨i, hi, rfl⟩
  have := h i hi
  omega
theorem word_len (is : List Int) : (wordS is).length = is.length := by simp [wordS, Str.length]
/-- the inner text of a comprehension over letters' numbers -/
theorem word_of {F : Calls} {K : Ct} {σ : Env} {st : St} {i j : Nat} {is : List Int} {it : It} {P : R → St → Prop} (hl : σ[i]? = some (some (.str (Str.ofString "abcdefghijklmnopqrstuvwxyz")))) (hij : i ≠ j) (hj : j < σ.length) (hb : ∀ x ∈ is, 0 ≤ x ∧ x < 26) (hs : is.length ≤ 100)
    (hit : (denIt F tb K it σ st).to fun ig s => s = st ∧ ig.1 = is.map D.int ∧ still ig.2 st = true) (h : P (.d (.str (wordS is))) st) :
    (denE F tb K (.lc (.p2 .item (.var i) (.var j)) (.one j) it .no) σ st).to fun y s => (ev2 .join K (.d (.str (Str.ofString ""))) y s).to P := by
  refine e_lcF (fun _ => true) (fun x => match x with | .int i => .str ⟨#[97 + i.toNat]⟩ | x => x) ?_
  refine hit.imp fun ig s ⟨e1, e2, e3⟩ => ?_
  subst e1
  rw [e2]
  refine ⟨e3, fun x hx => ?_, by rw [List.length_map]; exact Nat.le_trans hs (by decide), ?_⟩
  · obtain ⟨k, hk, rfl⟩ := List.mem_map.mp hx
    have hk2 := hb k hk
    refine ⟨σ.set j (some (.int k)), rfl, by simp only [denC]; exact ⟨rfl, rfl⟩, fun _ => ?_⟩
    have g1 : (σ.set j (some (D.int k)))[i]? = some (some (.str (Str.ofString "abcdefghijklmnopqrstuvwxyz"))) := by rw [List.getElem?_set_ne (Ne.symm hij)]; exact hl
    have g2 : (σ.set j (some (D.int k)))[j]? = some (some (.int k)) := by rw [List.getElem?_set_self hj]
    simp only [e_p2, e_var, g1, g2, to_okR, pre2, true_and]
    rw [ix_str (show (Str.ofString "abcdefghijklmnopqrstuvwxyz").length ≤ sizeLine by decide) (letter_at hk2.1 hk2.2)]
    exact ⟨rfl, rfl⟩
  · have e4 : List.map (fun x => match x with | D.int i => D.str ⟨#[97 + i.toNat]⟩ | x => x) (List.filter (fun _ => true) (List.map D.int is)) = (is.map fun i => (⟨#[97 + i.toNat]⟩ : Str)).map D.str := by
      rw [List.filter_eq_self.mpr fun _ _ => rfl, List.map_map, List.map_map]; rfl
    rw [e4]
    have hz : ((is.map fun i => (⟨#[97 + i.toNat]⟩ : Str)).map (·.length)).sum = is.length := by
      rw [ones_sum fun y hy => ?_, List.length_map]
      obtain ⟨i, _, rfl⟩ := List.mem_map.mp hy; rfl
    rw [join_fl (by rw [hz, show (Str.ofString "").length = 0 by decide]; omega), word_join]
    exact h
theorem names {n : Nat} {K : Ct} {st : St} {a : Nat} {B m : Int} {P : R → St → Prop} (hK : K.lk = []) (hd : DK.p a B st) (hB : B + 30 ≤ 900000000) (hm : 0 ≤ m) (hm2 : m ≤ 6)
    (h : ∀ ys s, ys.length = m.toNat → ys.Nodup → (∀ y ∈ ys, PyData.strOk y = true ∧ y.length ≤ 8 ∧ 0 < y.length) → Dr DK a (B + 30) st s → P (.fl (List.map D.str ys)) s) : (runF tb (n + 3) 5 (K.sub st) [.ref a, .int m] st).to P := by
  have hK' : (K.sub st).lk = [] := hK
  have hb : (K.sub st).base = st.length := rfl
  generalize K.sub st = K at hK' hb
  have ha := DK.lt hd
  rw [run_to (fd := fd5) rfl rfl rfl, leave_to]
  simp only [fd5, ss_nil, ss_cons, s_iff, s_asg, s_setix, s_ret, s_expr, t_p1, t_p2, t_one, t_not, t_and, t_or, e_p1, e_p2, e_var, e_lit, e_lst, e_tup, e_one, e_slc, es_nil, es_cons, o_no, o_yes, List.map_cons, List.map_nil, List.replicate, List.cons_append, List.nil_append, List.getElem?_cons_zero, List.getElem?_cons_succ, to_okR, pre2, true_and, and_true, toD_d, toD_fl, v_pow, v_neg, v_intB, v_intI, Tg.put, List.set_cons_zero, List.set_cons_succ, v_add, v_sub, v_lt, v_le, v_gt, v_ge, v_eq, v_ne, v_mul, test_bl, decide_eq_true_eq, e_fz, frz_d, frz_fl, frz_fd, sl_frz, sl_fl, sl_tup, isInt_v, isBool_v, isTup_v, isStr_v, min2_v, max2_v, t_call, t_lit, t_var, e_pt, e_dt, isTup_p, len_ptup, lst_flP, Bool.not_true, Bool.not_false, Bool.false_eq_true, if_false, if_true, e_call (f := 4) (fd := fd4) (tb := tb) rfl rfl]
  refine e_lc1 (fun k acc s => (∃ ws : List Int, acc = List.map D.int ws ∧ ws.length = k ∧ ∀ w ∈ ws, 0 ≤ w ∧ w < 26) ∧ Ds DK a (B + k) st s) ?_
  simp only [it_range1, ss_nil, ss_cons, s_iff, s_asg, s_setix, s_ret, s_expr, t_p1, t_p2, t_one, t_not, t_and, t_or, e_p1, e_p2, e_var, e_lit, e_lst, e_tup, e_one, e_slc, es_nil, es_cons, o_no, o_yes, List.map_cons, List.map_nil, List.replicate, List.cons_append, List.nil_append, List.getElem?_cons_zero, List.getElem?_cons_succ, to_okR, pre2, true_and, and_true, toD_d, toD_fl, v_pow, v_neg, v_intB, v_intI, Tg.put, List.set_cons_zero, List.set_cons_succ, v_add, v_sub, v_lt, v_le, v_gt, v_ge, v_eq, v_ne, v_mul, test_bl, decide_eq_true_eq, e_fz, frz_d, frz_fl, frz_fd, sl_frz, sl_fl, sl_tup, isInt_v, isBool_v, isTup_v, isStr_v, min2_v, max2_v, t_call, t_lit, t_var, e_pt, e_dt, isTup_p, len_ptup, lst_flP, Bool.not_true, Bool.not_false, Bool.false_eq_true, if_false, if_true]
  refine ⟨by decide, ⟨⟨[], rfl, rfl, by simp⟩, by simpa using Ds.start hd⟩, fun _ _ _ _ _ => rfl, fun k x acc s hx ⟨⟨ws, f1, f2, f3⟩, d1⟩ => ?_, fun acc s ⟨⟨ws, f1, f2, f3⟩, d1⟩ => ?_⟩
  · have hk : k < 8 := by have := (List.getElem?_eq_some_iff.mp hx).1; simpa using this
    simp only [ss_nil, ss_cons, s_iff, s_asg, s_setix, s_ret, s_expr, t_p1, t_p2, t_one, t_not, t_and, t_or, e_p1, e_p2, e_var, e_lit, e_lst, e_tup, e_one, e_slc, es_nil, es_cons, o_no, o_yes, List.map_cons, List.map_nil, List.replicate, List.cons_append, List.nil_append, List.getElem?_cons_zero, List.getElem?_cons_succ, to_okR, pre2, true_and, and_true, toD_d, toD_fl, v_pow, v_neg, v_intB, v_intI, Tg.put, List.set_cons_zero, List.set_cons_succ, v_add, v_sub, v_lt, v_le, v_gt, v_ge, v_eq, v_ne, v_mul, test_bl, decide_eq_true_eq, e_fz, frz_d, frz_fl, frz_fd, sl_frz, sl_fl, sl_tup, isInt_v, isBool_v, isTup_v, isStr_v, min2_v, max2_v, t_call, t_lit, t_var, e_pt, e_dt, isTup_p, len_ptup, lst_flP, Bool.not_true, Bool.not_false, Bool.false_eq_true, if_false, if_true, e_call (f := 4) (fd := fd4) (tb := tb) rfl rfl]
    refine draw (n := n) hK' d1.d (by omega) (by decide) (by decide) fun v s1 v1 v2 d2 => ?_
    refine ⟨⟨ws ++ [v], by simp [f1], by simp [f2], fun w hw => ?_⟩, ?_⟩
    · rcases List.mem_append.mp hw with q | q
      · exact f3 w q
      · rw [List.mem_singleton.mp q]; exact ⟨v1, v2⟩
    · have := d1.dr d2
      rw [show B + (k : Int) + 1 = B + ((k + 1 : Nat) : Int) by omega] at this
      exact this
  subst f1
  have f2 : ws.length = 8 := by simpa using f2
  have d1 : Ds DK a (B + 8) st s := by simpa using d1
  refine ⟨by rw [List.length_map, f2]; decide, ?_⟩
  refine draw (n := n) hK' d1.d (by omega) (by decide) (by decide) fun v1 s1 g1 g2 d2 => ?_
  try simp only [v_add, toD_d]
  refine draw (n := n) hK' d2.d (by omega) (by omega) (by omega) fun v2 s2 g3 g4 d3 => ?_
  try simp only [toD_d]
  refine ⟨by show 6 ≤ sizeLine; decide, ?_⟩
  refine draw (n := n) hK' d3.d (by omega) (by decide) (by decide) fun v3 s3 g5 g6 d4 => ?_
  refine ix_any g5 (by show v3 < 6; exact g6) fun d hdm => ?_
  obtain ⟨t, rfl, ht⟩ : ∃ t : Int, d = .int t ∧ t ∈ [(1 : Int), 3, 5, 7, 9, 11] := by
    simp only [List.mem_cons, List.not_mem_nil, or_false] at hdm
    rcases hdm with rfl | rfl | rfl | rfl | rfl | rfl <;> exact ⟨_, rfl, by simp⟩
  have ht1 : 1 ≤ t ∧ t ≤ 11 := by
    simp only [List.mem_cons, List.not_mem_nil, or_false] at ht
    rcases ht with rfl | rfl | rfl | rfl | rfl | rfl <;> decide
  try simp only [toD_d]
  refine draw (n := n) hK' d4.d (by omega) (by decide) (by decide) fun v4 s4 g7 g8 d5 => ?_
  have dd : Ds DK a (B + 30) st s4 := ((((d1.dr d2).dr d3).dr d4).dr d5).mono (by omega)
  simp only [v_eq, test_bl, decide_eq_true_eq]
  split
  · refine e_lcF (fun _ => true) (fun x => match x with | .int i => .str (wordS (ws.take (1 + i).toNat)) | x => x) ?_
    simp only [it_range1, ss_nil, ss_cons, s_iff, s_asg, s_setix, s_ret, s_expr, t_p1, t_p2, t_one, t_not, t_and, t_or, e_p1, e_p2, e_var, e_lit, e_lst, e_tup, e_one, e_slc, es_nil, es_cons, o_no, o_yes, List.map_cons, List.map_nil, List.replicate, List.cons_append, List.nil_append, List.getElem?_cons_zero, List.getElem?_cons_succ, to_okR, pre2, true_and, and_true, toD_d, toD_fl, v_pow, v_neg, v_intB, v_intI, Tg.put, List.set_cons_zero, List.set_cons_succ, v_add, v_sub, v_lt, v_le, v_gt, v_ge, v_eq, v_ne, v_mul, test_bl, decide_eq_true_eq, e_fz, frz_d, frz_fl, frz_fd, sl_frz, sl_fl, sl_tup, isInt_v, isBool_v, isTup_v, isStr_v, min2_v, max2_v, t_call, t_lit, t_var, e_pt, e_dt, isTup_p, len_ptup, lst_flP, Bool.not_true, Bool.not_false, Bool.false_eq_true, if_false, if_true]
    refine ⟨⟨by omega, by omega⟩, by rfl, fun x hx => ?_, by rw [List.length_map, List.length_range]; exact Nat.le_trans (show m.toNat ≤ 6 by omega) (by decide), ?_⟩
    · obtain ⟨k, hk, rfl⟩ := List.mem_map.mp hx
      have hk := List.mem_range.mp hk
      refine ⟨_, rfl, ?_, fun _ => ?_⟩
      · simp only [denC]; exact ⟨rfl, rfl⟩
      refine word_of (P := fun r s' => s' = s4 ∧ R.toD r s4 = some (.str (wordS (ws.take (1 + (k : Int)).toNat)), s4)) (i := 2) (j := 10) (is := ws.take (1 + (k : Int)).toNat) rfl (by decide) (by simp) (fun x hx => f3 x (List.mem_of_mem_take hx)) (by rw [List.length_take]; omega) ?_ ⟨rfl, rfl⟩
      simp only [it_seq, ss_nil, ss_cons, s_iff, s_asg, s_setix, s_ret, s_expr, t_p1, t_p2, t_one, t_not, t_and, t_or, e_p1, e_p2, e_var, e_lit, e_lst, e_tup, e_one, e_slc, es_nil, es_cons, o_no, o_yes, List.map_cons, List.map_nil, List.replicate, List.cons_append, List.nil_append, List.getElem?_cons_zero, List.getElem?_cons_succ, to_okR, pre2, true_and, and_true, toD_d, toD_fl, v_pow, v_neg, v_intB, v_intI, Tg.put, List.set_cons_zero, List.set_cons_succ, v_add, v_sub, v_lt, v_le, v_gt, v_ge, v_eq, v_ne, v_mul, test_bl, decide_eq_true_eq, e_fz, frz_d, frz_fl, frz_fd, sl_frz, sl_fl, sl_tup, isInt_v, isBool_v, isTup_v, isStr_v, min2_v, max2_v, t_call, t_lit, t_var, e_pt, e_dt, isTup_p, len_ptup, lst_flP, Bool.not_true, Bool.not_false, Bool.false_eq_true, if_false, if_true, R.items, guardOf]
      refine ⟨?_, by trivial⟩
      rw [cutL_take _ (by omega), List.map_take]
    · have e4 : List.map (fun x => match x with | D.int i => D.str (wordS (ws.take (1 + i).toNat)) | x => x) (List.filter (fun _ => true) ((List.range m.toNat).map fun (i : Nat) => D.int i)) = ((List.range m.toNat).map fun (k : Nat) => wordS (ws.take (1 + k))).map D.str := by
        rw [List.filter_eq_self.mpr fun _ _ => rfl, List.map_map, List.map_map]
        refine List.map_congr_left fun k _ => ?_
        show D.str (wordS (ws.take (1 + (k : Int)).toNat)) = D.str (wordS (ws.take (1 + k)))
        rw [show (1 + (k : Int)).toNat = 1 + k by omega]
      rw [e4, leave_fl (flats_unders (flats_str _)), hb]
      refine h _ _ (by simp) ?_ (fun y hy => ?_) (dd.cut ha)
      · refine List.Pairwise.map _ (fun x y hxy => ?_) (List.nodup_range.imp_of_mem (S := fun x y => x ≠ y ∧ x < 6 ∧ y < 6) fun {x y} hx hy hxy => ⟨hxy, by have := List.mem_range.mp hx; omega, by have := List.mem_range.mp hy; omega⟩)
        intro e
        have := congrArg Str.length e
        rw [word_len, word_len, List.length_take, List.length_take, f2] at this
        omega
      · obtain ⟨k, hk, rfl⟩ := List.mem_map.mp hy
        have hk := List.mem_range.mp hk
        exact ⟨word_ok fun i hi => f3 i (List.mem_of_mem_take hi), by rw [word_len, List.length_take]; omega, by rw [word_len, List.length_take]; omega⟩
  · refine ⟨Nat.zero_le _, ?_⟩
    have hv2 : v2.toNat < ws.length := by omega
    have hat : atD (List.map D.int ws) v2 = some (.int ws[v2.toNat]) := by
      simp only [atD, ixD, if_pos g3, List.length_map, if_pos (show v2 < (ws.length : Int) by omega), Option.bind_some, List.getElem?_map, List.getElem?_eq_getElem hv2, Option.map_some]
    have hwv := f3 _ (List.getElem_mem hv2)
    -- the k-th word
    let wk : Nat → List Int := fun k => (ws.take (1 + v1).toNat).set v2.toNat ((ws[v2.toNat] + t * k) % 26)
    have wkb : ∀ k, ∀ i ∈ wk k, 0 ≤ i ∧ i < 26 := fun k i hi => by
      rcases List.mem_or_eq_of_mem_set hi with q | q
      · exact f3 i (List.mem_of_mem_take q)
      · rw [q]; exact ⟨Int.emod_nonneg _ (by decide), Int.emod_lt_of_pos _ (by decide)⟩
    have wkl : ∀ k, (wk k).length = (1 + v1).toNat := fun k => by simp only [wk, List.length_set, List.length_take]; omega
    refine s_for (fun k σ' s => ∃ (o8 o9 : Option D), Ds DK a (B + 30) st s ∧ s4.length < s.length ∧ pick s s4.length = some (.lst (((List.range k).map fun k => wordS (wk k)).map D.str)) ∧
      σ' = [some (.ref a), some (.int m), some (.str (Str.ofString "abcdefghijklmnopqrstuvwxyz")), some (.frz (List.map D.int ws)), some (.int (1 + v1)), some (.int v2), some (.int t), some (.ref s4.length), o8, o9, none]) ?_
    simp only [it_range1, ss_nil, ss_cons, s_iff, s_asg, s_setix, s_ret, s_expr, t_p1, t_p2, t_one, t_not, t_and, t_or, e_p1, e_p2, e_var, e_lit, e_lst, e_tup, e_one, e_slc, es_nil, es_cons, o_no, o_yes, List.map_cons, List.map_nil, List.replicate, List.cons_append, List.nil_append, List.getElem?_cons_zero, List.getElem?_cons_succ, to_okR, pre2, true_and, and_true, toD_d, toD_fl, v_pow, v_neg, v_intB, v_intI, Tg.put, List.set_cons_zero, List.set_cons_succ, v_add, v_sub, v_lt, v_le, v_gt, v_ge, v_eq, v_ne, v_mul, test_bl, decide_eq_true_eq, e_fz, frz_d, frz_fl, frz_fd, sl_frz, sl_fl, sl_tup, isInt_v, isBool_v, isTup_v, isStr_v, min2_v, max2_v, t_call, t_lit, t_var, e_pt, e_dt, isTup_p, len_ptup, lst_flP, Bool.not_true, Bool.not_false, Bool.false_eq_true, if_false, if_true]
    have l4 := dd.le
    refine ⟨⟨by omega, by omega⟩, ⟨none, none, dd.push _, by simp, pick_top, rfl⟩, fun _ _ _ _ _ => rfl, fun k x σ' s' hx ⟨o8, o9, q1, q2, q3, q4⟩ => ?_, fun σ' s' ⟨o8, o9, q1, q2, q3, q4⟩ => ?_⟩
    · have hk : k < m.toNat := by have := (List.getElem?_eq_some_iff.mp hx).1; simpa using this
      have ex : x = .int k := by rw [List.getElem?_map, List.getElem?_range hk] at hx; simpa using hx.symm
      subst ex q4
      simp only [ss_nil, ss_cons, s_iff, s_asg, s_setix, s_ret, s_expr, t_p1, t_p2, t_one, t_not, t_and, t_or, e_p1, e_p2, e_var, e_lit, e_lst, e_tup, e_one, e_slc, es_nil, es_cons, o_no, o_yes, List.map_cons, List.map_nil, List.replicate, List.cons_append, List.nil_append, List.getElem?_cons_zero, List.getElem?_cons_succ, to_okR, pre2, true_and, and_true, toD_d, toD_fl, v_pow, v_neg, v_intB, v_intI, Tg.put, List.set_cons_zero, List.set_cons_succ, v_add, v_sub, v_lt, v_le, v_gt, v_ge, v_eq, v_ne, v_mul, test_bl, decide_eq_true_eq, e_fz, frz_d, frz_fl, frz_fd, sl_frz, sl_fl, sl_tup, isInt_v, isBool_v, isTup_v, isStr_v, min2_v, max2_v, t_call, t_lit, t_var, e_pt, e_dt, isTup_p, len_ptup, lst_flP, Bool.not_true, Bool.not_false, Bool.false_eq_true, if_false, if_true, cutL_take (List.map D.int ws) (show 0 ≤ 1 + v1 by omega), ix_frz hat, v_mod (show (0 : Int) < 26 by decide)]
      refine ⟨mul64 (by omega) (by omega) (by omega) (by omega), ?_⟩
      have hix : ixD (List.take (1 + v1).toNat (List.map D.int ws)).length v2 = some v2.toNat := by
        simp only [ixD, if_pos g3, List.length_take, List.length_map, if_pos (show v2 < ((min (1 + v1).toNat ws.length : Nat) : Int) by omega)]
      rw [set_ref pick_top hix hK' (show D.flat (.int _) = true from rfl), set_top]
      have e5 : (List.take (1 + v1).toNat (List.map D.int ws)).set v2.toNat (.int ((ws[v2.toNat] + t * (k : Int)) % 26)) = List.map D.int (wk k) := by simp only [wk, List.map_set, List.map_take]
      rw [e5]
      have p3 : pick (.lst (List.map D.int (wk k)) :: s') s4.length = some (.lst (((List.range k).map fun k => wordS (wk k)).map D.str)) := pcs q3
      have wf : ∀ {P : R → St → Prop}, P (.d (.str (wordS (wk k)))) (.lst (List.map D.int (wk k)) :: s') → (denE (runF tb (n + 2)) tb K (.lc (.p2 .item (.var 2) (.var 10)) (.one 10) (.seq (.var 9)) .no)
          [some (.ref a), some (.int m), some (.str (Str.ofString "abcdefghijklmnopqrstuvwxyz")), some (.frz (List.map D.int ws)), some (.int (1 + v1)), some (.int v2), some (.int t), some (.ref s4.length), some (.int (k : Int)), some (.ref s'.length), none] (.lst (List.map D.int (wk k)) :: s')).to (fun y s => (ev2 .join K (.d (.str (Str.ofString ""))) y s).to P) := fun hP => by
        refine word_of (i := 2) (j := 10) (is := wk k) rfl (by decide) (by simp) (wkb k) (by rw [wkl]; omega) ?_ hP
        simp only [it_seq, ss_nil, ss_cons, s_iff, s_asg, s_setix, s_ret, s_expr, t_p1, t_p2, t_one, t_not, t_and, t_or, e_p1, e_p2, e_var, e_lit, e_lst, e_tup, e_one, e_slc, es_nil, es_cons, o_no, o_yes, List.map_cons, List.map_nil, List.replicate, List.cons_append, List.nil_append, List.getElem?_cons_zero, List.getElem?_cons_succ, to_okR, pre2, true_and, and_true, toD_d, toD_fl, v_pow, v_neg, v_intB, v_intI, Tg.put, List.set_cons_zero, List.set_cons_succ, v_add, v_sub, v_lt, v_le, v_gt, v_ge, v_eq, v_ne, v_mul, test_bl, decide_eq_true_eq, e_fz, frz_d, frz_fl, frz_fd, sl_frz, sl_fl, sl_tup, isInt_v, isBool_v, isTup_v, isStr_v, min2_v, max2_v, t_call, t_lit, t_var, e_pt, e_dt, isTup_p, len_ptup, lst_flP, Bool.not_true, Bool.not_false, Bool.false_eq_true, if_false, if_true, R.items, St.get, pick_top, guardOf, still, decide_true]
      refine ⟨pre_app p3, ?_⟩
      refine wf ?_
      rw [app_ref p3 (by rw [List.length_map, List.length_map, List.length_range]; exact Nat.lt_of_lt_of_le (show k < 7 by omega) (by decide)) hK' rfl]
      refine ⟨_, _, (q1.push _).put (by omega) (by omega) _, by rw [len_set]; simp; omega, ?_, rfl⟩
      rw [pset_at p3, List.range_succ, List.map_append, List.map_append]; rfl
    · subst q4
      simp only [e_var, List.getElem?_cons_zero, List.getElem?_cons_succ, to_okR]
      rw [leave_new (by omega) q3 (flats_unders (flats_str _)), hb]
      simp only [List.length_map, List.length_range]
      refine h _ _ (by simp) ?_ (fun y hy => ?_) (q1.cut ha)
      · refine List.Pairwise.map _ (fun x y hxy => ?_) (List.nodup_range.imp_of_mem (S := fun x y => x ≠ y ∧ x < 6 ∧ y < 6) fun {x y} hx hy hxy => ⟨hxy, by have := List.mem_range.mp hx; omega, by have := List.mem_range.mp hy; omega⟩)
        intro e
        have e6 := word_inj (fun i hi => (wkb x i hi).1) (fun i hi => (wkb y i hi).1) e
        have e7 := congrArg (fun l : List Int => l[v2.toNat]?) e6
        simp only [wk] at e7
        rw [List.getElem?_set_self (by rw [List.length_take]; omega), List.getElem?_set_self (by rw [List.length_take]; omega)] at e7
        simp only [Option.some.injEq] at e7
        simp only [List.mem_cons, List.not_mem_nil, or_false] at ht
        rcases ht with rfl | rfl | rfl | rfl | rfl | rfl <;> omega
      · obtain ⟨k, hk, rfl⟩ := List.mem_map.mp hy
        exact ⟨word_ok (wkb k), by rw [word_len, wkl]; omega, by rw [word_len, wkl]; omega⟩

/-! machine -/
/-- units and works of a drawn machine -/
structure UnitsOk (us : List (Str × Int)) : Prop where
  len : us.length ≤ 6
  pos : 0 < us.length
  nd : (us.map (·.1)).Nodup
  ok : ∀ u ∈ us, PyData.strOk u.1 = true ∧ u.1.length ≤ 8 ∧ 0 < u.1.length
  many : ∀ u ∈ us, 1 ≤ u.2 ∧ u.2 ≤ 6
def unitsD (us : List (Str × Int)) : D := .ptup (us.map fun u => .tup [.str u.1, .int u.2])
def worksD (ws : List (Str × Int × Int)) : D := .ptup (ws.map fun w => .tup [.str w.1, .int w.2.1, .int w.2.2])
structure WorksOk (us : List (Str × Int)) (ws : List (Str × Int × Int)) : Prop where
  len : ws.length = 11
  of : ∀ w ∈ ws, (∃ u ∈ us, u.1 = w.1) ∧ 1 ≤ w.2.1 ∧ w.2.1 ≤ 6 ∧ 1 ≤ w.2.2 ∧ w.2.2 ≤ 6
theorem flats_units : ∀ us : List (Str × Int), D.flats (us.map fun u => D.tup [.str u.1, .int u.2]) = true
  | [] => rfl
  | u :: us => by simp [D.flats, D.flat, flats_units us]
theorem flats_works : ∀ ws : List (Str × Int × Int), D.flats (ws.map fun w => D.tup [.str w.1, .int w.2.1, .int w.2.2]) = true
  | [] => rfl
  | u :: us => by simp [D.flats, D.flat, flats_works us]
theorem ix_two {K : Ct} {st : St} {P : R → St → Prop} {x y : D} {b : Bool} (h1 : b = false → P (.d x) st) (h2 : b = true → P (.d y) st) : (ev2 .item K (.fl [x, y]) (.d (.int (if b = true then 1 else 0))) st).to P := by
  cases b with
  | false => rw [ix_fl (show atD [x, y] (if false = true then 1 else 0) = some x from rfl)]; exact h1 rfl
  | true => rw [ix_fl (show atD [x, y] (if true = true then 1 else 0) = some y from rfl)]; exact h2 rfl
theorem machine {n : Nat} {K : Ct} {st : St} {a : Nat} {B : Int} {P : R → St → Prop} (hK : K.lk = []) (hd : DK.p a B st) (hB : B + 100 ≤ 900000000)
    (h : ∀ us ws s, UnitsOk us → WorksOk us ws → Dr DK a (B + 100) st s → P (.d (.tup [unitsD us, worksD ws])) s) : (runF tb (n + 4) 6 (K.sub st) [.ref a] st).to P := by
  have hK' : (K.sub st).lk = [] := hK
  have hb : (K.sub st).base = st.length := rfl
  generalize K.sub st = K at hK' hb
  have ha := DK.lt hd
  rw [run_to (fd := fd6) rfl rfl rfl, leave_to]
  simp only [fd6, ss_nil, ss_cons, s_iff, s_asg, s_setix, s_ret, s_expr, t_p1, t_p2, t_one, t_not, t_and, t_or, e_p1, e_p2, e_var, e_lit, e_lst, e_tup, e_one, e_slc, es_nil, es_cons, o_no, o_yes, List.map_cons, List.map_nil, List.replicate, List.cons_append, List.nil_append, List.getElem?_cons_zero, List.getElem?_cons_succ, to_okR, pre2, true_and, and_true, toD_d, toD_fl, v_pow, v_neg, v_intB, v_intI, Tg.put, List.set_cons_zero, List.set_cons_succ, v_add, v_sub, v_lt, v_le, v_gt, v_ge, v_eq, v_ne, v_mul, test_bl, decide_eq_true_eq, e_fz, frz_d, frz_fl, frz_fd, sl_frz, sl_fl, sl_tup, isInt_v, isBool_v, isTup_v, isStr_v, min2_v, max2_v, t_call, t_lit, t_var, e_pt, e_dt, isTup_p, len_ptup, lst_flP, Bool.not_true, Bool.not_false, Bool.false_eq_true, if_false, if_true, e_call (f := 4) (fd := fd4) (tb := tb) rfl rfl, e_call (f := 5) (fd := fd5) (tb := tb) rfl rfl]
  refine draw (n := n + 1) hK' hd (by omega) (by decide) (by decide) fun v1 s1 g1 g2 d1 => ?_
  refine ⟨by show 2 ≤ sizeLine; decide, ?_⟩
  refine draw (n := n + 1) hK' d1.d (by omega) (by decide) (by decide) fun v2 s2 g3 g4 d2 => ?_
  simp only [v_eq, v_intB, decide_eq_true_eq]
  have two : ∀ {Q : R → St → Prop} {v k x y : Int} {s : St}, (∀ z, z = x ∨ z = y → Q (.d (.int z)) s) → (ev2 .item K (.fl [.int x, .int y]) (.d (.int (if v = k then 1 else 0))) s).to Q := fun {Q v k x y s} hq => by
    split
    · rw [ix_fl (show atD [D.int x, .int y] 1 = some (.int y) from rfl)]; exact hq y (.inr rfl)
    · rw [ix_fl (show atD [D.int x, .int y] 0 = some (.int x) from rfl)]; exact hq x (.inl rfl)
  refine two fun m hm => ?_
  have hm1 : 1 ≤ m ∧ m ≤ 6 := by rcases hm with rfl | rfl <;> omega
  simp only [toD_d]
  refine names (n := n) hK' d2.d (by omega) (by omega) (by omega) fun ys s3 y1 y2 y3 d3 => ?_
  simp only [frz_fl, toD_d]
  have dd := (d1.trans d2).trans d3
  have l3 := dd.len
  refine ⟨Nat.zero_le _, ?_⟩
  refine s_for (fun k σ' s => ∃ (us : List (Str × Int)) (o4 : Option D), us.map (·.1) = ys.take k ∧ (∀ u ∈ us, 1 ≤ u.2 ∧ u.2 ≤ 6) ∧ Ds DK a (B + 32 + 3 * k) st s ∧ s.length = s3.length + 1 ∧ pick s s3.length = some (.lst (us.map fun u => .tup [.str u.1, .int u.2])) ∧
    σ' = [some (.ref a), some (.int m), some (.frz (List.map D.str ys)), some (.ref s3.length), o4, none, none, none]) ?_
  simp only [it_seq, ss_nil, ss_cons, s_iff, s_asg, s_setix, s_ret, s_expr, t_p1, t_p2, t_one, t_not, t_and, t_or, e_p1, e_p2, e_var, e_lit, e_lst, e_tup, e_one, e_slc, es_nil, es_cons, o_no, o_yes, List.map_cons, List.map_nil, List.replicate, List.cons_append, List.nil_append, List.getElem?_cons_zero, List.getElem?_cons_succ, to_okR, pre2, true_and, and_true, toD_d, toD_fl, v_pow, v_neg, v_intB, v_intI, Tg.put, List.set_cons_zero, List.set_cons_succ, v_add, v_sub, v_lt, v_le, v_gt, v_ge, v_eq, v_ne, v_mul, test_bl, decide_eq_true_eq, e_fz, frz_d, frz_fl, frz_fd, sl_frz, sl_fl, sl_tup, isInt_v, isBool_v, isTup_v, isStr_v, min2_v, max2_v, t_call, t_lit, t_var, e_pt, e_dt, isTup_p, len_ptup, lst_flP, Bool.not_true, Bool.not_false, Bool.false_eq_true, if_false, if_true, R.items, guardOf]
  refine ⟨⟨[], none, by simp, by simp, by have := dd.ds.push (.lst []); simpa using this.mono (by omega), rfl, pick_top, rfl⟩, fun _ _ _ _ _ => rfl, fun k x σ' s hx ⟨us, o4, q1, q2, q3, q4, q5, q6⟩ => ?_, fun σ' s ⟨us, o4, q1, q2, q3, q4, q5, q6⟩ => ?_⟩
  · have hk : k < ys.length := by have := (List.getElem?_eq_some_iff.mp hx).1; simpa using this
    obtain ⟨y, hy, rfl⟩ : ∃ y, ys[k]? = some y ∧ D.str y = x := by simpa using hx
    have hul : us.length = k := by have := congrArg List.length q1; simpa [Nat.min_eq_left (Nat.le_of_lt hk)] using this
    subst q6
    simp only [ss_nil, ss_cons, s_iff, s_asg, s_setix, s_ret, s_expr, t_p1, t_p2, t_one, t_not, t_and, t_or, e_p1, e_p2, e_var, e_lit, e_lst, e_tup, e_one, e_slc, es_nil, es_cons, o_no, o_yes, List.map_cons, List.map_nil, List.replicate, List.cons_append, List.nil_append, List.getElem?_cons_zero, List.getElem?_cons_succ, to_okR, pre2, true_and, and_true, toD_d, toD_fl, v_pow, v_neg, v_intB, v_intI, Tg.put, List.set_cons_zero, List.set_cons_succ, v_add, v_sub, v_lt, v_le, v_gt, v_ge, v_eq, v_ne, v_mul, test_bl, decide_eq_true_eq, e_fz, frz_d, frz_fl, frz_fd, sl_frz, sl_fl, sl_tup, isInt_v, isBool_v, isTup_v, isStr_v, min2_v, max2_v, t_call, t_lit, t_var, e_pt, e_dt, isTup_p, len_ptup, lst_flP, Bool.not_true, Bool.not_false, Bool.false_eq_true, if_false, if_true, e_call (f := 4) (fd := fd4) (tb := tb) rfl rfl]
    refine ⟨pre_app q5, ?_⟩
    refine draw (n := n + 1) hK' q3.d (by omega) (by decide) (by decide) fun v1 s5 g1 g2 e1 => ?_
    simp only [v_add, toD_d]
    refine draw (n := n + 1) hK' e1.d (by omega) (by decide) (by decide) fun v2 s6 g3 g4 e2 => ?_
    simp only [v_add, toD_d]
    refine ⟨by show 2 ≤ sizeLine; decide, ?_⟩
    refine draw (n := n + 1) hK' e2.d (by omega) (by decide) (by decide) fun v3 s7 g5 g6 e3 => ?_
    simp only [v_eq, v_intB, decide_eq_true_eq]
    refine two fun w hw => ?_
    simp only [toD_d]
    refine ⟨by show 2 ≤ sizeLine; decide, ?_⟩
    have ee := (e1.trans e2).trans e3
    have p7 := ee.at (show a < s3.length by omega) q5
    rw [app_ref p7 (by rw [List.length_map, hul]; exact Nat.lt_of_lt_of_le (show k < 7 by omega) (by decide)) hK' (by simp [D.flat, D.flats])]
    refine ⟨us ++ [(y, w)], _, ?_, fun u hu => ?_, ((q3.dr ee).put (by omega) (by omega) _).mono (by omega), by rw [len_set, ee.len, q4], ?_, rfl⟩
    · rw [List.map_append, q1, List.take_add_one, hy]; rfl
    · rcases List.mem_append.mp hu with q | q
      · exact q2 u q
      · rw [List.mem_singleton.mp q]; rcases hw with rfl | rfl <;> (constructor <;> (show _ ≤ _) <;> simp only <;> omega)
    · rw [pset_at p7, List.map_append]; rfl
  subst q6
  rw [List.length_map] at q1 q3
  rw [List.take_of_length_le (Nat.le_refl _)] at q1
  have hul : us.length = ys.length := by rw [← q1, List.length_map]
  have uok : UnitsOk us := ⟨by omega, by omega, by rw [q1]; exact y2, fun u hu => y3 _ (by rw [← q1]; exact List.mem_map_of_mem hu), q2⟩
  simp only [ss_nil, ss_cons, s_iff, s_asg, s_setix, s_ret, s_expr, t_p1, t_p2, t_one, t_not, t_and, t_or, e_p1, e_p2, e_var, e_lit, e_lst, e_tup, e_one, e_slc, es_nil, es_cons, o_no, o_yes, List.map_cons, List.map_nil, List.replicate, List.cons_append, List.nil_append, List.getElem?_cons_zero, List.getElem?_cons_succ, to_okR, pre2, true_and, and_true, toD_d, toD_fl, v_pow, v_neg, v_intB, v_intI, Tg.put, List.set_cons_zero, List.set_cons_succ, v_add, v_sub, v_lt, v_le, v_gt, v_ge, v_eq, v_ne, v_mul, test_bl, decide_eq_true_eq, e_fz, frz_d, frz_fl, frz_fd, sl_frz, sl_fl, sl_tup, isInt_v, isBool_v, isTup_v, isStr_v, min2_v, max2_v, t_call, t_lit, t_var, e_pt, e_dt, isTup_p, len_ptup, lst_flP, Bool.not_true, Bool.not_false, Bool.false_eq_true, if_false, if_true]
  refine ⟨Nat.zero_le _, ?_⟩
  refine s_for (fun k σ' s' => ∃ (ws : List (Str × Int × Int)) (o4 o6 o7 : Option D), ws.length = k ∧ (∀ w ∈ ws, (∃ u ∈ us, u.1 = w.1) ∧ 1 ≤ w.2.1 ∧ w.2.1 ≤ 6 ∧ 1 ≤ w.2.2 ∧ w.2.2 ≤ 6) ∧ Ds DK a (B + 50 + 4 * k) st s' ∧
    pick s' s3.length = some (.lst (us.map fun u => .tup [.str u.1, .int u.2])) ∧ pick s' s.length = some (.lst (ws.map fun w => .tup [.str w.1, .int w.2.1, .int w.2.2])) ∧
    σ' = [some (.ref a), some (.int m), some (.frz (List.map D.str ys)), some (.ref s3.length), o4, some (.ref s.length), o6, o7]) ?_
  simp only [it_range1, ss_nil, ss_cons, s_iff, s_asg, s_setix, s_ret, s_expr, t_p1, t_p2, t_one, t_not, t_and, t_or, e_p1, e_p2, e_var, e_lit, e_lst, e_tup, e_one, e_slc, es_nil, es_cons, o_no, o_yes, List.map_cons, List.map_nil, List.replicate, List.cons_append, List.nil_append, List.getElem?_cons_zero, List.getElem?_cons_succ, to_okR, pre2, true_and, and_true, toD_d, toD_fl, v_pow, v_neg, v_intB, v_intI, Tg.put, List.set_cons_zero, List.set_cons_succ, v_add, v_sub, v_lt, v_le, v_gt, v_ge, v_eq, v_ne, v_mul, test_bl, decide_eq_true_eq, e_fz, frz_d, frz_fl, frz_fd, sl_frz, sl_fl, sl_tup, isInt_v, isBool_v, isTup_v, isStr_v, min2_v, max2_v, t_call, t_lit, t_var, e_pt, e_dt, isTup_p, len_ptup, lst_flP, Bool.not_true, Bool.not_false, Bool.false_eq_true, if_false, if_true]
  refine ⟨⟨by decide, by decide⟩, ⟨[], o4, none, none, rfl, by simp, (q3.push _).mono (by omega), pcs q5, pick_top, rfl⟩, fun _ _ _ _ _ => rfl, fun k x σ' s' hx ⟨ws, o4, o6, o7, w1, w2, w3, w4, w5, w6⟩ => ?_, fun σ' s' ⟨ws, o4, o6, o7, w1, w2, w3, w4, w5, w6⟩ => ?_⟩
  · have hk : k < 11 := by have := (List.getElem?_eq_some_iff.mp hx).1; simpa using this
    subst w6
    simp only [ss_nil, ss_cons, s_iff, s_asg, s_setix, s_ret, s_expr, t_p1, t_p2, t_one, t_not, t_and, t_or, e_p1, e_p2, e_var, e_lit, e_lst, e_tup, e_one, e_slc, es_nil, es_cons, o_no, o_yes, List.map_cons, List.map_nil, List.replicate, List.cons_append, List.nil_append, List.getElem?_cons_zero, List.getElem?_cons_succ, to_okR, pre2, true_and, and_true, toD_d, toD_fl, v_pow, v_neg, v_intB, v_intI, Tg.put, List.set_cons_zero, List.set_cons_succ, v_add, v_sub, v_lt, v_le, v_gt, v_ge, v_eq, v_ne, v_mul, test_bl, decide_eq_true_eq, e_fz, frz_d, frz_fl, frz_fd, sl_frz, sl_fl, sl_tup, isInt_v, isBool_v, isTup_v, isStr_v, min2_v, max2_v, t_call, t_lit, t_var, e_pt, e_dt, isTup_p, len_ptup, lst_flP, Bool.not_true, Bool.not_false, Bool.false_eq_true, if_false, if_true, e_call (f := 4) (fd := fd4) (tb := tb) rfl rfl]
    refine ⟨by show 2 ≤ sizeLine; decide, ?_⟩
    refine draw (n := n + 1) hK' w3.d (by omega) (by decide) (by decide) fun v1 t1 g1 g2 e1 => ?_
    simp only [v_eq, v_intB, decide_eq_true_eq]
    refine two fun x hx => ?_
    have hx1 : 3 ≤ x ∧ x ≤ 6 := by rcases hx with rfl | rfl <;> decide
    simp only [toD_d]
    refine ⟨pre_app (e1.at (by omega) w5), ?_⟩
    refine draw (n := n + 1) hK' e1.d (by omega) (by omega) (by omega) fun v2 t2 g3 g4 e2 => ?_
    have hv2 : v2.toNat < us.length := by omega
    have hv3 : v2.toNat < ys.length := by omega
    have hat : atD (List.map D.str ys) v2 = some (.str (us[v2.toNat]).1) := by
      have e5 : ys[v2.toNat] = (us[v2.toNat]).1 := by simp only [← q1, List.getElem_map]
      simp only [atD, ixD, if_pos g3, List.length_map, if_pos (show v2 < (ys.length : Int) by omega), Option.bind_some, List.getElem?_map, List.getElem?_eq_getElem hv3, Option.map_some, e5]
    rw [ix_frz hat]
    simp only [toD_d]
    refine draw (n := n + 1) hK' e2.d (by omega) (by omega) (by omega) fun v3 t3 g5 g6 e3 => ?_
    simp only [v_add, toD_d]
    refine draw (n := n + 1) hK' e3.d (by omega) (by omega) (by omega) fun v4 t4 g7 g8 e4 => ?_
    simp only [v_add, toD_d]
    refine ⟨by show 3 ≤ sizeLine; decide, ?_⟩
    have ee := ((e1.trans e2).trans e3).trans e4
    have p5 := ee.at (show a < s.length by omega) w5
    have p4 := ee.at (show a < s3.length by omega) w4
    rw [app_ref p5 (by rw [List.length_map, w1]; exact Nat.lt_of_lt_of_le (show k < 12 by omega) (by decide)) hK' (by simp [D.flat, D.flats])]
    refine ⟨ws ++ [((us[v2.toNat]).1, 1 + v3, 1 + v4)], _, _, _, by simp [w1], fun w hw => ?_, ((w3.dr ee).put (by omega) (by omega) _).mono (by omega), pset p4 (by omega), ?_, rfl⟩
    · rcases List.mem_append.mp hw with q | q
      · exact w2 w q
      · rw [List.mem_singleton.mp q]
        exact ⟨⟨_, List.getElem_mem hv2, rfl⟩, by show 1 ≤ 1 + v3; omega, by show 1 + v3 ≤ 6; omega, by show 1 ≤ 1 + v4; omega, by show 1 + v4 ≤ 6; omega⟩
    · rw [pset_at p5, List.map_append]; rfl
  subst w6
  simp only [ss_nil, ss_cons, s_iff, s_asg, s_setix, s_ret, s_expr, t_p1, t_p2, t_one, t_not, t_and, t_or, e_p1, e_p2, e_var, e_lit, e_lst, e_tup, e_one, e_slc, es_nil, es_cons, o_no, o_yes, List.map_cons, List.map_nil, List.replicate, List.cons_append, List.nil_append, List.getElem?_cons_zero, List.getElem?_cons_succ, to_okR, pre2, true_and, and_true, toD_d, toD_fl, v_pow, v_neg, v_intB, v_intI, Tg.put, List.set_cons_zero, List.set_cons_succ, v_add, v_sub, v_lt, v_le, v_gt, v_ge, v_eq, v_ne, v_mul, test_bl, decide_eq_true_eq, e_fz, frz_d, frz_fl, frz_fd, sl_frz, sl_fl, sl_tup, isInt_v, isBool_v, isTup_v, isStr_v, min2_v, max2_v, t_call, t_lit, t_var, e_pt, e_dt, isTup_p, len_ptup, lst_flP, Bool.not_true, Bool.not_false, Bool.false_eq_true, if_false, if_true, lst_refP w4, lst_refP w5]
  refine ⟨by show 2 ≤ sizeLine; decide, ?_⟩
  have f1 := flats_units us
  have f2 := flats_works ws
  rw [leave_d (flat_under (by simp [D.flat, D.flats, f1, f2])), hb]
  refine h us ws _ uok ⟨by simpa using w1, w2⟩ ((w3.cut ha).mono ?_)
  simp; omega

/-! kinds -/
def kinds : List Str := [Str.ofString "number", Str.ofString "plus", Str.ofString "minus", Str.ofString "times", Str.ofString "less", Str.ofString "pick", Str.ofString "share", Str.ofString "read", Str.ofString "write", Str.ofString "keep", Str.ofString "fetch"]
def kix (kind : Str) : Option Nat := kinds.findIdx? fun w => decide (w = kind)
theorem kinds_plain : D.plains 40 (kinds.map D.str) = true := by decide +kernel
theorem kix_mem {kind : Str} {j : Nat} (h : kix kind = some j) : kind ∈ kinds ∧ j < 11 := by
  obtain ⟨h1, h2, _⟩ := List.findIdx?_eq_some_iff_getElem.mp h
  have : kinds[j] = kind := by simpa using h2
  exact ⟨this ▸ List.getElem_mem h1, h1⟩
theorem kind_ok {kind : Str} {j : Nat} (h : kix kind = some j) : PyData.strOk kind = true := by
  have hm := (kix_mem h).1
  have : ∀ ks : List Str, D.plains 40 (ks.map D.str) = true → kind ∈ ks → D.plain 40 (.str kind) = true := fun ks => by
    induction ks with
    | nil => intro _ h; cases h
    | cons x xs ih =>
      intro h1 h2
      simp only [List.map_cons, D.plains, Bool.and_eq_true] at h1
      rcases List.mem_cons.mp h2 with e | e
      · rw [e]; exact h1.1
      · exact ih h1.2 e
  have := this _ kinds_plain hm
  simpa [D.plain] using this
theorem item_tup {xs : List D} {j : Nat} {d : D} (h : xs[j]? = some d) : atD xs (j : Int) = some d := by
  have hj := (List.getElem?_eq_some_iff.mp h).1
  simp only [atD, ixD, if_pos (Int.natCast_nonneg j), if_pos (show (j : Int) < xs.length by omega), Option.bind_some, Int.toNat_natCast, h]
theorem kt_con {F : Calls} {K : Ct} {σ : Env} {st : St} {P : R → St → Prop} : (denE F tb K (.con 0) σ st).to P ↔ P (.kt (kinds.map D.str)) st := by rw [e_con]; rfl
theorem tindex_k {K : Ct} {st : St} {P : R → St → Prop} {kind : Str} {j : Nat} (h : kix kind = some j) : (ev2 .tindex K (.kt (kinds.map D.str)) (.d (.str kind)) st).to P ↔ P (.d (.int j)) st := by
  simp only [ev2, R.tup?, strs_map, show kinds.findIdx? (fun w => decide (w = kind)) = some j from h]; rfl

/-! work_of -/
def workD (w : Str × Int × Int) : D := .tup [.str w.1, .int w.2.1, .int w.2.2]
theorem worksD_at {ws : List (Str × Int × Int)} {j : Nat} {w : Str × Int × Int} (h : ws[j]? = some w) : atD (ws.map fun w => D.tup [.str w.1, .int w.2.1, .int w.2.2]) (j : Int) = some (workD w) :=
  item_tup (by rw [List.getElem?_map, h]; rfl)
theorem work_of {n : Nat} {K : Ct} {st : St} {us : D} {ws : List (Str × Int × Int)} {rest : List D} {kind : Str} {j : Nat} {w : Str × Int × Int} {P : R → St → Prop} (hj : kix kind = some j) (hw : ws[j]? = some w) (h : P (.d (workD w)) st) :
    (runF tb (n + 1) 0 (K.sub st) [.tup [us, worksD ws], .tup (.str kind :: rest)] st).to P := by
  have hb : (K.sub st).base = st.length := rfl
  generalize K.sub st = K at hb
  rw [run_to (fd := fd0) rfl rfl rfl, leave_to]
  simp only [fd0, ss_nil, ss_cons, s_iff, s_asg, s_setix, s_ret, s_expr, t_p1, t_p2, t_one, t_not, t_and, t_or, e_p1, e_p2, e_var, e_lit, e_lst, e_tup, e_one, e_slc, es_nil, es_cons, o_no, o_yes, List.map_cons, List.map_nil, List.replicate, List.cons_append, List.nil_append, List.getElem?_cons_zero, List.getElem?_cons_succ, to_okR, pre2, true_and, and_true, toD_d, toD_fl, v_pow, v_neg, v_intB, v_intI, Tg.put, List.set_cons_zero, List.set_cons_succ, v_add, v_sub, v_lt, v_le, v_gt, v_ge, v_eq, v_ne, v_mul, test_bl, decide_eq_true_eq, e_fz, frz_d, frz_fl, frz_fd, sl_frz, sl_fl, sl_tup, isInt_v, isBool_v, isTup_v, isStr_v, min2_v, max2_v, t_call, t_lit, t_var, e_pt, e_dt, isTup_p, len_ptup, lst_flP, Bool.not_true, Bool.not_false, Bool.false_eq_true, if_false, if_true, kt_con, ix_tup (show atD (D.str kind :: rest) 0 = some (.str kind) from item_tup (j := 0) rfl), ix_tup (show atD [us, worksD ws] 1 = some (worksD ws) from rfl), tindex_k hj]
  rw [worksD, ix_ptup (worksD_at hw), leave_d (flat_under (by simp [workD, D.flat, D.flats])), hb, cut_len rfl]
  exact h

/-! many_of -/
theorem pairs_units : ∀ us : List (Str × Int), D.pairs (us.map fun u => D.tup [.str u.1, .int u.2]) = some (us.map fun u => (D.str u.1, D.int u.2))
  | [] => rfl
  | u :: us => by simp only [List.map_cons, D.pairs, pairs_units us]; rfl
theorem kvPut_new {kvs : Kvs} {k v : D} (h : ∀ p ∈ kvs, p.1 ≠ k) : kvPut kvs k v = kvs ++ [(k, v)] := by
  have : kvHas kvs k = false := by
    simp only [kvHas, List.any_eq_false, decide_eq_true_eq]
    exact h
  simp only [kvPut, this, Bool.false_eq_true, if_false]
theorem merge_new : ∀ (b a : Kvs), (b.map (·.1)).Nodup → (∀ p ∈ a, ∀ q ∈ b, p.1 ≠ q.1) → kvMerge a b = a ++ b
  | [], a, _, _ => by simp [kvMerge]
  | q :: b, a, nd, h => by
    simp only [List.map_cons, List.nodup_cons] at nd
    have e : kvMerge a (q :: b) = kvMerge (kvPut a q.1 q.2) b := rfl
    rw [e, kvPut_new fun p hp => h p hp q List.mem_cons_self, merge_new b _ nd.2 fun p hp r hr => ?_]
    · simp
    · rcases List.mem_append.mp hp with z | z
      · exact h p z r (List.mem_cons_of_mem _ hr)
      · rw [List.mem_singleton.mp z]
        intro e
        exact nd.1 (List.mem_map.mpr ⟨r, hr, e.symm⟩)
theorem get_units : ∀ {us : List (Str × Int)} {u : Str × Int}, (us.map (·.1)).Nodup → u ∈ us → kvGet (us.map fun u => (D.str u.1, D.int u.2)) (.str u.1) = some (.int u.2)
  | [], _, _, h => by cases h
  | v :: us, u, nd, h => by
    simp only [List.map_cons, List.nodup_cons] at nd
    by_cases e : v.1 = u.1
    · rcases List.mem_cons.mp h with z | z
      · subst z; simp [kvGet]
      · exact absurd (List.mem_map.mpr ⟨u, z, e.symm⟩) nd.1
    · rcases List.mem_cons.mp h with z | z
      · exact absurd (by rw [z]) e
      · have := get_units nd.2 z
        simp only [kvGet, List.map_cons, List.find?_cons] at this ⊢
        have e' : decide (D.str v.1 = D.str u.1) = false := by simpa using e
        rw [e']; exact this
theorem units_nd : ∀ {us : List (Str × Int)}, (us.map (·.1)).Nodup → ((us.map fun u => (D.str u.1, D.int u.2)).map (·.1)).Nodup := fun {us} h => by
  have e : (us.map fun u => (D.str u.1, D.int u.2)).map (·.1) = (us.map (·.1)).map D.str := by simp
  rw [e]
  exact List.Pairwise.map _ (fun a b h => by simpa using h) h
theorem many_of {n : Nat} {K : Ct} {st : St} {us : List (Str × Int)} {ws : D} {u : Str × Int} {P : R → St → Prop} (hu : UnitsOk us) (hm : u ∈ us) (h : P (.d (.int u.2)) st) :
    (runF tb (n + 1) 1 (K.sub st) [.tup [unitsD us, ws], .str u.1] st).to P := by
  have hb : (K.sub st).base = st.length := rfl
  generalize K.sub st = K at hb
  rw [run_to (fd := fd1) rfl rfl rfl, leave_to]
  simp only [fd1, ss_nil, ss_cons, s_iff, s_asg, s_setix, s_ret, s_expr, t_p1, t_p2, t_one, t_not, t_and, t_or, e_p1, e_p2, e_var, e_lit, e_lst, e_tup, e_one, e_slc, es_nil, es_cons, o_no, o_yes, List.map_cons, List.map_nil, List.replicate, List.cons_append, List.nil_append, List.getElem?_cons_zero, List.getElem?_cons_succ, to_okR, pre2, true_and, and_true, toD_d, toD_fl, v_pow, v_neg, v_intB, v_intI, Tg.put, List.set_cons_zero, List.set_cons_succ, v_add, v_sub, v_lt, v_le, v_gt, v_ge, v_eq, v_ne, v_mul, test_bl, decide_eq_true_eq, e_fz, frz_d, frz_fl, frz_fd, sl_frz, sl_fl, sl_tup, isInt_v, isBool_v, isTup_v, isStr_v, min2_v, max2_v, t_call, t_lit, t_var, e_pt, e_dt, isTup_p, len_ptup, lst_flP, Bool.not_true, Bool.not_false, Bool.false_eq_true, if_false, if_true, ix_tup (show atD [unitsD us, ws] 0 = some (unitsD us) from rfl)]
  rw [unitsD, dct_p (pairs_units us), merge_new _ _ (units_nd hu.nd) (by simp)]
  show (ev2 .item K (.fd false (us.map fun u => (D.str u.1, D.int u.2))) (.d (.str u.1)) st).to _
  have e2 : ev2 .item K (.fd false (us.map fun u => (D.str u.1, D.int u.2))) (.d (.str u.1)) st = .ok (.d (.int u.2)) st := by
    simp only [ev2, R.kvs, keyOk, get_units hu.nd hm]; rfl
  rw [e2]
  show (leave K (Fl.rt (.d (.int u.2)) st)).to P
  rw [leave_int, hb, cut_len rfl]
  exact h

/-! whole -/
theorem whole {n : Nat} {K : Ct} {st : St} {i : Int} {P : R → St → Prop} (h : P (.d (.bl true)) st) : (runF tb (n + 1) 8 (K.sub st) [.int i] st).to P := by
  have hb : (K.sub st).base = st.length := rfl
  generalize K.sub st = K at hb
  rw [run_to (fd := fd8) rfl rfl rfl, leave_to]
  simp only [fd8, ss_nil, ss_cons, s_iff, s_asg, s_setix, s_ret, s_expr, t_p1, t_p2, t_one, t_not, t_and, t_or, e_p1, e_p2, e_var, e_lit, e_lst, e_tup, e_one, e_slc, es_nil, es_cons, o_no, o_yes, List.map_cons, List.map_nil, List.replicate, List.cons_append, List.nil_append, List.getElem?_cons_zero, List.getElem?_cons_succ, to_okR, pre2, true_and, and_true, toD_d, toD_fl, v_pow, v_neg, v_intB, v_intI, Tg.put, List.set_cons_zero, List.set_cons_succ, v_add, v_sub, v_lt, v_le, v_gt, v_ge, v_eq, v_ne, v_mul, test_bl, decide_eq_true_eq, e_fz, frz_d, frz_fl, frz_fd, sl_frz, sl_fl, sl_tup, isInt_v, isBool_v, isTup_v, isStr_v, min2_v, max2_v, t_call, t_lit, t_var, e_pt, e_dt, isTup_p, len_ptup, lst_flP, Bool.not_true, Bool.not_false, Bool.false_eq_true, if_false, if_true, e_and, e_not]
  rw [leave_d rfl, hb, cut_len rfl]
  exact h

/-! k09 -/
def DeedsOk (ds : List D) : Prop := ∀ k, k < 11 → ∃ kind rest, ds[k]? = some (.tup (.str kind :: rest)) ∧ kix kind = some k
theorem deeds {n : Nat} {K : Ct} {st : St} {a : Nat} {B : Int} {P : R → St → Prop} (hK : K.lk = []) (hd : DK.p a B st) (hB : B + 10 ≤ 900000000)
    (h : ∀ ds s, DeedsOk ds → Dr DK a (B + 2) st s → P (.fl ds) s) : (runF tb (n + 3) 7 (K.sub st) [.ref a] st).to P := by
  have hK' : (K.sub st).lk = [] := hK
  have hb : (K.sub st).base = st.length := rfl
  generalize K.sub st = K at hK' hb
  have ha := DK.lt hd
  rw [run_to (fd := fd7) rfl rfl rfl, leave_to]
  simp only [fd7, ss_nil, ss_cons, s_iff, s_asg, s_setix, s_ret, s_expr, t_p1, t_p2, t_one, t_not, t_and, t_or, e_p1, e_p2, e_var, e_lit, e_lst, e_tup, e_one, e_slc, es_nil, es_cons, o_no, o_yes, List.map_cons, List.map_nil, List.replicate, List.cons_append, List.nil_append, List.getElem?_cons_zero, List.getElem?_cons_succ, to_okR, pre2, true_and, and_true, toD_d, toD_fl, v_pow, v_neg, v_intB, v_intI, Tg.put, List.set_cons_zero, List.set_cons_succ, v_add, v_sub, v_lt, v_le, v_gt, v_ge, v_eq, v_ne, v_mul, test_bl, decide_eq_true_eq, e_fz, frz_d, frz_fl, frz_fd, sl_frz, sl_fl, sl_tup, isInt_v, isBool_v, isTup_v, isStr_v, min2_v, max2_v, t_call, t_lit, t_var, e_pt, e_dt, isTup_p, len_ptup, lst_flP, Bool.not_true, Bool.not_false, Bool.false_eq_true, if_false, if_true, e_call (f := 4) (fd := fd4) (tb := tb) rfl rfl]
  refine draw (n := n) hK' hd (by omega) (by decide) (by decide) fun v1 s1 g1 g2 d1 => ?_
  refine draw (n := n) hK' d1.d (by omega) (by decide) (by decide) fun v2 s2 g3 g4 d2 => ?_
  simp only [v_sub, toD_d]
  simp only [List.length_cons, List.length_nil]
  refine ⟨by decide, by decide, by decide, by decide, by decide, by decide, by decide, by decide, by decide, by decide, by decide, by decide, by decide, ?_⟩
  rw [cat_lst rfl rfl (by simp only [List.length_cons, List.length_nil]; decide) rfl]
  rw [leave_fl (by simp [D.unders, D.under]), hb]
  have d := d1.trans d2
  rw [cut_len d.len]
  refine h _ _ (fun k hk => ?_) (d.mono (by omega))
  match k, hk with
  | 0, _ => exact ⟨_, _, rfl, by decide +kernel⟩
  | 1, _ => exact ⟨_, _, rfl, by decide +kernel⟩
  | 2, _ => exact ⟨_, _, rfl, by decide +kernel⟩
  | 3, _ => exact ⟨_, _, rfl, by decide +kernel⟩
  | 4, _ => exact ⟨_, _, rfl, by decide +kernel⟩
  | 5, _ => exact ⟨_, _, rfl, by decide +kernel⟩
  | 6, _ => exact ⟨_, _, rfl, by decide +kernel⟩
  | 7, _ => exact ⟨_, _, rfl, by decide +kernel⟩
  | 8, _ => exact ⟨_, _, rfl, by decide +kernel⟩
  | 9, _ => exact ⟨_, _, rfl, by decide +kernel⟩
  | 10, _ => exact ⟨_, _, rfl, by decide +kernel⟩
theorem ne_work {K : Ct} {st : St} {P : R → St → Prop} {w : Str × Int × Int} (h : PyData.strOk w.1 = true) : (ev2 .ne K (.d (workD w)) (.d (workD w)) st).to P ↔ P (.d (.bl false)) st := by
  have e : PyData.eqv (workD w).py (workD w).py = true := by simp [workD, D.py, D.pys, PyData.eqv, PyData.eqvAll]
  simp only [workD] at e ⊢
  simp only [ev2, R.cmp, D.plain, D.plains, h, Bool.and_self, if_true, e]; rfl
theorem right {n : Nat} {K : Ct} {st : St} {us : List (Str × Int)} {ws : List (Str × Int × Int)} {ds : List D} {P : R → St → Prop} (hu : UnitsOk us) (hw : WorksOk us ws) (hds : DeedsOk ds)
    (h : P (.d (.bl true)) st) : (runF tb (n + 2) 9 (K.sub st) [.tup [unitsD us, worksD ws], .frz ds] st).to P := by
  have hb : (K.sub st).base = st.length := rfl
  generalize K.sub st = K at hb
  rw [run_to (fd := fd9) rfl rfl rfl, leave_to]
  simp only [fd9, ss_nil, ss_cons, s_iff, s_asg, s_setix, s_ret, s_expr, t_p1, t_p2, t_one, t_not, t_and, t_or, e_p1, e_p2, e_var, e_lit, e_lst, e_tup, e_one, e_slc, es_nil, es_cons, o_no, o_yes, List.map_cons, List.map_nil, List.replicate, List.cons_append, List.nil_append, List.getElem?_cons_zero, List.getElem?_cons_succ, to_okR, pre2, true_and, and_true, toD_d, toD_fl, v_pow, v_neg, v_intB, v_intI, Tg.put, List.set_cons_zero, List.set_cons_succ, v_add, v_sub, v_lt, v_le, v_gt, v_ge, v_eq, v_ne, v_mul, test_bl, decide_eq_true_eq, e_fz, frz_d, frz_fl, frz_fd, sl_frz, sl_fl, sl_tup, isInt_v, isBool_v, isTup_v, isStr_v, min2_v, max2_v, t_call, t_lit, t_var, e_pt, e_dt, isTup_p, len_ptup, lst_flP, Bool.not_true, Bool.not_false, Bool.false_eq_true, if_false, if_true]
  have i0 : atD [unitsD us, worksD ws] 0 = some (unitsD us) := rfl
  have i1 : atD [unitsD us, worksD ws] 1 = some (worksD ws) := rfl
  refine s_for (fun k σ' s => s = st ∧ ∃ o2 o3 : Option D, σ' = [some (.tup [unitsD us, worksD ws]), some (.frz ds), o2, o3, none, none]) ?_
  simp only [it_range1, ss_nil, ss_cons, s_iff, s_asg, s_setix, s_ret, s_expr, t_p1, t_p2, t_one, t_not, t_and, t_or, e_p1, e_p2, e_var, e_lit, e_lst, e_tup, e_one, e_slc, es_nil, es_cons, o_no, o_yes, List.map_cons, List.map_nil, List.replicate, List.cons_append, List.nil_append, List.getElem?_cons_zero, List.getElem?_cons_succ, to_okR, pre2, true_and, and_true, toD_d, toD_fl, v_pow, v_neg, v_intB, v_intI, Tg.put, List.set_cons_zero, List.set_cons_succ, v_add, v_sub, v_lt, v_le, v_gt, v_ge, v_eq, v_ne, v_mul, test_bl, decide_eq_true_eq, e_fz, frz_d, frz_fl, frz_fd, sl_frz, sl_fl, sl_tup, isInt_v, isBool_v, isTup_v, isStr_v, min2_v, max2_v, t_call, t_lit, t_var, e_pt, e_dt, isTup_p, len_ptup, lst_flP, Bool.not_true, Bool.not_false, Bool.false_eq_true, if_false, if_true]
  refine ⟨⟨by decide, by decide⟩, ⟨none, none, rfl⟩, fun _ _ _ _ _ => rfl, fun k x σ' s hx ⟨q1, o2, o3, q2⟩ => ?_, fun σ' s ⟨q1, o2, o3, q2⟩ => ?_⟩
  · have hk : k < 11 := by have := (List.getElem?_eq_some_iff.mp hx).1; simpa using this
    have ex : x = .int k := by rw [List.getElem?_map, List.getElem?_range (by simpa using hk)] at hx; simpa using hx.symm
    subst ex q1 q2
    obtain ⟨kind, rest, e1, e2⟩ := hds k hk
    have hwk : k < ws.length := by rw [hw.len]; exact hk
    have hwe := hw.of _ (List.getElem_mem hwk)
    obtain ⟨u, hum, hue⟩ := hwe.1
    have hok : PyData.strOk (ws[k]).1 = true := by rw [← hue]; exact (hu.ok u hum).1
    simp only [ss_nil, ss_cons, s_iff, s_asg, s_setix, s_ret, s_expr, t_p1, t_p2, t_one, t_not, t_and, t_or, e_p1, e_p2, e_var, e_lit, e_lst, e_tup, e_one, e_slc, es_nil, es_cons, o_no, o_yes, List.map_cons, List.map_nil, List.replicate, List.cons_append, List.nil_append, List.getElem?_cons_zero, List.getElem?_cons_succ, to_okR, pre2, true_and, and_true, toD_d, toD_fl, v_pow, v_neg, v_intB, v_intI, Tg.put, List.set_cons_zero, List.set_cons_succ, v_add, v_sub, v_lt, v_le, v_gt, v_ge, v_eq, v_ne, v_mul, test_bl, decide_eq_true_eq, e_fz, frz_d, frz_fl, frz_fd, sl_frz, sl_fl, sl_tup, isInt_v, isBool_v, isTup_v, isStr_v, min2_v, max2_v, t_call, t_lit, t_var, e_pt, e_dt, isTup_p, len_ptup, lst_flP, Bool.not_true, Bool.not_false, Bool.false_eq_true, if_false, if_true, e_call (f := 0) (fd := fd0) (tb := tb) rfl rfl, ix_frz (item_tup e1)]
    refine work_of (n := n) e2 (List.getElem?_eq_getElem hwk) ?_
    have ixw : ∀ {Q : R → St → Prop} {s : St}, (ev2 .item K (.d (worksD ws)) (.d (.int k)) s).to Q ↔ Q (.d (workD ws[k])) s := fun {Q s} => by rw [worksD, ix_ptup (worksD_at (List.getElem?_eq_getElem hwk))]
    have isT : ∀ {Q : R → St → Prop} {s : St}, (ev1 .isTup K (.d (workD ws[k])) s).to Q ↔ Q (.d (.bl true)) s := Iff.rfl
    simp only [toD_d, ix_tup i1, ixw, ne_work hok, isT, test_bl, Bool.not_true, Bool.false_eq_true, if_false]
    simp only [workD, ss_nil, ss_cons, s_iff, s_asg, s_setix, s_ret, s_expr, t_p1, t_p2, t_one, t_not, t_and, t_or, e_p1, e_p2, e_var, e_lit, e_lst, e_tup, e_one, e_slc, es_nil, es_cons, o_no, o_yes, List.map_cons, List.map_nil, List.replicate, List.cons_append, List.nil_append, List.getElem?_cons_zero, List.getElem?_cons_succ, to_okR, pre2, true_and, and_true, toD_d, toD_fl, v_pow, v_neg, v_intB, v_intI, Tg.put, List.set_cons_zero, List.set_cons_succ, v_add, v_sub, v_lt, v_le, v_gt, v_ge, v_eq, v_ne, v_mul, test_bl, decide_eq_true_eq, e_fz, frz_d, frz_fl, frz_fd, sl_frz, sl_fl, sl_tup, isInt_v, isBool_v, isTup_v, isStr_v, min2_v, max2_v, t_call, t_lit, t_var, e_pt, e_dt, isTup_p, len_ptup, lst_flP, Bool.not_true, Bool.not_false, Bool.false_eq_true, if_false, if_true, e_call (f := 8) (fd := fd8) (tb := tb) rfl rfl, ix_tup (show atD [D.str (ws[k]).1, .int (ws[k]).2.1, .int (ws[k]).2.2] 0 = some (.str (ws[k]).1) from rfl), ix_tup (show atD [D.str (ws[k]).1, .int (ws[k]).2.1, .int (ws[k]).2.2] 1 = some (.int (ws[k]).2.1) from rfl), ix_tup (show atD [D.str (ws[k]).1, .int (ws[k]).2.1, .int (ws[k]).2.2] 2 = some (.int (ws[k]).2.2) from rfl)]
    refine whole (n := n) ?_
    refine whole (n := n) ?_
    exact ⟨rfl, _, _, rfl⟩
  · subst q1 q2
    refine s_forG (fun k σ' s' => s' = s ∧ ∃ o2 o3 o4 o5 : Option D, σ' = [some (.tup [unitsD us, worksD ws]), some (.frz ds), o2, o3, o4, o5]) ?_
    simp only [it_seq, ss_nil, ss_cons, s_iff, s_asg, s_setix, s_ret, s_expr, t_p1, t_p2, t_one, t_not, t_and, t_or, e_p1, e_p2, e_var, e_lit, e_lst, e_tup, e_one, e_slc, es_nil, es_cons, o_no, o_yes, List.map_cons, List.map_nil, List.replicate, List.cons_append, List.nil_append, List.getElem?_cons_zero, List.getElem?_cons_succ, to_okR, pre2, true_and, and_true, toD_d, toD_fl, v_pow, v_neg, v_intB, v_intI, Tg.put, List.set_cons_zero, List.set_cons_succ, v_add, v_sub, v_lt, v_le, v_gt, v_ge, v_eq, v_ne, v_mul, test_bl, decide_eq_true_eq, e_fz, frz_d, frz_fl, frz_fd, sl_frz, sl_fl, sl_tup, isInt_v, isBool_v, isTup_v, isStr_v, min2_v, max2_v, t_call, t_lit, t_var, e_pt, e_dt, isTup_p, len_ptup, lst_flP, Bool.not_true, Bool.not_false, Bool.false_eq_true, if_false, if_true, ix_tup i0]
    simp only [unitsD, R.items, guardOf]
    refine ⟨⟨_, _, _, _, rfl⟩, fun _ _ _ _ _ => rfl, fun k x σ' s' hx ⟨q1, o2, o3, o4, o5, q2⟩ => ?_, fun σ' s' ⟨q1, o2, o3, o4, o5, q2⟩ => ?_⟩
    · subst q1 q2
      obtain ⟨u, hu1, rfl⟩ : ∃ u, us[k]? = some u ∧ D.tup [.str u.1, .int u.2] = x := by simpa using hx
      refine ⟨_, rfl, ?_⟩
      simp only [setAll, ss_nil, ss_cons, s_iff, s_asg, s_setix, s_ret, s_expr, t_p1, t_p2, t_one, t_not, t_and, t_or, e_p1, e_p2, e_var, e_lit, e_lst, e_tup, e_one, e_slc, es_nil, es_cons, o_no, o_yes, List.map_cons, List.map_nil, List.replicate, List.cons_append, List.nil_append, List.getElem?_cons_zero, List.getElem?_cons_succ, to_okR, pre2, true_and, and_true, toD_d, toD_fl, v_pow, v_neg, v_intB, v_intI, Tg.put, List.set_cons_zero, List.set_cons_succ, v_add, v_sub, v_lt, v_le, v_gt, v_ge, v_eq, v_ne, v_mul, test_bl, decide_eq_true_eq, e_fz, frz_d, frz_fl, frz_fd, sl_frz, sl_fl, sl_tup, isInt_v, isBool_v, isTup_v, isStr_v, min2_v, max2_v, t_call, t_lit, t_var, e_pt, e_dt, isTup_p, len_ptup, lst_flP, Bool.not_true, Bool.not_false, Bool.false_eq_true, if_false, if_true, e_call (f := 1) (fd := fd1) (tb := tb) rfl rfl]
      refine many_of (n := n) (us := us) (ws := worksD ws) hu (List.mem_of_getElem? hu1) ?_
      simp only [ss_nil, ss_cons, s_iff, s_asg, s_setix, s_ret, s_expr, t_p1, t_p2, t_one, t_not, t_and, t_or, e_p1, e_p2, e_var, e_lit, e_lst, e_tup, e_one, e_slc, es_nil, es_cons, o_no, o_yes, List.map_cons, List.map_nil, List.replicate, List.cons_append, List.nil_append, List.getElem?_cons_zero, List.getElem?_cons_succ, to_okR, pre2, true_and, and_true, toD_d, toD_fl, v_pow, v_neg, v_intB, v_intI, Tg.put, List.set_cons_zero, List.set_cons_succ, v_add, v_sub, v_lt, v_le, v_gt, v_ge, v_eq, v_ne, v_mul, test_bl, decide_eq_true_eq, e_fz, frz_d, frz_fl, frz_fd, sl_frz, sl_fl, sl_tup, isInt_v, isBool_v, isTup_v, isStr_v, min2_v, max2_v, t_call, t_lit, t_var, e_pt, e_dt, isTup_p, len_ptup, lst_flP, Bool.not_true, Bool.not_false, Bool.false_eq_true, if_false, if_true, e_call (f := 8) (fd := fd8) (tb := tb) rfl rfl]
      refine whole (n := n) ?_
      try simp only [ss_nil, ss_cons, s_iff, s_asg, s_setix, s_ret, s_expr, t_p1, t_p2, t_one, t_not, t_and, t_or, e_p1, e_p2, e_var, e_lit, e_lst, e_tup, e_one, e_slc, es_nil, es_cons, o_no, o_yes, List.map_cons, List.map_nil, List.replicate, List.cons_append, List.nil_append, List.getElem?_cons_zero, List.getElem?_cons_succ, to_okR, pre2, true_and, and_true, toD_d, toD_fl, v_pow, v_neg, v_intB, v_intI, Tg.put, List.set_cons_zero, List.set_cons_succ, v_add, v_sub, v_lt, v_le, v_gt, v_ge, v_eq, v_ne, v_mul, test_bl, decide_eq_true_eq, e_fz, frz_d, frz_fl, frz_fd, sl_frz, sl_fl, sl_tup, isInt_v, isBool_v, isTup_v, isStr_v, min2_v, max2_v, t_call, t_lit, t_var, e_pt, e_dt, isTup_p, len_ptup, lst_flP, Bool.not_true, Bool.not_false, Bool.false_eq_true, if_false, if_true]
      first | exact ⟨_, _, _, _, rfl⟩ | exact ⟨rfl, _, _, _, _, rfl⟩
    · subst q1 q2
      try simp only [ss_nil, ss_cons, s_iff, s_asg, s_setix, s_ret, s_expr, t_p1, t_p2, t_one, t_not, t_and, t_or, e_p1, e_p2, e_var, e_lit, e_lst, e_tup, e_one, e_slc, es_nil, es_cons, o_no, o_yes, List.map_cons, List.map_nil, List.replicate, List.cons_append, List.nil_append, List.getElem?_cons_zero, List.getElem?_cons_succ, to_okR, pre2, true_and, and_true, toD_d, toD_fl, v_pow, v_neg, v_intB, v_intI, Tg.put, List.set_cons_zero, List.set_cons_succ, v_add, v_sub, v_lt, v_le, v_gt, v_ge, v_eq, v_ne, v_mul, test_bl, decide_eq_true_eq, e_fz, frz_d, frz_fl, frz_fd, sl_frz, sl_fl, sl_tup, isInt_v, isBool_v, isTup_v, isStr_v, min2_v, max2_v, t_call, t_lit, t_var, e_pt, e_dt, isTup_p, len_ptup, lst_flP, Bool.not_true, Bool.not_false, Bool.false_eq_true, if_false, if_true]
      rw [leave_d rfl, hb, cut_len rfl]
      exact h
theorem law_run {n : Nat} {ns : List Int} (hl : ns.length ≤ 63) : (runF tb (n + 6) 10 ⟨0, [], []⟩ [.frz (List.map D.int ns)] []).to fun r _ => r = .d (.bl true) := by
  rw [run_to (fd := fd10) rfl rfl rfl, leave_to]
  simp only [fd10, ss_nil, ss_cons, s_iff, s_asg, s_setix, s_ret, s_expr, t_p1, t_p2, t_one, t_not, t_and, t_or, e_p1, e_p2, e_var, e_lit, e_lst, e_tup, e_one, e_slc, es_nil, es_cons, o_no, o_yes, List.map_cons, List.map_nil, List.replicate, List.cons_append, List.nil_append, List.getElem?_cons_zero, List.getElem?_cons_succ, to_okR, pre2, true_and, and_true, toD_d, toD_fl, v_pow, v_neg, v_intB, v_intI, Tg.put, List.set_cons_zero, List.set_cons_succ, v_add, v_sub, v_lt, v_le, v_gt, v_ge, v_eq, v_ne, v_mul, test_bl, decide_eq_true_eq, e_fz, frz_d, frz_fl, frz_fd, sl_frz, sl_fl, sl_tup, isInt_v, isBool_v, isTup_v, isStr_v, min2_v, max2_v, t_call, t_lit, t_var, e_pt, e_dt, isTup_p, len_ptup, lst_flP, Bool.not_true, Bool.not_false, Bool.false_eq_true, if_false, if_true, e_callL (f := 2) (fd := fd2) (tb := tb) rfl rfl, e_call (f := 6) (fd := fd6) (tb := tb) rfl rfl, e_call (f := 7) (fd := fd7) (tb := tb) rfl rfl]
  refine deck (n := n + 4) hl fun z cs h1 h2 h3 => ?_
  simp only [toD_fl]
  have d0 : DK.p 1 0 [.lst [.ref 0, .int 0, .int z], .lst (List.map D.int cs)] := ⟨0, cs, 0, z, by decide, by simp, rfl, rfl, h1, by decide, by decide, h2, h3⟩
  refine machine (n := n + 1) (B := 0) rfl d0 (by decide) fun us1 ws1 s1 u1 w1 d1 => ?_
  simp only [toD_d]
  refine machine (n := n + 1) (B := 100) rfl (DK.mono d1.d (by decide)) (by decide) fun us2 ws2 s2 u2 w2 d2 => ?_
  simp only [toD_d]
  refine ⟨by show 2 ≤ sizeLine; decide, ?_⟩
  refine s_for (fun k σ' s => DK.p 1 (300 + 2 * k) s ∧ ∃ o3 o4 o5 : Option D, σ' = [some (.frz (List.map D.int ns)), some (.ref 1), some (.frz [.tup [unitsD us1, worksD ws1], .tup [unitsD us2, worksD ws2]]), o3, o4, o5]) ?_
  simp only [it_range1, ss_nil, ss_cons, s_iff, s_asg, s_setix, s_ret, s_expr, t_p1, t_p2, t_one, t_not, t_and, t_or, e_p1, e_p2, e_var, e_lit, e_lst, e_tup, e_one, e_slc, es_nil, es_cons, o_no, o_yes, List.map_cons, List.map_nil, List.replicate, List.cons_append, List.nil_append, List.getElem?_cons_zero, List.getElem?_cons_succ, to_okR, pre2, true_and, and_true, toD_d, toD_fl, v_pow, v_neg, v_intB, v_intI, Tg.put, List.set_cons_zero, List.set_cons_succ, v_add, v_sub, v_lt, v_le, v_gt, v_ge, v_eq, v_ne, v_mul, test_bl, decide_eq_true_eq, e_fz, frz_d, frz_fl, frz_fd, sl_frz, sl_fl, sl_tup, isInt_v, isBool_v, isTup_v, isStr_v, min2_v, max2_v, t_call, t_lit, t_var, e_pt, e_dt, isTup_p, len_ptup, lst_flP, Bool.not_true, Bool.not_false, Bool.false_eq_true, if_false, if_true]
  refine ⟨⟨by decide, by decide⟩, ⟨DK.mono d2.d (by decide), none, none, none, rfl⟩, fun _ _ _ _ _ => rfl, fun k x σ' s hx ⟨q1, o3, o4, o5, q2⟩ => ?_, fun σ' s ⟨q1, o3, o4, o5, q2⟩ => ?_⟩
  · have hk : k < 2 := by have := (List.getElem?_eq_some_iff.mp hx).1; simpa using this
    subst q2
    simp only [ss_nil, ss_cons, s_iff, s_asg, s_setix, s_ret, s_expr, t_p1, t_p2, t_one, t_not, t_and, t_or, e_p1, e_p2, e_var, e_lit, e_lst, e_tup, e_one, e_slc, es_nil, es_cons, o_no, o_yes, List.map_cons, List.map_nil, List.replicate, List.cons_append, List.nil_append, List.getElem?_cons_zero, List.getElem?_cons_succ, to_okR, pre2, true_and, and_true, toD_d, toD_fl, v_pow, v_neg, v_intB, v_intI, Tg.put, List.set_cons_zero, List.set_cons_succ, v_add, v_sub, v_lt, v_le, v_gt, v_ge, v_eq, v_ne, v_mul, test_bl, decide_eq_true_eq, e_fz, frz_d, frz_fl, frz_fd, sl_frz, sl_fl, sl_tup, isInt_v, isBool_v, isTup_v, isStr_v, min2_v, max2_v, t_call, t_lit, t_var, e_pt, e_dt, isTup_p, len_ptup, lst_flP, Bool.not_true, Bool.not_false, Bool.false_eq_true, if_false, if_true, e_call (f := 7) (fd := fd7) (tb := tb) rfl rfl]
    refine deeds (n := n + 2) rfl q1 (by omega) fun ds s3 hds d3 => ?_
    simp only [frz_fl, toD_d]
    refine s_for (fun j σ' s => s = s3 ∧ ∃ o5 : Option D, σ' = [some (.frz (List.map D.int ns)), some (.ref 1), some (.frz [.tup [unitsD us1, worksD ws1], .tup [unitsD us2, worksD ws2]]), some x, some (.frz ds), o5]) ?_
    simp only [it_seq, ss_nil, ss_cons, s_iff, s_asg, s_setix, s_ret, s_expr, t_p1, t_p2, t_one, t_not, t_and, t_or, e_p1, e_p2, e_var, e_lit, e_lst, e_tup, e_one, e_slc, es_nil, es_cons, o_no, o_yes, List.map_cons, List.map_nil, List.replicate, List.cons_append, List.nil_append, List.getElem?_cons_zero, List.getElem?_cons_succ, to_okR, pre2, true_and, and_true, toD_d, toD_fl, v_pow, v_neg, v_intB, v_intI, Tg.put, List.set_cons_zero, List.set_cons_succ, v_add, v_sub, v_lt, v_le, v_gt, v_ge, v_eq, v_ne, v_mul, test_bl, decide_eq_true_eq, e_fz, frz_d, frz_fl, frz_fd, sl_frz, sl_fl, sl_tup, isInt_v, isBool_v, isTup_v, isStr_v, min2_v, max2_v, t_call, t_lit, t_var, e_pt, e_dt, isTup_p, len_ptup, lst_flP, Bool.not_true, Bool.not_false, Bool.false_eq_true, if_false, if_true, R.items, guardOf]
    refine ⟨⟨_, rfl⟩, fun _ _ _ _ _ => rfl, fun j y σ' s hy ⟨p1, o5, p2⟩ => ?_, fun σ' s ⟨p1, o5, p2⟩ => ?_⟩
    · subst p1 p2
      simp only [ss_nil, ss_cons, s_iff, s_asg, s_setix, s_ret, s_expr, t_p1, t_p2, t_one, t_not, t_and, t_or, e_p1, e_p2, e_var, e_lit, e_lst, e_tup, e_one, e_slc, es_nil, es_cons, o_no, o_yes, List.map_cons, List.map_nil, List.replicate, List.cons_append, List.nil_append, List.getElem?_cons_zero, List.getElem?_cons_succ, to_okR, pre2, true_and, and_true, toD_d, toD_fl, v_pow, v_neg, v_intB, v_intI, Tg.put, List.set_cons_zero, List.set_cons_succ, v_add, v_sub, v_lt, v_le, v_gt, v_ge, v_eq, v_ne, v_mul, test_bl, decide_eq_true_eq, e_fz, frz_d, frz_fl, frz_fd, sl_frz, sl_fl, sl_tup, isInt_v, isBool_v, isTup_v, isStr_v, min2_v, max2_v, t_call, t_lit, t_var, e_pt, e_dt, isTup_p, len_ptup, lst_flP, Bool.not_true, Bool.not_false, Bool.false_eq_true, if_false, if_true, e_call (f := 9) (fd := fd9) (tb := tb) rfl rfl]
      have hm := List.mem_of_getElem? hy
      simp only [List.mem_cons, List.not_mem_nil, or_false] at hm
      rcases hm with rfl | rfl
      · refine right (n := n + 3) u1 w1 hds ?_
        try simp only [ss_nil, ss_cons, s_iff, s_asg, s_setix, s_ret, s_expr, t_p1, t_p2, t_one, t_not, t_and, t_or, e_p1, e_p2, e_var, e_lit, e_lst, e_tup, e_one, e_slc, es_nil, es_cons, o_no, o_yes, List.map_cons, List.map_nil, List.replicate, List.cons_append, List.nil_append, List.getElem?_cons_zero, List.getElem?_cons_succ, to_okR, pre2, true_and, and_true, toD_d, toD_fl, v_pow, v_neg, v_intB, v_intI, Tg.put, List.set_cons_zero, List.set_cons_succ, v_add, v_sub, v_lt, v_le, v_gt, v_ge, v_eq, v_ne, v_mul, test_bl, decide_eq_true_eq, e_fz, frz_d, frz_fl, frz_fd, sl_frz, sl_fl, sl_tup, isInt_v, isBool_v, isTup_v, isStr_v, min2_v, max2_v, t_call, t_lit, t_var, e_pt, e_dt, isTup_p, len_ptup, lst_flP, Bool.not_true, Bool.not_false, Bool.false_eq_true, if_false, if_true]
        first | exact ⟨_, rfl⟩ | exact ⟨rfl, _, rfl⟩
      · refine right (n := n + 3) u2 w2 hds ?_
        try simp only [ss_nil, ss_cons, s_iff, s_asg, s_setix, s_ret, s_expr, t_p1, t_p2, t_one, t_not, t_and, t_or, e_p1, e_p2, e_var, e_lit, e_lst, e_tup, e_one, e_slc, es_nil, es_cons, o_no, o_yes, List.map_cons, List.map_nil, List.replicate, List.cons_append, List.nil_append, List.getElem?_cons_zero, List.getElem?_cons_succ, to_okR, pre2, true_and, and_true, toD_d, toD_fl, v_pow, v_neg, v_intB, v_intI, Tg.put, List.set_cons_zero, List.set_cons_succ, v_add, v_sub, v_lt, v_le, v_gt, v_ge, v_eq, v_ne, v_mul, test_bl, decide_eq_true_eq, e_fz, frz_d, frz_fl, frz_fd, sl_frz, sl_fl, sl_tup, isInt_v, isBool_v, isTup_v, isStr_v, min2_v, max2_v, t_call, t_lit, t_var, e_pt, e_dt, isTup_p, len_ptup, lst_flP, Bool.not_true, Bool.not_false, Bool.false_eq_true, if_false, if_true]
        first | exact ⟨_, rfl⟩ | exact ⟨rfl, _, rfl⟩
    · subst p1 p2
      exact ⟨DK.mono d3.d (by omega), _, _, _, rfl⟩
  · rw [leave_d rfl]
abbrev depth := 60
theorem run : ∀ ns : List Int, ns.length ≤ 63 → (∀ z ∈ ns, Builtin.Int.intBits z ≤ 1048576) → ∃ st, runF tb (depth + 1) 10 ⟨0, [], []⟩ [.frz (ns.map D.int)] [] = .ok (.d (.bl true)) st := fun ns hl _ => by
  have := law_run (n := 55) (ns := ns) hl
  revert this
  cases runF tb (55 + 6) 10 ⟨0, [], []⟩ [.frz (ns.map D.int)] [] with
  | ok r st => intro h; exact ⟨st, by cases h; rfl⟩
  | err _ _ => intro h; exact h.elim
  | bad => intro h; exact h.elim

end K09
end L3
open PySem PySem.W PyProof.Rows
set_option maxRecDepth 100000 in
set_option maxHeartbeats 0 in
theorem PySem.Challenge.cw_widerows_k09_units_and_works_holds : PySem.Challenge.rw_widerows_k09_units_and_works.Holds := by
  w_on; o_law; k_head; (case hw => w_witness2)
  k_fill
  refine L3.law_end (l := PySem.Challenge.rw_widerows_k09_units_and_works) (G := L3.K09.G) (tb := L3.K09.tb) (f := 10) (k := L3.K09.depth) (nm := Str.ofString "law") (N := L3.K09.N10) (stm := L3.K09.top 13) (x := Str.ofString "_law_script") rfl rfl ⟨rfl, by decide, by decide⟩ (fun w h Y => PySem.W.kIn_of Y) rfl rfl rfl rfl L3.K09.sc10 L3.K09.ck10 rfl (fun _ _ _ _ _ _ us hl => match us, hl with | [_], _ => rfl) ?FL ?F L3.K09.run
  case FL => intro w; refine' L3.facts_mk ?aL ?lL ?cL ?kL; (case aL => k_is); (case lL => k_is); (case cL => k_is); (case kL => k_is)
  case F =>
    intro w mg h X g
    refine ⟨L3.K09.defs X g ?f0 ?f1 ?f2 ?f3 ?f4 ?f5 ?f6 ?f7 ?f8 ?f9 ?f10, L3.K09.cons X g ?e0, L3.K09.blts X g ?z0 ?z1 ?z2 ?z3 ?z4 ?z5 ?z6 ?z7 ?z8 ?z9⟩
    case f0 => refine' L3.facts_mk ?a ?l ?c ?k; (case a => k_is); (case l => k_is); (case c => k_is); (case k => k_is)
    case f1 => refine' L3.facts_mk ?a ?l ?c ?k; (case a => k_is); (case l => k_is); (case c => k_is); (case k => k_is)
    case f2 => refine' L3.facts_mk ?a ?l ?c ?k; (case a => k_is); (case l => k_is); (case c => k_is); (case k => k_is)
    case f3 => refine' L3.facts_mk ?a ?l ?c ?k; (case a => k_is); (case l => k_is); (case c => k_is); (case k => k_is)
    case f4 => refine' L3.facts_mk ?a ?l ?c ?k; (case a => k_is); (case l => k_is); (case c => k_is); (case k => k_is)
    case f5 => refine' L3.facts_mk ?a ?l ?c ?k; (case a => k_is); (case l => k_is); (case c => k_is); (case k => k_is)
    case f6 => refine' L3.facts_mk ?a ?l ?c ?k; (case a => k_is); (case l => k_is); (case c => k_is); (case k => k_is)
    case f7 => refine' L3.facts_mk ?a ?l ?c ?k; (case a => k_is); (case l => k_is); (case c => k_is); (case k => k_is)
    case f8 => refine' L3.facts_mk ?a ?l ?c ?k; (case a => k_is); (case l => k_is); (case c => k_is); (case k => k_is)
    case f9 => refine' L3.facts_mk ?a ?l ?c ?k; (case a => k_is); (case l => k_is); (case c => k_is); (case k => k_is)
    case f10 => refine' L3.facts_mk ?a ?l ?c ?k; (case a => k_is); (case l => k_is); (case c => k_is); (case k => k_is)
    case e0 => refine' L3.strtup_mk ?a ?l ?r; (case a => k_is); (case l => k_is); (case r => refine ⟨rfl, _, _, rfl, rfl, by decide, ?_⟩; repeat (first | exact .nil | refine .cons ⟨_, rfl⟩ ?_))
    case z0 => k_is
    case z1 => k_is
    case z2 => k_is
    case z3 => k_is
    case z4 => k_is
    case z5 => k_is
    case z6 => k_is
    case z7 => k_is
    case z8 => k_is
    case z9 => k_is
