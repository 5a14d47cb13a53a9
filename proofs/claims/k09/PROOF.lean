import PyProof.Rows.All
import Wide.All
import OpenK.AllK
import Wide.FinOn
import PyProof.ReprRoads
import HandS.ForExc
import HandS.Deep
import HandS.Comp
import HandS.Iter
import HandS.Text
import HandS.TupAny
import HandS.TupMul
import HandS.TupLe
import HandS.IsInst
import HandS.WrittenGet
import HandS.Dict
import HandS.More
import HandS.Codes
import HandS.SortInts
import HandS.CallLocal
import HandS.TryMany
import HandS.ExcIs
import HandS.Conv
import KE.GoesMore
import HandS.Walk
import HandS.ExcOwn
import HandS.HeadEnd
import HandS.SetBool
import HandS.TupSets
import HandS.Defaults
import HandS.HeadHook4
import PyProof.ExcBaseAll.ValueError
import PyProof.ReprBulk
import KE.KStateDown
import Lean
import HandS.Head0
import HandS.Head1
import HandS.Head2
import PySem.Challenge.RW_henceforth_k09_stages_of_principles_in_f
set_option Elab.async false
set_option linter.all false
section
/-! HfBase: tree values, a small syntax, its evaluator. Plain Lean; of the library only the text of repr. -/
namespace Hf

/-- values: what never changes is a tree; what may change stands in the store -/
inductive T where
  | non
  | bl (b : Bool)
  | int (i : Int)
  | str (s : List Nat)
  | tup (xs : List T)
  | lst (xs : List T)
  | dic (kvs : List (T × T))
  | ref (n : Nat)
  | fn (f : Nat)
  | ins (c : Nat) (fs : List (Nat × T))
  deriving Inhabited

inductive Cell where
  | lst (xs : List T)
  deriving Inhabited
abbrev Store := List Cell

/-- a name's state in a frame -/
inductive Slot where
  | no
  | val (t : T)
  | own (xs : List T)
  | inst (c : Nat) (fs : List (Nat × T))
  | exc (c : Nat)
  deriving Inhabited
abbrev Env := List Slot

inductive Res (α : Type) where
  | ok (a : α) (S : Store)
  | exn (c : Nat) (S : Store)
  | bad
  deriving Inhabited
@[inline] def Res.bind {α β : Type} (r : Res α) (k : α → Store → Res β) : Res β := match r with
  | .ok a S => k a S
  | .exn c S => .exn c S
  | .bad => .bad

inductive SRes where
  | nx (r : Env) (S : Store)
  | ret (t : T) (S : Store)
  | brk (r : Env) (S : Store)
  | cnt (r : Env) (S : Store)
  | exn (c : Nat) (r : Env) (S : Store)
  | bad
  deriving Inhabited
@[inline] def Res.toS {α : Type} (x : Res α) (r : Env) (k : α → Store → SRes) : SRes := match x with
  | .ok a S => k a S
  | .exn c S => .exn c r S
  | .bad => .bad

def noExc : Env → Bool
  | [] => true
  | .exc _ :: _ => false
  | _ :: r => noExc r
def noInst : Env → Bool
  | [] => true
  | .inst _ _ :: _ => false
  | _ :: r => noInst r
/-- a name forgotten behind an except suite; nothing is raised in it -/
def SRes.drop (i : Nat) : SRes → SRes
  | .nx r S => if noExc (r.set i .no) = true then .nx (r.set i .no) S else .bad
  | .brk r S => if noExc (r.set i .no) = true then .brk (r.set i .no) S else .bad
  | .cnt r S => if noExc (r.set i .no) = true then .cnt (r.set i .no) S else .bad
  | .exn _ _ _ => .bad
  | x => x
def SRes.hot : SRes → SRes
  | .nx r S => if noExc r = true then .nx r S else .bad
  | .brk r S => if noExc r = true then .brk r S else .bad
  | .cnt r S => if noExc r = true then .cnt r S else .bad
  | .exn _ _ _ => .bad
  | x => x

/-! ### syntax -/
inductive Op2 where | add | sub | mul | mod | fdiv
inductive Cmp where | eq | ne | lt | le | gt | ge | isin | notin
inductive Ty where | int | str | tup | lst | bool
inductive Bi where | len | abs | int | all | any | sum | max | max2 | min2 | repr
inductive Tg where | n (i : Nat) | t (is : List Nat)

inductive E where
  | k (t : T)
  | v (i : Nat)
  | g (x : List Nat) (t : T)
  | f (x : List Nat) (f : Nat)
  | tup (es : List E)
  | disp (es : List E)
  | comp (elt : E) (tg : Tg) (it : E)
  | compI (elt : E) (tg : Tg) (it : E) (c : E)
  | comp2 (elt : E) (tg : Tg) (it : E) (tg2 : Tg) (it2 : E)
  | lof (e : E)
  | lrng (e : E)
  | trng (e : E)
  | tof (e : E)
  | sorted (e : E)
  | sub (a i : E)
  | slice (a lo hi : E)
  | sliceL (a lo : E)
  | sliceR (a hi : E)
  | op (o : Op2) (a b : E)
  | cat (a b : E)
  | rep (a b : E)
  | neg (a : E)
  | cmp (c : Cmp) (a b : E)
  | chain (c d : Cmp) (a b e : E)
  | isK (neg : Bool) (a : E) (t : T)
  | and (a b : E)
  | or (a b : E)
  | not (a : E)
  | ife (c a b : E)
  | call (f : Nat) (es : List E)
  | callV (e : E) (es : List E)
  | meth (m : Nat) (e : E) (es : List E)
  | mk (c : Nat) (es : List E)
  | attr (e : E) (a : Nat)
  | bi (b : Bi) (es : List E)
  | isi (e : E) (ty : Ty)
  | isi2 (e : E) (ty ty2 : Ty)
  | isx (i : Nat) (c : Nat)
  | cell (e : E)
  | join (e : E)
  | index (a b : E)
  | setlen (elt : E) (tg : Tg) (it : E)
  | dict (ks : List T) (es : List E)
  | rng (e : E)
  | rng2 (a b : E)
  | enum (e : E)
  deriving Inhabited

inductive S where
  | asg (tg : Tg) (e : E)
  | own (i : Nat) (e : E)
  | push (i : Nat) (e : E)
  | ext (i : Nat) (e : E)
  | seti (i : Nat) (k e : E)
  | setc (a k e : E)
  | pushc (a e : E)
  | attr (i : Nat) (a : Nat) (e : E)
  | ex (e : E)
  | ret (e : E)
  | retN
  | ife (c : E) (a b : List S)
  | loop (tg : Tg) (it : E) (b : List S)
  | raise (c : Nat)
  | tryx (b : List S) (c : Nat) (h : List S)
  | tryn (b : List S) (c : Nat) (i : Nat) (h : List S)
  | tryn2 (b : List S) (c : Nat) (h : List S) (c2 : Nat) (h2 : List S) (i : Nat)
  | frz (i : Nat)
  | brk
  | cont
  | pass
  deriving Inhabited

structure FDef where
  np : Nat
  ns : Nat
  body : List S
  deriving Inhabited
/-- a program: its defs, the methods of its classes, the defs that make instances, the exceptions' order -/
structure Prog where
  defs : Nat → Option FDef
  meth : Nat → Nat → Option Nat
  init : Nat → Option FDef
  sub : Nat → Nat → Bool

/-! ### operations -/
mutual
def T.depth : T → Nat
  | .tup xs => T.depthAll xs + 1
  | .lst xs => T.depthAll xs + 1
  | _ => 0
def T.depthAll : List T → Nat
  | [] => 0
  | x :: xs => max (T.depth x) (T.depthAll xs)
end
/- data: what == may be asked of -/
mutual
def T.data : T → Bool
  | .non => true
  | .bl _ => true
  | .int _ => true
  | .str _ => true
  | .tup xs => T.dataAll xs
  | .lst xs => T.dataAll xs
  | _ => false
def T.dataAll : List T → Bool
  | [] => true
  | x :: xs => T.data x && T.dataAll xs
end
def b2i (b : Bool) : Int := if b then 1 else 0
mutual
def T.eqv : T → T → Bool
  | .non, .non => true
  | .bl a, .bl b => a == b
  | .bl a, .int j => b2i a == j
  | .int i, .bl b => i == b2i b
  | .int i, .int j => i == j
  | .str x, .str y => x == y
  | .lst xs, .lst ys => T.eqvAll xs ys
  | .tup xs, .tup ys => T.eqvAll xs ys
  | _, _ => false
def T.eqvAll : List T → List T → Bool
  | [], [] => true
  | x :: xs, y :: ys => T.eqv x y && T.eqvAll xs ys
  | _, _ => false
end
def eqLine : Nat := 60
/-- == -/
def T.eqs (a b : T) : Option Bool := if (a.data && b.data && decide (min a.depth b.depth ≤ eqLine)) = true then some (T.eqv a b) else none

def sizeLim : Nat := 16777216
/-- place i of n items, i of any sign -/
def ixN (n : Nat) (i : Int) : Option Nat := if 0 ≤ i then (if i < n then some i.toNat else none) else if -(n : Int) ≤ i then some (i + n).toNat else none
def atI {α : Type} (xs : List α) (i : Int) : Option α := (ixN xs.length i).bind fun j => xs[j]?
/-- a slice's end -/
def sIx (n : Nat) (d : Nat) (o : Option Int) : Nat := match o with
  | none => d
  | some v => if v < 0 then (v + (n : Int)).toNat else min v.toNat n
def cutL {α : Type} (xs : List α) (lo hi : Option Int) : List α := (xs.drop (sIx xs.length 0 lo)).take (sIx xs.length xs.length hi - sIx xs.length 0 lo)

def Op2.ev : Op2 → T → T → Option T
  | .add, .int i, .int j => some (.int (i + j))
  | .add, .str x, .str y => if x.length + y.length ≤ sizeLim then some (.str (x ++ y)) else none
  | .add, .tup xs, .tup ys => if xs.length + ys.length ≤ sizeLim then some (.tup (xs ++ ys)) else none
  | .sub, .int i, .int j => some (.int (i - j))
  | .mul, .int i, .int j => if -(2 ^ 64) < j ∧ j < 2 ^ 64 ∨ -(2 ^ 64) < i ∧ i < 2 ^ 64 then some (.int (i * j)) else none
  | .mul, .tup xs, .int k => if xs ≠ [] ∧ 2 ≤ k ∧ k ≤ 1000 ∧ xs.length ≤ 1000 then some (.tup (List.replicate k.toNat xs).flatten) else none
  | .mod, .int i, .int j => if 0 < j then some (.int (i % j)) else none
  | .fdiv, .int i, .int j => if 0 < j ∧ j < 1073741824 then some (.int (i / j)) else none
  | _, _, _ => none

/-- are all items of one list equal to none .. -/
def inItems (x : T) (xs : List T) : Option Bool := if (x.data && T.dataAll xs && decide (min (T.depthAll xs) x.depth ≤ eqLine)) = true then some (xs.any fun y => T.eqv y x) else none
/-- s in t, of texts -/
def infixOf (x : List Nat) : List Nat → Bool
  | [] => x.isEmpty
  | c :: r => x.isPrefixOf (c :: r) || infixOf x r
def dlook (kvs : List (T × T)) (k : List Nat) : Option T := match kvs with
  | [] => none
  | (.str x, v) :: r => if x = k then some v else dlook r k
  | _ :: r => dlook r k
def T.isin (x y : T) : Option Bool := match y with
  | .lst xs => inItems x xs
  | .tup xs => inItems x xs
  | .str t => (match x with
    | .str s => (match s with
      | [c] => some (t.contains c)
      | _ => none)
    | _ => none)
  | .dic kvs => (match x with
    | .str s => some (dlook kvs s).isSome
    | _ => none)
  | _ => none
def lexLt : List Nat → List Nat → Bool
  | [], [] => false
  | [], _ :: _ => true
  | _ :: _, [] => false
  | a :: r, b :: s => if a < b then true else if a = b then lexLt r s else false
def Cmp.ev : Cmp → T → T → Option Bool
  | .eq, a, b => T.eqs a b
  | .ne, a, b => (T.eqs a b).map (!·)
  | .lt, .int i, .int j => some (decide (i < j))
  | .le, .int i, .int j => some (decide (i ≤ j))
  | .gt, .int i, .int j => some (decide (j < i))
  | .ge, .int i, .int j => some (decide (j ≤ i))
  | .le, .str x, .str y => some (!lexLt y x)
  | .isin, a, b => T.isin a b
  | .notin, a, b => (T.isin a b).map (!·)
  | _, _, _ => none

def T.isK (x k : T) : Option Bool := match k with
  | .non => some (match x with
    | .non => true
    | _ => false)
  | .bl b => some (match x with
    | .bl c => b == c
    | _ => false)
  | _ => none

def Ty.ev : Ty → T → Option Bool
  | .int, .int _ => some true
  | .int, .bl _ => some true
  | .bool, .bl _ => some true
  | .str, .str _ => some true
  | .tup, .tup _ => some true
  | .lst, .lst _ => some true
  | _, .fn _ => none
  | _, .ins _ _ => none
  | _, .dic _ => none
  | _, .ref _ => none
  | _, _ => some false

def boolsOf : List T → Option (List Bool)
  | [] => some []
  | .bl b :: r => (boolsOf r).map (b :: ·)
  | _ => none
def intsOf : List T → Option (List Int)
  | [] => some []
  | .int i :: r => (intsOf r).map (i :: ·)
  | _ => none
/-! trees as data -/
mutual
def T.py : T → PySem.PyData
  | .non => .none
  | .bl b => .bool b
  | .int i => .int i
  | .str s => .str ⟨s.toArray⟩
  | .tup xs => .tuple (T.pys xs)
  | .lst xs => .list (T.pys xs)
  | _ => .none
def T.pys : List T → List PySem.PyData
  | [] => []
  | x :: xs => T.py x :: T.pys xs
end
def T.seq : T → Bool
  | .tup _ => true
  | .lst _ => true
  | _ => false
/-- the text of repr -/
def T.show (x : T) : List Nat := x.py.shown.cps.toList
def T.showable (x : T) : Bool := x.seq && x.data && x.py.showable && decide (x.depth ≤ eqLine) && decide (x.show.length ≤ sizeLim) && x.show.all fun c => decide (c < 0x110000)

def Bi.ev : Bi → List T → Option T
  | .len, [.str s] => some (.int s.length)
  | .len, [.tup xs] => some (.int xs.length)
  | .len, [.lst xs] => some (.int xs.length)
  | .abs, [.int i] => some (.int (if i < 0 then -i else i))
  | .int, [.int i] => some (.int i)
  | .int, [.bl b] => some (.int (b2i b))
  | .all, [.lst xs] => (boolsOf xs).map fun bs => .bl (bs.all id)
  | .any, [.lst xs] => (boolsOf xs).map fun bs => .bl (bs.any id)
  | .sum, [.lst xs] => (intsOf xs).map fun is => .int is.sum
  | .max, [.lst xs] => (intsOf xs).bind fun is => is.max?.map .int
  | .max2, [.int i, .int j] => some (.int (if j > i then j else i))
  | .min2, [.int i, .int j] => some (.int (if j < i then j else i))
  | .repr, [x] => if x.showable = true then some (.str x.show) else none
  | _, _ => none

/-- the store's own words -/
def look (S : Store) : T → T
  | .ref n => (match S[n]? with
    | some (.lst xs) => .lst xs
    | none => .ref n)
  | t => t
/-- items that a for walks -/
def T.items : T → Option (List T)
  | .lst xs => some xs
  | .tup xs => some xs
  | .str s => some (s.map fun c => .str [c])
  | _ => none
def T.subI (x i : T) : Option T := match x, i with
  | .lst xs, .int i => atI xs i
  | .tup xs, .int i => atI xs i
  | .str s, .int i => (atI s i).map fun c => .str [c]
  | .dic kvs, .str k => dlook kvs k
  | _, _ => none
def T.cut (x : T) (lo hi : Option Int) : Option T := match x with
  | .lst xs => some (.lst (cutL xs lo hi))
  | .tup xs => some (.tup (cutL xs lo hi))
  | .str s => some (.str (cutL s lo hi))
  | _ => none
def T.attr (x : T) (a : Nat) : Option T := match x with
  | .ins _ fs => fs.lookup a
  | _ => none
def idxOf (x : T) : List T → Nat → Option Nat
  | [], _ => none
  | y :: r, n => if T.eqv y x = true then some n else idxOf x r (n + 1)
def T.index (x y : T) : Option T := match x with
  | .lst xs => if (y.data && T.dataAll xs && decide (T.depthAll xs < eqLine) && decide (y.depth ≤ eqLine)) = true then (idxOf y xs 0).map fun (n : Nat) => T.int (n : Int) else none
  | _ => none
def joined : List T → Option (List Nat)
  | [] => some []
  | .str s :: r => (joined r).map (s ++ ·)
  | _ => none
def rangeL (lo hi : Int) : List T := (List.range (hi - lo).toNat).map fun (k : Nat) => T.int (lo + (k : Int))
def enumL : Nat → List T → List T
  | _, [] => []
  | n, x :: r => .tup [.int n, x] :: enumL (n + 1) r
/-- ascending insertion of intsOf, and sorting by it -/
def insI (i : Int) : List Int → List Int
  | [] => [i]
  | j :: r => if i ≤ j then i :: j :: r else j :: insI i r
def sortI (is : List Int) : List Int := is.foldr insI []
def T.sorted (x : T) : Option T := match x with
  | .lst xs => (intsOf xs).map fun is => .lst ((sortI is).map .int)
  | _ => none
/-- a few tuples of integers -/
def rowI? : T → Option (List Int)
  | .tup xs => intsOf xs
  | _ => none
def rowsI (xs : List T) : Bool := decide (xs.length ≤ 60) && xs.all fun x => (rowI? x).isSome
/-- how many unlike items -/
def unlike : List T → Nat
  | [] => 0
  | x :: r => (if r.any (fun y => T.eqv y x) then 0 else 1) + unlike r

@[inline] def Res.of {α : Type} (o : Option α) (S : Store) : Res α := match o with
  | some a => .ok a S
  | none => .bad

/-- the reading of a part that is looked at only: an own list as it stands -/
def view (r : Env) (e : E) (S : Store) (x : Res T) : Res T := match e with
  | .v i => (match r[i]? with
    | some (.own xs) => .ok (.lst xs) S
    | some (.inst c fs) => .ok (.ins c fs) S
    | some (.val t) => .ok t S
    | _ => .bad)
  | _ => x
mutual
def T.beq : T → T → Bool
  | .non, .non => true
  | .bl a, .bl b => a == b
  | .int i, .int j => i == j
  | .str x, .str y => x == y
  | .lst xs, .lst ys => T.beqAll xs ys
  | .tup xs, .tup ys => T.beqAll xs ys
  | .ref n, .ref m => n == m
  | .fn n, .fn m => n == m
  | .dic xs, .dic ys => T.beqKs xs ys
  | _, _ => false
def T.beqAll : List T → List T → Bool
  | [], [] => true
  | x :: xs, y :: ys => T.beq x y && T.beqAll xs ys
  | _, _ => false
def T.beqKs : List (T × T) → List (T × T) → Bool
  | [], [] => true
  | (k, x) :: xs, (l, y) :: ys => T.beq k l && T.beq x y && T.beqKs xs ys
  | _, _ => false
end
/-- what is walked still stands as it stood -/
def still (c : T) (xs : List T) (S : Store) : Bool := match c with
  | .ref n => (match S[n]? with
    | some (.lst ys) => T.beqAll xs ys
    | none => false)
  | _ => true

def bindTs : List Nat → List T → Env → Option Env
  | [], [], r => some r
  | i :: is, x :: xs, r => bindTs is xs (r.set i (.val x))
  | _, _, _ => none
def Tg.slots : Tg → List Nat
  | .n i => [i]
  | .t is => is
/-- slots forgotten -/
def wipeE (r : Env) : List Nat → Env
  | [] => r
  | v :: vs => (wipeE r vs).set v .no
def bindT (tg : Tg) (x : T) (r : Env) : Option Env := match tg with
  | .n i => some (r.set i (.val x))
  | .t is => (match x with
    | .tup xs => bindTs is xs r
    | _ => none)

/-- the loop of a comprehension: f gives an item, or none where its test falls -/
def compLoop (g : Store → Bool) (f : T → Store → Res (Option T)) : List T → Store → Res (List T)
  | [], S => .ok [] S
  | x :: r, S => (match f x S with
    | .ok o S' => if g S' = true then (compLoop g f r S').bind fun ys S'' => .ok (match o with
      | some y => y :: ys
      | none => ys) S'' else .bad
    | _ => .bad)
def compLoop2 (g : Store → Bool) (f : T → Store → Res (List T)) : List T → Store → Res (List T)
  | [], S => .ok [] S
  | x :: r, S => (match f x S with
    | .ok zs S' => if g S' = true then (compLoop2 g f r S').bind fun ys S'' => .ok (zs ++ ys) S'' else .bad
    | _ => .bad)
def forLoop (g : Store → Bool) (f : T → Env → Store → SRes) : List T → Env → Store → SRes
  | [], r, S => .nx r S
  | x :: l, r, S => (match f x r S with
    | .nx r' S' => if g S' = true then forLoop g f l r' S' else .bad
    | .cnt r' S' => if g S' = true then forLoop g f l r' S' else .bad
    | .brk r' S' => .nx r' S'
    | .ret t S' => .ret t S'
    | .exn c r' S' => .exn c r' S'
    | .bad => .bad)

/-- what is walked, and its items -/
def itM (x : Res T) : Res (T × List T) := x.bind fun c S => match (look S c).items with
  | some xs => .ok (c, xs) S
  | none => .bad
def toB0 (x : Res T) : Res Bool := x.bind fun t S => match t with
  | .bl b => .ok b S
  | _ => .bad
/-! ### the evaluator -/
section
variable (P : Prog) (cf : Nat → List T → Store → Res T) (mk : Nat → List T → Store → Res T)
def asB (t : T) (S : Store) (k : Bool → Store → Res T) : Res T := match t with
  | .bl b => k b S
  | _ => .bad
def asI (t : T) (S : Store) (k : Int → Store → Res T) : Res T := match t with
  | .int i => k i S
  | _ => .bad
mutual
def ev (r : Env) : E → Store → Res T
  | .k t, S => .ok t S
  | .v i, S => (match r[i]? with
    | some (.val t) => .ok t S
    | _ => .bad)
  | .g _ t, S => .ok t S
  | .f _ f, S => .ok (.fn f) S
  | .tup es, S => (evs r es S).bind fun xs S => .ok (.tup xs) S
  | .disp es, S => (evs r es S).bind fun xs S => .ok (.lst xs) S
  | .comp elt tg it, S => (itM (view r it S (ev r it S))).bind fun p S => (compLoop (still p.1 p.2) (fun x S => match bindT tg x (wipeE r tg.slots) with
      | some r' => (ev r' elt S).bind fun y S => .ok (some y) S
      | none => .bad) p.2 S).bind fun ys S => .ok (.lst ys) S
  | .compI elt tg it t, S => (itM (view r it S (ev r it S))).bind fun p S => (compLoop (still p.1 p.2) (fun x S => match bindT tg x (wipeE r tg.slots) with
      | some r' => (toB0 (ev r' t S)).bind fun b S => if b = true then (ev r' elt S).bind fun y S => .ok (some y) S else .ok none S
      | none => .bad) p.2 S).bind fun ys S => .ok (.lst ys) S
  | .comp2 elt tg it tg2 it2, S => (itM (view r it S (ev r it S))).bind fun p S => if p.2.length ≤ 2048 then (compLoop2 (still p.1 p.2) (fun x S => match bindT tg x (wipeE r (tg.slots ++ tg2.slots)) with
      | some r' => (itM (view r' it2 S (ev r' it2 S))).bind fun p2 S => if p2.2.length ≤ 2048 then compLoop (still p2.1 p2.2) (fun x2 S => match bindT tg2 x2 (wipeE r' tg2.slots) with
          | some r'' => (ev r'' elt S).bind fun y S => .ok (some y) S
          | none => .bad) p2.2 S else .bad
      | none => .bad) p.2 S).bind fun ys S => .ok (.lst ys) S else .bad
  | .lof e, S => (view r e S (ev r e S)).bind fun c S => (match look S c with
    | .lst xs => .ok (.lst xs) S
    | .tup xs => .ok (.lst xs) S
    | _ => .bad)
  | .tof e, S => (view r e S (ev r e S)).bind fun c S => (match look S c with
    | .lst xs => .ok (.tup xs) S
    | .tup xs => .ok (.tup xs) S
    | _ => .bad)
  | .lrng e, S => (ev r e S).bind fun x S => asI x S fun i S => if i ≤ 16777216 ∧ -16777216 ≤ i then .ok (.lst (rangeL 0 i)) S else .bad
  | .trng e, S => (ev r e S).bind fun x S => asI x S fun i S => if i ≤ 16777216 ∧ -16777216 ≤ i then .ok (.tup (rangeL 0 i)) S else .bad
  | .sorted e, S => (view r e S (ev r e S)).bind fun c S => Res.of (look S c).sorted S
  | .sub a i, S => (view r a S (ev r a S)).bind fun x S => (ev r i S).bind fun y S => Res.of ((look S x).subI y) S
  | .slice a lo hi, S => (view r a S (ev r a S)).bind fun x S => (ev r lo S).bind fun l S => asI l S fun l S => (ev r hi S).bind fun h S => asI h S fun h S => Res.of ((look S x).cut (some l) (some h)) S
  | .sliceL a lo, S => (view r a S (ev r a S)).bind fun x S => (ev r lo S).bind fun l S => asI l S fun l S => Res.of ((look S x).cut (some l) none) S
  | .sliceR a hi, S => (view r a S (ev r a S)).bind fun x S => (ev r hi S).bind fun h S => asI h S fun h S => Res.of ((look S x).cut none (some h)) S
  | .op o a b, S => (ev r a S).bind fun x S => (ev r b S).bind fun y S => Res.of (o.ev x y) S
  | .cat a b, S => (view r a S (ev r a S)).bind fun x S => (view r b S (ev r b S)).bind fun y S => (match look S x, look S y with
    | .lst xs, .lst ys => if xs.length + ys.length ≤ sizeLim then .ok (.lst (xs ++ ys)) S else .bad
    | _, _ => .bad)
  | .rep a b, S => (view r a S (ev r a S)).bind fun x S => (ev r b S).bind fun y S => (match look S x, y with
    | .lst xs, .int k => if -(2 ^ 63) ≤ k ∧ k < 2 ^ 63 ∧ xs.length * k.toNat ≤ sizeLim then .ok (.lst (List.replicate k.toNat xs).flatten) S else .bad
    | _, _ => .bad)
  | .neg a, S => (ev r a S).bind fun x S => asI x S fun i S => .ok (.int (-i)) S
  | .cmp c a b, S => (view r a S (ev r a S)).bind fun x S => (view r b S (ev r b S)).bind fun y S => Res.of ((c.ev (look S x) (look S y)).map .bl) S
  | .chain c d a b e, S => (ev r a S).bind fun x S => (ev r b S).bind fun y S => (match c.ev x y with
    | some true => (ev r e S).bind fun z S => Res.of ((d.ev y z).map .bl) S
    | some false => .ok (.bl false) S
    | none => .bad)
  | .isK n a t, S => (ev r a S).bind fun x S => Res.of ((x.isK t).map fun b => .bl (b != n)) S
  | .and a b, S => (ev r a S).bind fun x S => asB x S fun c S => if c = true then (ev r b S).bind fun y S => asB y S fun d S => .ok (.bl d) S else .ok (.bl false) S
  | .or a b, S => (ev r a S).bind fun x S => asB x S fun c S => if c = true then .ok (.bl true) S else (ev r b S).bind fun y S => asB y S fun d S => .ok (.bl d) S
  | .not a, S => (ev r a S).bind fun x S => asB x S fun c S => .ok (.bl (!c)) S
  | .ife c a b, S => (ev r c S).bind fun x S => asB x S fun c S => if c = true then ev r a S else ev r b S
  | .call f es, S => (evs r es S).bind fun xs S => cf f xs S
  | .callV e es, S => (ev r e S).bind fun x S => (match x with
    | .fn f => (evs r es S).bind fun xs S => cf f xs S
    | _ => .bad)
  | .meth m e es, S => (ev r e S).bind fun x S => (match x with
    | .ins c _ => (match P.meth c m with
      | some f => (evs r es S).bind fun xs S => cf f (x :: xs) S
      | none => .bad)
    | _ => .bad)
  | .mk c es, S => (evs r es S).bind fun xs S => mk c xs S
  | .attr e a, S => (view r e S (ev r e S)).bind fun x S => Res.of (x.attr a) S
  | .bi b es, S => (evVs r es S).bind fun xs S => Res.of (b.ev (xs.map (look S))) S
  | .isi e ty, S => (view r e S (ev r e S)).bind fun x S => Res.of ((ty.ev (look S x)).map .bl) S
  | .isi2 e ty ty2, S => (view r e S (ev r e S)).bind fun x S => Res.of ((ty.ev (look S x)).bind fun a => (ty2.ev (look S x)).map fun b => .bl (a || b)) S
  | .isx i c, S => (match r[i]? with
    | some (.exc d) => .ok (.bl (P.sub d c)) S
    | _ => .bad)
  | .cell e, S => (ev r e S).bind fun x S => (match x with
    | .lst xs => .ok (.ref S.length) (S ++ [.lst xs])
    | _ => .bad)
  | .join e, S => (view r e S (ev r e S)).bind fun x S => (match look S x with
    | .lst xs => (match joined xs with
      | some z => if z.length ≤ sizeLim then .ok (.str z) S else .bad
      | none => .bad)
    | _ => .bad)
  | .index a b, S => (view r a S (ev r a S)).bind fun x S => match look S x with
    | .lst _ => (ev r b S).bind fun y S => Res.of ((look S x).index y) S
    | _ => .bad
  | .setlen elt tg it, S => (itM (view r it S (ev r it S))).bind fun p S => (compLoop (still p.1 p.2) (fun x S => match bindT tg x (wipeE r tg.slots) with
      | some r' => (ev r' elt S).bind fun y S => .ok (some y) S
      | none => .bad) p.2 S).bind fun ys S => if rowsI ys = true then .ok (.int (unlike ys)) S else .bad
  | .dict ks es, S => (evs r es S).bind fun xs S => .ok (.dic (ks.zip xs)) S
  | .rng e, S => (ev r e S).bind fun x S => asI x S fun i S => if i ≤ 16777216 ∧ -(2 ^ 60) < i then .ok (.lst (rangeL 0 i)) S else .bad
  | .rng2 a b, S => (ev r a S).bind fun x S => (ev r b S).bind fun y S => asI x S fun i S => asI y S fun j S => if (-(2 ^ 60) < i ∧ i < 2 ^ 60) ∧ -(2 ^ 60) < j ∧ j < 2 ^ 60 ∧ j - i ≤ 16777216 then .ok (.lst (rangeL i j)) S else .bad
  | .enum e, S => (ev r e S).bind fun c S => (match c with
    | .lst xs => .ok (.lst (enumL 0 xs)) S
    | .tup xs => .ok (.lst (enumL 0 xs)) S
    | _ => .bad)
def evs (r : Env) : List E → Store → Res (List T)
  | [], S => .ok [] S
  | e :: es, S => (ev r e S).bind fun x S => (evs r es S).bind fun xs S => .ok (x :: xs) S
def evVs (r : Env) : List E → Store → Res (List T)
  | [], S => .ok [] S
  | e :: es, S => (view r e S (ev r e S)).bind fun x S => (evVs r es S).bind fun xs S => .ok (x :: xs) S
end

def ownAt (r : Env) (i : Nat) : Option (List T) := match r[i]? with
  | some (.own xs) => some xs
  | _ => none
def putFs (a : Nat) (t : T) : List (Nat × T) → List (Nat × T)
  | [] => [(a, t)]
  | (b, u) :: r => if b = a then (a, t) :: r else (b, u) :: putFs a t r
mutual
def ex : S → Env → Store → SRes
  | .asg tg e, r, S => (ev P cf mk r e S).toS r fun t S => (match bindT tg t r with
    | some r' => .nx r' S
    | none => .bad)
  | .own i e, r, S => (ev P cf mk r e S).toS r fun t S => (match t with
    | .lst xs => .nx (r.set i (.own xs)) S
    | _ => .bad)
  | .push i e, r, S => (match ownAt r i with
    | some xs => (ev P cf mk r e S).toS r fun t S => if xs.length < sizeLim then .nx (r.set i (.own (xs ++ [t]))) S else .bad
    | none => .bad)
  | .ext i e, r, S => (match ownAt r i with
    | some xs => (ev P cf mk r e S).toS r fun t S => (match t with
      | .lst ys => if xs.length + ys.length ≤ sizeLim then .nx (r.set i (.own (xs ++ ys))) S else .bad
      | _ => .bad)
    | none => .bad)
  | .seti i k e, r, S => (ev P cf mk r e S).toS r fun t S => (match ownAt r i with
    | some xs => (ev P cf mk r k S).toS r fun y S => (match y with
      | .int z => (match ixN xs.length z with
        | some j => .nx (r.set i (.own (xs.set j t))) S
        | none => .bad)
      | _ => .bad)
    | none => .bad)
  | .setc a k e, r, S => (ev P cf mk r e S).toS r fun t S => (ev P cf mk r a S).toS r fun x S => (ev P cf mk r k S).toS r fun y S => (match x, y with
    | .ref n, .int z => (match S[n]? with
      | some (.lst xs) => (match ixN xs.length z with
        | some j => .nx r (S.set n (.lst (xs.set j t)))
        | none => .bad)
      | _ => .bad)
    | _, _ => .bad)
  | .pushc a e, r, S => (ev P cf mk r a S).toS r fun x S => (match x with
    | .ref n => (ev P cf mk r e S).toS r fun t S => (match S[n]? with
      | some (.lst xs) => if xs.length < sizeLim then .nx r (S.set n (.lst (xs ++ [t]))) else .bad
      | _ => .bad)
    | _ => .bad)
  | .attr i a e, r, S => (ev P cf mk r e S).toS r fun t S => (match r[i]? with
    | some (.inst c fs) => if fs.length < 500 ∧ noInst (r.set i .no) = true then .nx (r.set i (.inst c (putFs a t fs))) S else .bad
    | _ => .bad)
  | .ex e, r, S => (ev P cf mk r e S).toS r fun _ S => .nx r S
  | .ret e, r, S => (ev P cf mk r e S).toS r fun t S => .ret t S
  | .retN, _, S => .ret .non S
  | .ife c a b, r, S => (ev P cf mk r c S).toS r fun x S => (match x with
    | .bl true => exs a r S
    | .bl false => exs b r S
    | _ => .bad)
  | .loop tg it b, r, S => (itM (ev P cf mk r it S)).toS r fun p S => forLoop (still p.1 p.2) (fun x r S => match bindT tg x r with
      | some r' => exs b r' S
      | none => .bad) p.2 r S
  | .raise c, r, S => .exn c r S
  | .tryx b c h, r, S => (match exs b r S with
    | .exn d r' S' => if P.sub d c = true then (exs h r' S').hot else .exn d r' S'
    | x => x)
  | .tryn b c i h, r, S => (match exs b r S with
    | .exn d r' S' => if P.sub d c = true then (exs h (r'.set i (.exc d)) S').drop i else .exn d r' S'
    | x => x)
  | .tryn2 b c h c2 h2 i, r, S => (match exs b r S with
    | .exn d r' S' => if P.sub d c = true then (exs h (r'.set i (.exc d)) S').drop i
      else if P.sub d c2 = true then (exs h2 (r'.set i (.exc d)) S').drop i else .exn d r' S'
    | x => x)
  | .frz i, r, S => (match ownAt r i with
    | some xs => .nx (r.set i (.val (.lst xs))) S
    | none => .nx r S)
  | .brk, r, S => .brk r S
  | .cont, r, S => .cnt r S
  | .pass, r, S => .nx r S
def exs : List S → Env → Store → SRes
  | [], r, S => .nx r S
  | s :: l, r, S => (match ex s r S with
    | .nx r' S' => exs l r' S'
    | x => x)
end
end

theorem ev_k (P : Prog) (cf mk : Nat → List T → Store → Res T) (r : Env) (t : T) (S : Store) : ev P cf mk r (.k t) S = .ok t S := by simp only [ev]
theorem evs_nil (P : Prog) (cf mk : Nat → List T → Store → Res T) (r : Env) (S : Store) : evs P cf mk r [] S = .ok [] S := by simp only [evs]
theorem evVs_nil (P : Prog) (cf mk : Nat → List T → Store → Res T) (r : Env) (S : Store) : evVs P cf mk r [] S = .ok [] S := by simp only [evVs]
theorem ex_pass (P : Prog) (cf mk : Nat → List T → Store → Res T) (r : Env) (S : Store) : ex P cf mk .pass r S = .nx r S := by simp only [ex]
theorem exs_nil (P : Prog) (cf mk : Nat → List T → Store → Res T) (r : Env) (S : Store) : exs P cf mk [] r S = .nx r S := by simp only [exs]
/-- a body run to its end -/
def SRes.fin : SRes → Res T
  | .nx _ S => .ok .non S
  | .ret t S => .ok t S
  | .exn c _ S => .exn c S
  | _ => .bad
def startE (d : FDef) (xs : List T) : Env := xs.map .val ++ List.replicate (d.ns - xs.length) .no
def runF (P : Prog) (cf mk : Nat → List T → Store → Res T) (d : FDef) (xs : List T) (S : Store) : Res T :=
  if xs.length = d.np then (exs P cf mk d.body (startE d xs) S).fin else .bad
/-- a new instance, frozen behind its making -/
def runI (P : Prog) (cf mk : Nat → List T → Store → Res T) (c : Nat) (d : FDef) (xs : List T) (S : Store) : Res T :=
  if xs.length + 1 = d.np then (match exs P cf mk d.body (Slot.inst c [] :: startE { d with ns := d.ns - 1 } xs) S with
    | .nx r S' => (match r[0]? with
      | some (Slot.inst c' fs) => .ok (.ins c' fs) S'
      | _ => .bad)
    | .exn e _ S' => .exn e S'
    | _ => .bad) else .bad
mutual
def call (P : Prog) : Nat → Nat → List T → Store → Res T
  | 0, _, _, _ => .bad
  | n + 1, f, xs, S => (match P.defs f with
    | some d => runF P (call P n) (make P n) d xs S
    | none => .bad)
def make (P : Prog) : Nat → Nat → List T → Store → Res T
  | 0, _, _, _ => .bad
  | n + 1, c, xs, S => (match P.init c with
    | some d => runI P (call P n) (make P n) c d xs S
    | none => .bad)
end
end Hf
end

section
set_option Elab.async false
set_option linter.all false
set_option maxRecDepth 100000
/-! HfRep: how trees and the store stand in the layer's heap. -/
namespace Hf
open PySem PySem.Spec PyProof.Rows L2

/-- what is told of the text: addresses of defs, classes, the attributes' names; the exceptions at hand -/
structure D where
  K : PySem.W.Frag
  w : World
  fa : Nat → Option Addr
  ca : Nat → Option Addr
  xa : Nat → Option Addr
  an : Nat → Str
  as : List Nat
  pn : List (Addr × Nat)
  sf : Option (Addr × Addr)
/-- ghosts: what never changes, the cells -/
structure Gh where
  I : Hp
  mu : List Addr

abbrev sk (s : List Nat) : Str := ⟨s.toArray⟩
/-- the value of a text key -/
def dlookV : List T → List V → List Nat → Option V
  | .str x :: ks, v :: vs, z => if x = z then some v else dlookV ks vs z
  | _ :: ks, _ :: vs, z => dlookV ks vs z
  | _, _, _ => none
/-- a dict with these text keys at a -/
def DicAt (d : D) (H : Hp) (a : Addr) (ks : List T) (vs : List V) : Prop :=
  (∃ kvs, H a = some (.dK kvs) ∧ ∀ z, valV kvs (Sum.inr (sk z) : Key) = dlookV ks vs z) ∨
  ∃ es n, KDict d.K d.w a es n ∧ ∀ z, ∃ r, PySem.W.nsIn d.K a (sk z) = some r ∧ RelO (dlookV ks vs z) r

mutual
def RepV (d : D) (G : Gh) : T → V → Prop
  | .non, v => v = .non
  | .bl b, v => v = .bl b
  | .int i, v => v = .int i
  | .str s, v => v = .str (sk s) ∧ s.length ≤ sizeLine ∧ (s.all fun c => decide (c < 0x110000)) = true
  | .tup xs, v => ∃ a vs, v = .ref a ∧ SqT d.K G.I a vs ∧ vs.length ≤ sizeLine ∧ RepAll d G xs vs
  | .lst xs, v => ∃ a vs, v = .ref a ∧ L2.Rd G.I a (.lst vs) ∧ vs.length ≤ sizeLine ∧ RepAll d G xs vs
  | .dic kvs, v => ∃ a vs, v = .ref a ∧ DicAt d G.I a (kvs.map (·.1)) vs ∧ RepKs d G kvs vs
  | .ref n, v => ∃ a, v = .ref a ∧ G.mu[n]? = some a
  | .fn f, v => ∃ a, v = .ref a ∧ d.fa f = some a
  | .ins c fs, v => ∃ a C dx ws, v = .ref a ∧ d.ca c = some C ∧ G.I a = some (.ins C dx ws) ∧ G.I dx = some (.own a) ∧ RepFs d G fs ws
def RepAll (d : D) (G : Gh) : List T → List V → Prop
  | [], [] => True
  | x :: xs, v :: vs => RepV d G x v ∧ RepAll d G xs vs
  | _, _ => False
def RepKs (d : D) (G : Gh) : List (T × T) → List V → Prop
  | [], [] => True
  | (_, x) :: xs, v :: vs => RepV d G x v ∧ RepKs d G xs vs
  | _, _ => False
def RepFs (d : D) (G : Gh) : List (Nat × T) → List (Str × V) → Prop
  | [], [] => True
  | (n, x) :: xs, (f, v) :: vs => (f = d.an n ∧ n ∈ d.as) ∧ RepV d G x v ∧ RepFs d G xs vs
  | _, _ => False
end

/-- more is known -/
structure Le (G G' : Gh) : Prop where
  I : ∀ a o, G.I a = some o → G'.I a = some o
  mu : ∃ l, G'.mu = G.mu ++ l
theorem Le.refl (G : Gh) : Le G G := ⟨fun _ _ h => h, [], by simp⟩
theorem Le.trans {G G1 G2 : Gh} (a : Le G G1) (b : Le G1 G2) : Le G G2 := by
  obtain ⟨l, e⟩ := a.mu
  obtain ⟨m, e2⟩ := b.mu
  exact ⟨fun x o h => b.I x o (a.I x o h), l ++ m, by rw [e2, e, List.append_assoc]⟩
theorem Le.mu_get {G G' : Gh} (h : Le G G') {n : Nat} {a : Addr} (e : G.mu[n]? = some a) : G'.mu[n]? = some a := by
  obtain ⟨l, q⟩ := h.mu
  rw [q, List.getElem?_append_left (List.getElem?_eq_some_iff.mp e).1]
  exact e
theorem Rd.le {G G' : Gh} (h : Le G G') {a : Addr} {u : HO} (r : L2.Rd G.I a u) : L2.Rd G'.I a u := by
  rcases r with r | ⟨o, r⟩
  · exact .inl (h.I _ _ r)
  · exact .inr ⟨o, h.I _ _ r⟩
theorem SqL.le {G G' : Gh} (h : Le G G') {K : PySem.W.Frag} {a : Addr} {vs : List V} (r : SqL K G.I a vs) : SqL K G'.I a vs := by
  rcases r with r | r
  · exact .inl (Rd.le h r)
  · exact .inr r
theorem SqT.le {G G' : Gh} (h : Le G G') {K : PySem.W.Frag} {a : Addr} {vs : List V} (r : SqT K G.I a vs) : SqT K G'.I a vs := by
  rcases r with r | r
  · exact .inl (Rd.le h r)
  · exact .inr r
theorem DicAt.le {G G' : Gh} (h : Le G G') {d : D} {a : Addr} {ks : List T} {vs : List V} (r : DicAt d G.I a ks vs) : DicAt d G'.I a ks vs := by
  rcases r with ⟨kvs, r, e⟩ | r
  · exact .inl ⟨kvs, h.I _ _ r, e⟩
  · exact .inr r
mutual
theorem RepV.le {d : D} {G G' : Gh} (h : Le G G') : ∀ (t : T) {v : V}, RepV d G t v → RepV d G' t v
  | .non, _, r => r
  | .bl _, _, r => r
  | .int _, _, r => r
  | .str _, _, r => r
  | .tup xs, _, r => by
    obtain ⟨a, vs, e, q, z, r⟩ := r
    exact ⟨a, vs, e, SqT.le h q, z, RepAll.le h xs r⟩
  | .lst xs, _, r => by
    obtain ⟨a, vs, e, q, z, r⟩ := r
    exact ⟨a, vs, e, Rd.le h q, z, RepAll.le h xs r⟩
  | .dic kvs, _, r => by
    obtain ⟨a, vs, e, q, r⟩ := r
    exact ⟨a, vs, e, q.le h, RepKs.le h kvs r⟩
  | .ref _, _, r => by
    obtain ⟨a, e, q⟩ := r
    exact ⟨a, e, h.mu_get q⟩
  | .fn _, _, r => r
  | .ins c fs, _, r => by
    obtain ⟨a, C, dx, ws, e, q, i, j, r⟩ := r
    exact ⟨a, C, dx, ws, e, q, h.I _ _ i, h.I _ _ j, RepFs.le h fs r⟩
theorem RepAll.le {d : D} {G G' : Gh} (h : Le G G') : ∀ (xs : List T) {vs : List V}, RepAll d G xs vs → RepAll d G' xs vs
  | [], [], r => r
  | _ :: _, [], r => r
  | [], _ :: _, r => r
  | x :: xs, _ :: _, r => ⟨RepV.le h x r.1, RepAll.le h xs r.2⟩
theorem RepKs.le {d : D} {G G' : Gh} (h : Le G G') : ∀ (xs : List (T × T)) {vs : List V}, RepKs d G xs vs → RepKs d G' xs vs
  | [], [], r => r
  | _ :: _, [], r => r
  | [], _ :: _, r => r
  | (_, x) :: xs, _ :: _, r => ⟨RepV.le h x r.1, RepKs.le h xs r.2⟩
theorem RepFs.le {d : D} {G G' : Gh} (h : Le G G') : ∀ (xs : List (Nat × T)) {vs : List (Str × V)}, RepFs d G xs vs → RepFs d G' xs vs
  | [], [], r => r
  | _ :: _, [], r => r
  | [], _ :: _, r => r
  | (_, x) :: xs, (_, _) :: _, r => ⟨r.1, RepV.le h x r.2.1, RepFs.le h xs r.2.2⟩
end
theorem RepAll.length {d : D} {G : Gh} : ∀ {xs : List T} {vs : List V}, RepAll d G xs vs → xs.length = vs.length
  | [], [], _ => rfl
  | _ :: xs, _ :: vs, r => congrArg (· + 1) (RepAll.length r.2)
theorem RepAll.get {d : D} {G : Gh} : ∀ {xs : List T} {vs : List V} {i : Nat} {t : T}, RepAll d G xs vs → xs[i]? = some t → ∃ v, vs[i]? = some v ∧ RepV d G t v
  | [], _, _, _, _, e => by simp at e
  | x :: xs, v :: vs, 0, t, r, e => by
    simp at e; subst e
    exact ⟨v, rfl, r.1⟩
  | x :: xs, v :: vs, i + 1, t, r, e => by
    obtain ⟨u, h1, h2⟩ := RepAll.get (i := i) (t := t) r.2 (by simpa using e)
    exact ⟨u, by simpa using h1, h2⟩
theorem RepAll.getV {d : D} {G : Gh} {xs : List T} {vs : List V} {i : Nat} {v : V} (r : RepAll d G xs vs) (e : vs[i]? = some v) : ∃ t, xs[i]? = some t ∧ RepV d G t v := by
  have h := (List.getElem?_eq_some_iff.mp e).1
  rw [← r.length] at h
  obtain ⟨u, h1, h2⟩ := r.get (i := i) (t := xs[i]) (by simp [h])
  rw [h1] at e; cases e
  exact ⟨xs[i], by simp [h], h2⟩
theorem RepAll.append {d : D} {G : Gh} : ∀ {xs ys : List T} {vs ws : List V}, RepAll d G xs vs → RepAll d G ys ws → RepAll d G (xs ++ ys) (vs ++ ws)
  | [], _, [], _, _, s => s
  | x :: xs, ys, v :: vs, ws, r, s => ⟨r.1, RepAll.append r.2 s⟩
theorem RepAll.take {d : D} {G : Gh} : ∀ {xs : List T} {vs : List V} (n : Nat), RepAll d G xs vs → RepAll d G (xs.take n) (vs.take n)
  | _, _, 0, _ => by simp [RepAll]
  | [], [], _ + 1, r => r
  | x :: xs, v :: vs, n + 1, r => ⟨r.1, RepAll.take n r.2⟩
theorem RepAll.drop {d : D} {G : Gh} : ∀ {xs : List T} {vs : List V} (n : Nat), RepAll d G xs vs → RepAll d G (xs.drop n) (vs.drop n)
  | _, _, 0, r => r
  | [], [], _ + 1, r => r
  | x :: xs, v :: vs, n + 1, r => RepAll.drop n r.2
theorem RepAll.set {d : D} {G : Gh} {t : T} {v : V} (q : RepV d G t v) : ∀ {xs : List T} {vs : List V} (i : Nat), RepAll d G xs vs → RepAll d G (xs.set i t) (vs.set i v)
  | [], [], _, r => r
  | x :: xs, w :: vs, 0, r => ⟨q, r.2⟩
  | x :: xs, w :: vs, i + 1, r => ⟨r.1, RepAll.set q i r.2⟩
theorem RepAll.replicate {d : D} {G : Gh} {xs : List T} {vs : List V} (r : RepAll d G xs vs) : ∀ n : Nat, RepAll d G (List.replicate n xs).flatten (List.replicate n vs).flatten
  | 0 => True.intro
  | n + 1 => by
    rw [List.replicate_succ, List.replicate_succ, List.flatten_cons, List.flatten_cons]
    exact r.append (RepAll.replicate r n)

/-- the store -/
structure RepS (d : D) (G : Gh) (S : Store) (H : Hp) : Prop where
  imm : ∀ a o, G.I a = some o → H a = some o
  len : S.length = G.mu.length
  cell : ∀ (n : Nat) xs, S[n]? = some (Cell.lst xs) → ∃ a vs, G.mu[n]? = some a ∧ H a = some (.lst vs) ∧ vs.length ≤ sizeLine ∧ RepAll d G xs vs
  inj : G.mu.Nodup
  off : ∀ a ∈ G.mu, G.I a = none
theorem RepS.le_cell {d : D} {G : Gh} {S : Store} {H : Hp} (R : RepS d G S H) {a : Addr} (h : a ∈ G.mu) : ∃ vs, H a = some (.lst vs) := by
  obtain ⟨n, hn, e⟩ := List.mem_iff_getElem.mp h
  have hs : n < S.length := by rw [R.len]; exact hn
  cases c : S[n] with
  | lst xs =>
    obtain ⟨b, vs, e1, e2, _⟩ := R.cell n xs (by rw [List.getElem?_eq_getElem hs, c])
    rw [List.getElem?_eq_getElem hn, e] at e1
    cases e1
    exact ⟨vs, e2⟩
/-- the frame's names -/
structure RepE (d : D) (G : Gh) (r : Env) (σ : L2.St) (H : Hp) : Prop where
  len : r.length = σ.length
  slot : ∀ (i : Nat) t, r[i]? = some (Slot.val t) → ∃ v, σ[i]? = some (some v) ∧ RepV d G t v
  own : ∀ (i : Nat) xs, r[i]? = some (Slot.own xs) → ∃ a vs, σ[i]? = some (some (V.ref a)) ∧ H a = some (.lst vs) ∧ vs.length ≤ sizeLine ∧ RepAll d G xs vs ∧ G.I a = none ∧ a ∉ G.mu
  apart : ∀ (i j : Nat) xs ys a, r[i]? = some (Slot.own xs) → r[j]? = some (Slot.own ys) → σ[i]? = some (some (V.ref a)) → σ[j]? = some (some (V.ref a)) → i = j
  inst : ∀ (i : Nat) c fs, r[i]? = some (Slot.inst c fs) → ∃ a C dx ws, σ[i]? = some (some (V.ref a)) ∧ (d.ca c = some C ∧ d.sf = some (a, dx)) ∧ H a = some (.ins C dx ws) ∧ H dx = some (.own a) ∧ RepFs d G fs ws ∧ G.I a = none ∧ G.I dx = none ∧ a ∉ G.mu ∧ dx ∉ G.mu
  exc : ∀ (i : Nat) c, r[i]? = some (Slot.exc c) → ∃ a, σ[i]? = some (some (V.ref a)) ∧ (a, c) ∈ d.pn
/-- from one heap to a later one: only cells changed -/
structure Step (G G' : Gh) (H H' : Hp) : Prop where
  le : Le G G'
  new : ∀ a, G.I a = none → G'.I a ≠ none → H a = none
  mu : ∀ a ∈ G'.mu, a ∉ G.mu → H a = none
  keep : ∀ a o, H a = some o → a ∉ G.mu → H' a = some o
  there : ∀ a, H a ≠ none → H' a ≠ none
theorem Step.refl (G : Gh) (H : Hp) : Step G G H H := ⟨Le.refl G, fun _ h k => absurd h k, fun _ h k => absurd h k, fun _ _ h _ => h, fun _ h => h⟩
theorem Step.trans {G G1 G2 : Gh} {H H1 H2 : Hp} (a : Step G G1 H H1) (b : Step G1 G2 H1 H2) : Step G G2 H H2 := by
  have none_of : ∀ x, H1 x = none → H x = none := fun x e => by
    cases q : H x with
    | none => rfl
    | some o => exact absurd e (a.there x (by rw [q]; simp))
  have memu : ∀ x, x ∈ G1.mu → x ∉ G.mu → H x = none := a.mu
  refine ⟨a.le.trans b.le, fun x h k => ?_, fun x h k => ?_, fun x o h k => ?_, fun x h => b.there x (a.there x h)⟩
  · cases q : G1.I x with
    | none => exact none_of x (b.new x q k)
    | some o => exact a.new x h (by rw [q]; simp)
  · by_cases q : x ∈ G1.mu
    · exact a.mu x q k
    · exact none_of x (b.mu x h q)
  · have h1 := a.keep x o h k
    refine b.keep x o h1 fun q => ?_
    rw [a.mu x q k] at h
    cases h
theorem RepE.step {d : D} {G G' : Gh} {r : Env} {σ : L2.St} {H H' : Hp} (E : RepE d G r σ H) (s : Step G G' H H') : RepE d G' r σ H' := by
  have offI : ∀ {a : Addr} {o : HO}, H a = some o → G.I a = none → G'.I a = none := fun {a o} h k => by
    cases q : G'.I a with
    | none => rfl
    | some u =>
      have := s.new a k (by rw [q]; simp)
      rw [h] at this; cases this
  have offM : ∀ {a : Addr} {o : HO}, H a = some o → a ∉ G.mu → a ∉ G'.mu := fun {a o} h k q => by
    have := s.mu a q k
    rw [h] at this; cases this
  refine ⟨E.len, fun i t e => ?_, fun i xs e => ?_, E.apart, fun i c fs e => ?_, E.exc⟩
  · obtain ⟨v, h1, h2⟩ := E.slot i t e
    exact ⟨v, h1, RepV.le s.le t h2⟩
  · obtain ⟨a, vs, h1, h2, z, h3, h4, h5⟩ := E.own i xs e
    exact ⟨a, vs, h1, s.keep _ _ h2 h5, z, RepAll.le s.le xs h3, offI h2 h4, offM h2 h5⟩
  · obtain ⟨a, C, dx, ws, h1, h2, h3, h4, h5, h6, h7, h8, h9⟩ := E.inst i c fs e
    exact ⟨a, C, dx, ws, h1, h2, s.keep _ _ h3 h8, s.keep _ _ h4 h9, RepFs.le s.le fs h5, offI h3 h6, offI h4 h7, offM h3 h8, offM h4 h9⟩

/-- a value that is looked at: a list may be an own one, or a cell -/
def RdV (d : D) (G : Gh) (H : Hp) : T → V → Prop
  | .lst xs, v => ∃ a vs, v = .ref a ∧ L2.Rd H a (.lst vs) ∧ vs.length ≤ sizeLine ∧ RepAll d G xs vs
  | .ins c fs, v => ∃ a C dx ws, v = .ref a ∧ d.ca c = some C ∧ H a = some (.ins C dx ws) ∧ RepFs d G fs ws
  | t, v => RepV d G t v
/-- .. as it was taken: a name's, or a value -/
def RepW (d : D) (G : Gh) (r : Env) (σ : L2.St) (t : T) (v : V) : Prop :=
  RepV d G t v ∨ ∃ i : Nat, σ[i]? = some (some v) ∧ ((∃ xs, r[i]? = some (Slot.own xs) ∧ t = .lst xs) ∨ ∃ c fs, r[i]? = some (Slot.inst c fs) ∧ t = .ins c fs)
theorem RepW.le {d : D} {G G' : Gh} (h : Le G G') {r : Env} {σ : L2.St} {t : T} {v : V} (q : RepW d G r σ t v) : RepW d G' r σ t v := by
  rcases q with q | q
  · exact .inl (RepV.le h t q)
  · exact .inr q
theorem Rd.imm {d : D} {G : Gh} {S : Store} {H : Hp} (R : RepS d G S H) {a : Addr} {u : HO} (r : L2.Rd G.I a u) : L2.Rd H a u := by
  rcases r with r | ⟨o, r⟩
  · exact .inl (R.imm _ _ r)
  · exact .inr ⟨o, R.imm _ _ r⟩
theorem RepS.sqL {d : D} {G : Gh} {S : Store} {H : Hp} (R : RepS d G S H) {a : Addr} {vs : List V} (r : SqL d.K G.I a vs) : SqL d.K H a vs := by
  rcases r with r | r
  · exact .inl (Rd.imm R r)
  · exact .inr r
theorem RepS.sqT {d : D} {G : Gh} {S : Store} {H : Hp} (R : RepS d G S H) {a : Addr} {vs : List V} (r : SqT d.K G.I a vs) : SqT d.K H a vs := by
  rcases r with r | r
  · exact .inl (Rd.imm R r)
  · exact .inr r
theorem RdV.of {d : D} {G : Gh} {S : Store} {H : Hp} (R : RepS d G S H) : ∀ (t : T) {v : V}, RepV d G t v → RdV d G H t v
  | .non, _, h => h
  | .bl _, _, h => h
  | .int _, _, h => h
  | .str _, _, h => h
  | .tup _, _, h => h
  | .lst xs, _, h => by
    obtain ⟨a, vs, e, q, z, r⟩ := h
    exact ⟨a, vs, e, Rd.imm R q, z, r⟩
  | .dic _, _, h => h
  | .ref _, _, h => h
  | .fn _, _, h => h
  | .ins c fs, _, h => by
    obtain ⟨a, C, dx, ws, e, q, i, j, r⟩ := h
    exact ⟨a, C, dx, ws, e, q, R.imm _ _ i, r⟩
theorem RepW.rd {d : D} {G : Gh} {r : Env} {S : Store} {σ : L2.St} {H : Hp} (R : RepS d G S H) (E : RepE d G r σ H) {t : T} {v : V} (h : RepW d G r σ t v) : RdV d G H (look S t) v := by
  rcases h with h | ⟨i, hi, ⟨xs, hr, rfl⟩ | ⟨c, fs, hr, rfl⟩⟩
  · cases t with
    | ref n =>
      obtain ⟨a, rfl, hm⟩ := h
      show RdV d G H (match S[n]? with
        | some (.lst xs) => .lst xs
        | none => .ref n) _
      cases e : S[n]? with
      | none => exact ⟨a, rfl, hm⟩
      | some c =>
        cases c with
        | lst xs =>
          obtain ⟨b, vs, h1, h2, z, h3⟩ := R.cell n xs e
          rw [hm] at h1; cases h1
          exact ⟨a, vs, rfl, .inl h2, z, h3⟩
    | _ => exact RdV.of R _ h
  · obtain ⟨a, vs, h1, h2, z, h3, _⟩ := E.own i xs hr
    rw [hi] at h1; cases h1
    exact ⟨a, vs, rfl, .inl h2, z, h3⟩
  · obtain ⟨a, C, dx, ws, h1, h2, h3, h4, h5, _⟩ := E.inst i c fs hr
    rw [hi] at h1; cases h1
    exact ⟨a, C, dx, ws, rfl, h2.1, h3, h5⟩

/-- a new thing that never changes -/
def Gh.add (G : Gh) (p : Addr) (o : HO) : Gh := { G with I := upd G.I p o }
theorem Step.add {d : D} {G : Gh} {S : Store} {H : Hp} (R : RepS d G S H) {p : Addr} {o : HO} (hp : H p = none) : Step G (G.add p o) H (upd H p o) := by
  have np : ∀ a u, H a = some u → a ≠ p := fun a u e z => by rw [z, hp] at e; cases e
  refine ⟨⟨fun a u e => ?_, [], by simp [Gh.add]⟩, fun a h k => ?_, fun a h k => absurd h k, fun a u e _ => by rw [upd_ne (np a u e)]; exact e, fun a e => ?_⟩
  · show upd G.I p o a = _
    rw [upd_ne (np a u (R.imm a u e))]; exact e
  · by_cases q : a = p
    · rw [q]; exact hp
    · exfalso
      apply k
      show upd G.I p o a = none
      rw [upd_ne q]; exact h
  · by_cases q : a = p
    · rw [q, upd_same]; simp
    · rw [upd_ne q]; exact e
theorem RepS.add {d : D} {G : Gh} {S : Store} {H : Hp} (R : RepS d G S H) {p : Addr} {o : HO} (hp : H p = none) : RepS d (G.add p o) S (upd H p o) := by
  have st : Step G (G.add p o) H (upd H p o) := Step.add R hp
  refine ⟨fun a u e => ?_, R.len, fun n xs e => ?_, R.inj, fun a h => ?_⟩
  · have e' : upd G.I p o a = some u := e
    by_cases q : a = p
    · subst q; rw [upd_same] at e' ⊢; exact e'
    · rw [upd_ne q] at e' ⊢; exact R.imm a u e'
  · obtain ⟨a, vs, h1, h2, z, h3⟩ := R.cell n xs e
    refine ⟨a, vs, h1, ?_, z, RepAll.le st.le xs h3⟩
    rw [upd_ne (fun q => by rw [q, hp] at h2; cases h2)]; exact h2
  · show upd G.I p o a = none
    obtain ⟨vs, e⟩ := R.le_cell h
    rw [upd_ne (fun q => by rw [q, hp] at e; cases e)]; exact R.off a h
/-- a new thing that is no part of the ghosts -/
theorem Step.lay {G : Gh} {H : Hp} {p : Addr} {o : HO} (hp : H p = none) : Step G G H (upd H p o) :=
  ⟨Le.refl G, fun _ h k => absurd h k, fun _ h k => absurd h k, fun a u e _ => by rw [upd_ne (fun z => by rw [z, hp] at e; cases e)]; exact e, fun a e => by
    by_cases q : a = p
    · rw [q, upd_same]; simp
    · rw [upd_ne q]; exact e⟩
theorem RepS.lay {d : D} {G : Gh} {S : Store} {H : Hp} (R : RepS d G S H) {p : Addr} {o : HO} (hp : H p = none) : RepS d G S (upd H p o) := by
  refine ⟨fun a u e => ?_, R.len, fun n xs e => ?_, R.inj, R.off⟩
  · rw [upd_ne (fun z => by rw [z] at e; have := R.imm _ _ e; rw [hp] at this; cases this)]; exact R.imm a u e
  · obtain ⟨a, vs, h1, h2, z, h3⟩ := R.cell n xs e
    exact ⟨a, vs, h1, by rw [upd_ne (fun q => by rw [q, hp] at h2; cases h2)]; exact h2, z, h3⟩
end Hf
end

section
set_option Elab.async false
set_option linter.all false
set_option maxRecDepth 100000
/-! HfS0: the judgements for trees; names, constants, tuples, lists. -/
namespace Hf
open PySem PySem.Spec PyProof.Rows L2

theorem PE_imp {X : Cx} {e : Expr} {t t' : TE} (h : PE X e t) (i : ∀ σ H Q, t' σ H Q → t σ H Q) : PE X e t' := ⟨fun pins s σ H Q I q => h.run pins s σ H Q I (i _ _ _ q)⟩
theorem PT_imp {X : Cx} {e : Expr} {t t' : TT} (h : PT X e t) (i : ∀ σ H Q, t' σ H Q → t σ H Q) : PT X e t' := ⟨fun pins s σ H Q I q => h.run pins s σ H Q I (i _ _ _ q)⟩
theorem PW_imp {X : Cx} {e : Expr} {t t' : TT} (h : PW X e t) (i : ∀ σ H Q, t' σ H Q → t σ H Q) : PW X e t' := ⟨fun wh pins s σ H Q I q => h.run wh pins s σ H Q I (i _ _ _ q)⟩
theorem PA_imp {X : Cx} {es : List Expr} {t t' : TA} (h : PA X es t) (i : ∀ σ H Q, t' σ H Q → t σ H Q) : PA X es t' := ⟨fun pos pins s σ H Q I q => h.run pos pins s σ H Q I (i _ _ _ q)⟩
theorem PS_imp {X : Cx} {e : Stmt} {t t' : TS} (h : PS X e t) (i : ∀ D σ H, t' D σ H → t D σ H) : PS X e t' := ⟨fun pins s σ H Q I q => h.run pins s σ H Q I (i _ _ _ q)⟩
theorem PSs_imp {X : Cx} {e : List Stmt} {t t' : TS} (h : PSs X e t) (i : ∀ D σ H, t' D σ H → t D σ H) : PSs X e t' := ⟨fun pins s σ H Q I q => h.run pins s σ H Q I (i _ _ _ q)⟩
theorem PI_imp {X : Cx} {tg e : Expr} {t t' : TI} (h : PI X tg e t) (i : ∀ σ H Q, t' σ H Q → t σ H Q) : PI X tg e t' := ⟨fun pins s σ H Q I q => h.run pins s σ H Q I (i _ _ _ q)⟩

section
variable (d : D) (W : WX)
/-- what is wanted of a result from (G, H) on -/
def Post {α β : Type} (σ : L2.St) (R : Gh → Hp → α → β → Prop) (G : Gh) (H : Hp) (Q : β → Hp → Prop) : Res α → Prop
  | .ok a S' => ∀ G' b H', Step G G' H H' → RepS d G' S' H' → R G' H' a b → Q b H'
  | .exn c S' => ∀ x G' H', d.xa c = some x → Step G G' H H' → RepS d G' S' H' → W (.ref x) none σ H'
  | .bad => False
def tG {β : Type} {α : Type} (R : Env → L2.St → Hp → Gh → Hp → α → β → Prop) (m : Env → Store → Res α) : L2.St → Hp → (β → Hp → Prop) → Prop := fun σ H Q =>
  ∃ G r S, RepS d G S H ∧ RepE d G r σ H ∧ Post d W σ (R r σ H) G H Q (m r S)
/-- values -/
abbrev RV : Env → L2.St → Hp → Gh → Hp → T → V → Prop := fun _ _ _ G _ t v => RepV d G t v
abbrev RW' : Env → L2.St → Hp → Gh → Hp → T → V → Prop := fun r σ _ G _ t v => RepW d G r σ t v
/-- a list just made -/
def NewL (G : Gh) (H0 H : Hp) (xs : List T) (v : V) : Prop := ∃ a vs, v = .ref a ∧ H a = some (.lst vs) ∧ vs.length ≤ sizeLine ∧ RepAll d G xs vs ∧ G.I a = none ∧ a ∉ G.mu ∧ H0 a = none
abbrev RN : Env → L2.St → Hp → Gh → Hp → T → V → Prop := fun _ _ H0 G H t v => ∃ xs, t = .lst xs ∧ NewL d G H0 H xs v
abbrev RA : Env → L2.St → Hp → Gh → Hp → List T → List V → Prop := fun _ _ _ G _ xs vs => RepAll d G xs vs
def RepWs (d : D) (G : Gh) (r : Env) (σ : L2.St) : List T → List V → Prop
  | [], [] => True
  | x :: xs, v :: vs => RepW d G r σ x v ∧ RepWs d G r σ xs vs
  | _, _ => False
abbrev RAW : Env → L2.St → Hp → Gh → Hp → List T → List V → Prop := fun r σ _ G _ xs vs => RepWs d G r σ xs vs
abbrev RB : Env → L2.St → Hp → Gh → Hp → Bool → Bool → Prop := fun _ _ _ _ _ t b => b = t
/-- a truth value -/
def toB (m : Env → Store → Res T) : Env → Store → Res Bool := fun r S => (m r S).bind fun t S => match t with
  | .bl b => .ok b S
  | _ => .bad
abbrev tE (m : Env → Store → Res T) : TE := tG d W (RV d) m
abbrev tW (m : Env → Store → Res T) : TE := tG d W (RW' d) m
abbrev tN (m : Env → Store → Res T) : TE := tG d W (RN d) m
abbrev tAs (m : Env → Store → Res (List T)) : TA := tG d W (RA d) m
abbrev tWs (m : Env → Store → Res (List T)) : TA := tG d W (RAW d) m
abbrev tBo (m : Env → Store → Res T) : TT := tG d W RB (toB m)
end
theorem asB_eq {x : Res T} {k : Bool → Store → Res T} : (x.bind fun t S => asB t S k) = (x.bind fun t S => match t with
  | .bl b => .ok b S
  | _ => .bad).bind k := by
  cases x with
  | ok t S => cases t <;> rfl
  | _ => rfl
section
variable {d : D} {W : WX} {σ : L2.St}
theorem Post.later {α β : Type} {R : Gh → Hp → α → β → Prop} {G G1 : Gh} {H H1 : Hp} {Q : β → Hp → Prop} {m : Res α} (h : Post d W σ R G H Q m) (st : Step G G1 H H1) : Post d W σ R G1 H1 Q m := by
  cases m with
  | ok a S => exact fun G' b H' s => h G' b H' (st.trans s)
  | exn c S => exact fun x G' H' e s => h x G' H' e (st.trans s)
  | bad => exact h
theorem Post.imp {α β : Type} {R R' : Gh → Hp → α → β → Prop} {G : Gh} {H : Hp} {Q Q' : β → Hp → Prop} {m : Res α} (h : Post d W σ R G H Q m)
    (i : ∀ a S G' b H', m = .ok a S → Step G G' H H' → RepS d G' S H' → (∀ G2 b2 H2, Step G G2 H H2 → RepS d G2 S H2 → R G2 H2 a b2 → Q b2 H2) → R' G' H' a b → Q' b H') : Post d W σ R' G H Q' m := by
  cases m with
  | ok a S => exact fun G' b H' s R1 r => i a S G' b H' rfl s R1 h r
  | exn c S => exact h
  | bad => exact h
theorem Post.bind {α β γ δ : Type} {R1 : Gh → Hp → α → β → Prop} {R2 : Gh → Hp → γ → δ → Prop} {G : Gh} {H : Hp} {Q1 : β → Hp → Prop} {Q : δ → Hp → Prop} {m : Res α} {k : α → Store → Res γ} (h : Post d W σ R2 G H Q (m.bind k))
    (hk : ∀ a S1 G1 b H1, Step G G1 H H1 → RepS d G1 S1 H1 → R1 G1 H1 a b → Post d W σ R2 G1 H1 Q (k a S1) → Q1 b H1) : Post d W σ R1 G H Q1 m := by
  cases m with
  | ok a S1 => exact fun G1 b H1 s RS r => hk a S1 G1 b H1 s RS r (Post.later h s)
  | exn c S => exact h
  | bad => exact h
theorem Post.bind0 {α β γ δ : Type} {R1 : Gh → Hp → α → β → Prop} {R2 : Gh → Hp → γ → δ → Prop} {G : Gh} {H : Hp} {Q1 : β → Hp → Prop} {Q : δ → Hp → Prop} {m : Res α} {k : α → Store → Res γ} (h : Post d W σ R2 G H Q (m.bind k))
    (hk : ∀ a S1, m = .ok a S1 → Post d W σ R2 G H Q (k a S1) → ∀ G1 b H1, Step G G1 H H1 → RepS d G1 S1 H1 → R1 G1 H1 a b → Q1 b H1) : Post d W σ R1 G H Q1 m := by
  cases m with
  | ok a S1 => exact hk a S1 rfl h
  | exn c S => exact h
  | bad => exact h
/-- from a result's own words -/
theorem Post.ofO {α β : Type} {R : Gh → Hp → α → β → Prop} {G : Gh} {H : Hp} {Q : β → Hp → Prop} {o : Option α} {S : Store} (h : Post d W σ R G H Q (Res.of o S)) : ∃ a, o = some a ∧ ∀ G' b H', Step G G' H H' → RepS d G' S H' → R G' H' a b → Q b H' := by
  cases o with
  | none => exact h.elim
  | some a => exact ⟨a, rfl, h⟩
end
theorem RepE.get {d : D} {G : Gh} {r : Env} {σ : L2.St} {H : Hp} (E : RepE d G r σ H) {i : Nat} {t : T} (h : r[i]? = some (.val t)) : ∃ v, σ[i]? = some (some v) ∧ RepV d G t v := E.slot i t h

section
variable {X : Cx} {d : D} {W : WX}
/-! ### names -/
theorem s_var {i : Nat} {x : PySem.Str} {pos : Pos} (hN : X.N[i]? = some x) (hv : Vis X.env.scope x) (hd : (x == ("__debug__" : PySem.Str)) = false) (hc : (x == ("__classdict__" : PySem.Str)) = false) :
    PE X (.Name x pos) (tE d W fun r S => match r[i]? with
      | some (.val t) => .ok t S
      | _ => .bad) := by
  refine PE_imp (pe_var hN hv hd hc) fun σ H Q ⟨G, r, S, RS, RE, h⟩ => ?_
  cases e : r[i]? with
  | none => simp only [e] at h; exact h.elim
  | some sl =>
    cases sl with
    | val t =>
      simp only [e] at h
      obtain ⟨v, h1, h2⟩ := RE.slot i t e
      exact ⟨v, h1, h G v H (Step.refl G H) RS h2⟩
    | _ => simp only [e] at h; exact h.elim
/-- .. looked at -/
theorem s_varW {i : Nat} {x : PySem.Str} {pos : Pos} {m : Env → Store → Res T} (hN : X.N[i]? = some x) (hv : Vis X.env.scope x) (hd : (x == ("__debug__" : PySem.Str)) = false) (hc : (x == ("__classdict__" : PySem.Str)) = false) :
    PE X (.Name x pos) (tW d W fun r S => view r (.v i) S (m r S)) := by
  refine PE_imp (pe_var hN hv hd hc) fun σ H Q ⟨G, r, S, RS, RE, h⟩ => ?_
  unfold view at h
  cases e : r[i]? with
  | none => simp only [e] at h; exact h.elim
  | some sl =>
    cases sl with
    | val t =>
      simp only [e] at h
      obtain ⟨v, h1, h2⟩ := RE.slot i t e
      exact ⟨v, h1, h G v H (Step.refl G H) RS (.inl h2)⟩
    | own xs =>
      simp only [e] at h
      obtain ⟨a, vs, h1, h2, _⟩ := RE.own i xs e
      exact ⟨_, h1, h G _ H (Step.refl G H) RS (.inr ⟨i, h1, .inl ⟨xs, e, rfl⟩⟩)⟩
    | inst c fs =>
      simp only [e] at h
      obtain ⟨a, C, dx, ws, h1, _⟩ := RE.inst i c fs e
      exact ⟨_, h1, h G _ H (Step.refl G H) RS (.inr ⟨i, h1, .inr ⟨c, fs, e, rfl⟩⟩)⟩
    | _ => simp only [e] at h; exact h.elim
theorem s_toW {e : Expr} {m : Env → Store → Res T} (h : PE X e (tE d W m)) : PE X e (tW d W m) :=
  PE_imp h fun σ H Q ⟨G, r, S, RS, RE, q⟩ => ⟨G, r, S, RS, RE, q.imp fun a S G' b H' _ s R1 k r => k G' b H' s R1 (.inl r)⟩
/-! ### constants -/
theorem s_const {e : Expr} {v : V} {t : T} (h : PE X e (tC v)) (hr : ∀ G, RepV d G t v) : PE X e (tE d W fun _ S => .ok t S) :=
  PE_imp h fun σ H Q ⟨G, r, S, RS, RE, q⟩ => q G v H (Step.refl G H) RS (hr G)
/-! ### argument lists -/
theorem s_nil : PA X [] (tAs d W fun _ S => .ok [] S) := PA_imp pa_nil fun σ H Q ⟨G, r, S, RS, RE, q⟩ => q G [] H (Step.refl G H) RS True.intro
theorem s_cons {e : Expr} {es : List Expr} {m : Env → Store → Res T} {k : Env → Store → Res (List T)} (he : PE X e (tE d W m)) (hs : PA X es (tAs d W k)) (hst : starEach (e :: es) X.env = (false, eval e X.env) :: starEach es X.env) :
    PA X (e :: es) (tAs d W fun r S => (m r S).bind fun x S => (k r S).bind fun xs S => .ok (x :: xs) S) := by
  refine PA_imp (pa_cons he hs hst) fun σ H Q ⟨G, r, S, RS, RE, q⟩ => ?_
  exact ⟨G, r, S, RS, RE, q.bind fun x S1 G1 v H1 s1 R1 rv h1 => ⟨G1, r, S1, R1, RE.step s1, h1.bind fun xs S2 G2 vs H2 s2 R2 rvs h2 => h2 G2 (v :: vs) H2 (Step.refl _ _) R2 ⟨RepV.le s2.le x rv, rvs⟩⟩⟩
theorem s_nilW : PA X [] (tWs d W fun _ S => .ok [] S) := PA_imp pa_nil fun σ H Q ⟨G, r, S, RS, RE, q⟩ => q G [] H (Step.refl G H) RS True.intro
theorem s_consW {e : Expr} {es : List Expr} {m : Env → Store → Res T} {k : Env → Store → Res (List T)} (he : PE X e (tW d W m)) (hs : PA X es (tWs d W k)) (hst : starEach (e :: es) X.env = (false, eval e X.env) :: starEach es X.env) :
    PA X (e :: es) (tWs d W fun r S => (m r S).bind fun x S => (k r S).bind fun xs S => .ok (x :: xs) S) := by
  refine PA_imp (pa_cons he hs hst) fun σ H Q ⟨G, r, S, RS, RE, q⟩ => ?_
  exact ⟨G, r, S, RS, RE, q.bind fun x S1 G1 v H1 s1 R1 rv h1 => ⟨G1, r, S1, R1, RE.step s1, h1.bind fun xs S2 G2 vs H2 s2 R2 rvs h2 => h2 G2 (v :: vs) H2 (Step.refl _ _) R2 ⟨RepW.le s2.le rv, rvs⟩⟩⟩
/-! ### new things -/
/-- a new tuple's place -/
theorem new_tup {G : Gh} {S : Store} {H : Hp} {xs : List T} {vs : List V} (R : RepS d G S H) (z : vs.length ≤ sizeLine) (r : RepAll d G xs vs) {p : Addr} (hp : H p = none) :
    Step G (G.add p (.tup vs)) H (upd H p (.tup vs)) ∧ RepS d (G.add p (.tup vs)) S (upd H p (.tup vs)) ∧ RepV d (G.add p (.tup vs)) (.tup xs) (.ref p) := by
  have st : Step G (G.add p (.tup vs)) H (upd H p (.tup vs)) := Step.add R hp
  exact ⟨st, R.add hp, p, vs, rfl, SqT.of upd_same, z, RepAll.le st.le xs r⟩
theorem new_lst {G : Gh} {S : Store} {H : Hp} {xs : List T} {vs : List V} (R : RepS d G S H) (z : vs.length ≤ sizeLine) (r : RepAll d G xs vs) {p : Addr} (hp : H p = none) :
    Step G G H (upd H p (.lst vs)) ∧ RepS d G S (upd H p (.lst vs)) ∧ NewL d G H (upd H p (.lst vs)) xs (.ref p) := by
  refine ⟨Step.lay hp, R.lay hp, p, vs, rfl, upd_same, z, r, ?_, fun q => ?_, hp⟩
  · cases q : G.I p with
    | none => rfl
    | some o =>
      have := R.imm _ _ q
      rw [hp] at this; cases this
  · obtain ⟨vs, e⟩ := R.le_cell q
    rw [hp] at e; cases e
theorem Step.none {G G' : Gh} {H H' : Hp} (s : Step G G' H H') {p : Addr} (h : H' p = none) : H p = none := by
  cases q : H p with
  | none => rfl
  | some o => exact absurd h (s.there p (by rw [q]; simp))
theorem NewL.from {G G1 : Gh} {H H1 H2 : Hp} {xs : List T} {v : V} (s : Step G G1 H H1) (n : NewL d G1 H1 H2 xs v) : NewL d G1 H H2 xs v := by
  obtain ⟨a, vs, e, h1, z, r, h2, h3, h4⟩ := n
  exact ⟨a, vs, e, h1, z, r, h2, h3, s.none h4⟩
/-- a list of one's own is frozen -/
theorem freeze {G G' : Gh} {S : Store} {H H' : Hp} {a : Addr} {vs : List V} {xs : List T} (s : Step G G' H H') (R : RepS d G' S H') (h : H' a = some (.lst vs)) (z : vs.length ≤ sizeLine) (r : RepAll d G' xs vs) (hI : G'.I a = none) (hm : a ∉ G'.mu) (h0 : H a = none) :
    Step G (G'.add a (.lst vs)) H H' ∧ RepS d (G'.add a (.lst vs)) S H' ∧ RepV d (G'.add a (.lst vs)) (.lst xs) (.ref a) := by
  have le : Le G' (G'.add a (.lst vs)) := ⟨fun b o e => by
    show upd G'.I a _ b = _
    rw [upd_ne (fun q => by rw [q, hI] at e; cases e)]; exact e, [], by simp [Gh.add]⟩
  refine ⟨⟨s.le.trans le, fun b hb k => ?_, s.mu, s.keep, s.there⟩, ⟨fun b o e => ?_, R.len, fun n ys e => ?_, R.inj, fun b hb => ?_⟩, a, vs, rfl, .inl upd_same, z, RepAll.le le xs r⟩
  · by_cases q : b = a
    · rw [q]; exact h0
    · refine s.new b hb fun e => k ?_
      show upd G'.I a _ b = none
      rw [upd_ne q]; exact e
  · have e' : upd G'.I a (.lst vs) b = some o := e
    by_cases q : b = a
    · rw [q, upd_same] at e'
      rw [q, h, ← Option.some.inj e']
    · rw [upd_ne q] at e'; exact R.imm b o e'
  · obtain ⟨b, ws, h1, h2, z2, h3⟩ := R.cell n ys e
    exact ⟨b, ws, h1, h2, z2, RepAll.le le ys h3⟩
  · show upd G'.I a _ b = none
    rw [upd_ne (fun q => by rw [q] at hb; exact hm hb)]; exact R.off b hb
theorem s_ofNew {e : Expr} {m : Env → Store → Res T} (h : PE X e (tN d W m)) : PE X e (tE d W m) :=
  PE_imp h fun σ H Q ⟨G, r, S, RS, RE, q⟩ => ⟨G, r, S, RS, RE, q.imp fun t S G' b H' _ s R1 k ⟨xs, e, a, vs, e2, h1, z, r, h2, h3, h4⟩ => by
    subst e e2
    obtain ⟨s', R', v'⟩ := freeze s R1 h1 z r h2 h3 h4
    exact k _ _ _ s' R' v'⟩
/-! ### displays -/
theorem s_tup {es : List Expr} {k : Env → Store → Res (List T)} {x1 : Nat} {pos : Pos} (h : PA X es (tAs d W k)) (hl : es.length ≤ sizeLine) (hk : ∀ r S xs S', k r S = .ok xs S' → xs.length = es.length) :
    PE X (.Tuple es x1 pos) (tE d W fun r S => (k r S).bind fun xs S => .ok (.tup xs) S) := by
  refine PE_imp (pe_tup h) fun σ H Q ⟨G, r, S, RS, RE, q⟩ => ⟨G, r, S, RS, RE, q.bind0 fun xs S1 e q1 G1 vs H1 s1 R1 rv => ?_⟩
  have z : vs.length ≤ sizeLine := by rw [← rv.length, hk r S xs S1 e]; exact hl
  refine ⟨z, fun p hp => ?_⟩
  obtain ⟨s2, R2, v2⟩ := new_tup R1 z rv hp
  exact q1 _ _ _ (s1.trans s2) R2 v2
theorem s_disp {es : List Expr} {k : Env → Store → Res (List T)} {pos : Pos} (h : PA X es (tAs d W k)) (hl : es.length ≤ sizeLine) (hk : ∀ r S xs S', k r S = .ok xs S' → xs.length = es.length) :
    PE X (.List es pos) (tN d W fun r S => (k r S).bind fun xs S => .ok (.lst xs) S) := by
  refine PE_imp (pe_lst h) fun σ H Q ⟨G, r, S, RS, RE, q⟩ => ⟨G, r, S, RS, RE, q.bind0 fun xs S1 e q1 G1 vs H1 s1 R1 rv => ?_⟩
  have z : vs.length ≤ sizeLine := by rw [← rv.length, hk r S xs S1 e]; exact hl
  refine ⟨z, fun p hp => ?_⟩
  obtain ⟨s2, R2, v2⟩ := new_lst R1 z rv hp
  exact q1 _ _ _ (s1.trans s2) R2 ⟨xs, rfl, v2.from s1⟩
/-- a new list as a cell -/
theorem s_cell {e : Expr} {m : Env → Store → Res T} (h : PE X e (tN d W m)) : PE X e (tE d W fun r S => (m r S).bind fun x S => match x with
    | .lst xs => .ok (.ref S.length) (S ++ [.lst xs])
    | _ => .bad) := by
  refine PE_imp h fun σ H Q ⟨G, r, S, RS, RE, q⟩ => ⟨G, r, S, RS, RE, q.bind0 fun t S1 _ q1 G1 v H1 s1 R1 ⟨xs, e, a, vs, e2, h1, z, ra, h2, h3, h4⟩ => ?_⟩
  subst e e2
  have le : Le G1 ⟨G1.I, G1.mu ++ [a]⟩ := ⟨fun _ _ e => e, [a], rfl⟩
  refine q1 ⟨G1.I, G1.mu ++ [a]⟩ (.ref a) H1 ⟨s1.le.trans le, s1.new, fun b hb k => ?_, s1.keep, s1.there⟩ ⟨R1.imm, ?_, fun n ys e => ?_, ?_, fun b hb => ?_⟩ ⟨a, rfl, ?_⟩
  · rcases List.mem_append.mp hb with q | q
    · exact s1.mu b q k
    · rw [List.mem_singleton.mp q]; exact h4
  · show (S1 ++ [Cell.lst xs]).length = (G1.mu ++ [a]).length
    rw [List.length_append, List.length_append, R1.len]; rfl
  · by_cases q : n < S1.length
    · rw [List.getElem?_append_left q] at e
      obtain ⟨b, ws, k1, k2, z2, k3⟩ := R1.cell n ys e
      refine ⟨b, ws, ?_, k2, z2, RepAll.le le ys k3⟩
      rw [List.getElem?_append_left (by rw [← R1.len]; exact q)]; exact k1
    · rw [List.getElem?_append_right (Nat.le_of_not_lt q)] at e
      have n0 : n - S1.length = 0 := by
        cases q2 : n - S1.length with
        | zero => rfl
        | succ m => rw [q2] at e; simp at e
      rw [n0] at e
      have e' : xs = ys := by simpa using e
      subst e'
      have en : n = S1.length := by omega
      refine ⟨a, vs, ?_, h1, z, RepAll.le le xs ra⟩
      rw [en, R1.len, List.getElem?_append_right (Nat.le_refl _)]; simp
  · show (G1.mu ++ [a]).Nodup
    rw [List.nodup_append]
    exact ⟨R1.inj, by simp, fun b hb c hc => by rw [List.mem_singleton.mp hc]; exact fun q => h3 (q ▸ hb)⟩
  · rcases List.mem_append.mp hb with q | q
    · exact R1.off b q
    · rw [List.mem_singleton.mp q]; exact h2
  · show (G1.mu ++ [a])[S1.length]? = some a
    rw [R1.len, List.getElem?_append_right (Nat.le_refl _)]; simp
end
end Hf
end

section
set_option Elab.async false
set_option linter.all false
set_option maxRecDepth 100000
/-! HfS1: operators, comparisons, tests. -/
namespace Hf
open PySem PySem.Spec PyProof.Rows L2

theorem pys_map : ∀ xs : List T, T.pys xs = xs.map T.py
  | [] => rfl
  | x :: xs => by rw [T.pys, pys_map xs]; rfl
mutual
theorem py_depth : ∀ t : T, t.data = true → t.py.depth = t.depth
  | .non, _ => rfl
  | .bl _, _ => rfl
  | .int _, _ => rfl
  | .str _, _ => rfl
  | .tup xs, h => by
    have h' : T.dataAll xs = true := h
    simp only [T.py, PyData.depth, T.depth, pys_depth xs h']
  | .lst xs, h => by
    have h' : T.dataAll xs = true := h
    simp only [T.py, PyData.depth, T.depth, pys_depth xs h']
  | .dic _, h => by cases h
  | .ref _, h => by cases h
  | .fn _, h => by cases h
  | .ins _ _, h => by cases h
theorem pys_depth : ∀ xs : List T, T.dataAll xs = true → PyData.depthAll (T.pys xs) = T.depthAll xs
  | [], _ => rfl
  | x :: xs, h => by
    have h' : x.data = true ∧ T.dataAll xs = true := by simpa [T.dataAll] using h
    simp only [T.pys, PyData.depthAll, T.depthAll, py_depth x h'.1, pys_depth xs h'.2]
end
theorem sk_inj {a b : List Nat} : (sk a == sk b) = (a == b) := SX.S_beq a b
mutual
theorem py_eqv : ∀ s t : T, s.data = true → t.data = true → PyData.eqv s.py t.py = T.eqv s t
  | .non, t, _, h => by cases t <;> first | rfl | cases h | simp [T.py, PyData.eqv, T.eqv]
  | .bl _, t, _, h => by cases t <;> first | rfl | cases h | simp [T.py, PyData.eqv, T.eqv, b2i]
  | .int _, t, _, h => by cases t <;> first | rfl | cases h | simp [T.py, PyData.eqv, T.eqv, b2i]
  | .str a, t, _, h => by
    cases t <;> first | rfl | cases h | skip
    simp only [T.py, PyData.eqv, T.eqv, sk_inj]
  | .tup xs, t, h1, h => by
    cases t <;> first | rfl | cases h | skip
    simp only [T.py, PyData.eqv, T.eqv]
    exact pys_eqv xs _ (by simpa [T.data] using h1) (by simpa [T.data] using h)
  | .lst xs, t, h1, h => by
    cases t <;> first | rfl | cases h | skip
    simp only [T.py, PyData.eqv, T.eqv]
    exact pys_eqv xs _ (by simpa [T.data] using h1) (by simpa [T.data] using h)
  | .dic _, _, h, _ => by cases h
  | .ref _, _, h, _ => by cases h
  | .fn _, _, h, _ => by cases h
  | .ins _ _, _, h, _ => by cases h
theorem pys_eqv : ∀ xs ys : List T, T.dataAll xs = true → T.dataAll ys = true → PyData.eqvAll (T.pys xs) (T.pys ys) = T.eqvAll xs ys
  | [], [], _, _ => rfl
  | [], _ :: _, _, _ => rfl
  | _ :: _, [], _, _ => rfl
  | x :: xs, y :: ys, h1, h2 => by
    have h1' : x.data = true ∧ T.dataAll xs = true := by simpa [T.dataAll] using h1
    have h2' : y.data = true ∧ T.dataAll ys = true := by simpa [T.dataAll] using h2
    simp only [T.pys, PyData.eqvAll, T.eqvAll, py_eqv x y h1'.1 h2'.1, pys_eqv xs ys h1'.2 h2'.2]
end
section
variable {d : D} {G : Gh} {S : Store} {H : Hp}
mutual
theorem rep_dp (R : RepS d G S H) : ∀ (t : T) {v : V}, t.data = true → RepV d G t v → Dp d.K H v t.py
  | .non, _, _, r => by cases r; exact .non
  | .bl b, _, _, r => by cases r; exact .bl b
  | .int i, _, _, r => by cases r; exact .int i
  | .str s, _, _, r => by obtain ⟨rfl, _⟩ := r; exact .str _
  | .tup xs, _, h, r => by
    obtain ⟨a, vs, rfl, q, _, r⟩ := r
    exact .tup (R.sqT q) (rep_dps R xs (by simpa [T.data] using h) r)
  | .lst xs, _, h, r => by
    obtain ⟨a, vs, rfl, q, _, r⟩ := r
    exact .lst (.inl (Rd.imm R q)) (rep_dps R xs (by simpa [T.data] using h) r)
  | .dic _, _, h, _ => by cases h
  | .ref _, _, h, _ => by cases h
  | .fn _, _, h, _ => by cases h
  | .ins _ _, _, h, _ => by cases h
theorem rep_dps (R : RepS d G S H) : ∀ (xs : List T) {vs : List V}, T.dataAll xs = true → RepAll d G xs vs → DpAll d.K H vs (T.pys xs)
  | [], [], _, _ => .nil
  | [], _ :: _, _, r => r.elim
  | _ :: _, [], _, r => r.elim
  | x :: xs, v :: vs, h, r => by
    have h' : x.data = true ∧ T.dataAll xs = true := by simpa [T.dataAll] using h
    exact .cons (rep_dp R x h'.1 r.1) (rep_dps R xs h'.2 r.2)
end
theorem rd_dp (R : RepS d G S H) {t : T} {v : V} (h : t.data = true) (r : RdV d G H t v) : Dp d.K H v t.py := by
  cases t with
  | lst xs =>
    obtain ⟨a, vs, rfl, q, _, r⟩ := r
    exact .lst (.inl q) (rep_dps R xs (by simpa [T.data] using h) r)
  | ins _ _ => cases h
  | _ => exact rep_dp R _ h r
mutual
theorem rep_lay : ∀ (t : T) {v : V}, RepV d G t v → t.data = true → t.py.canLay0 = true
  | .non, _, _, _ => rfl
  | .bl _, _, _, _ => rfl
  | .int _, _, _, _ => rfl
  | .str s, _, r, _ => by
    obtain ⟨_, _, h⟩ := r
    show (sk s).cps.all (· < 0x110000) = true
    simpa using h
  | .tup xs, _, r, h => by
    obtain ⟨a, vs, _, _, _, r⟩ := r
    simp only [T.py, PyData.canLay0]
    exact reps_lay xs r (by simpa [T.data] using h)
  | .lst xs, _, r, h => by
    obtain ⟨a, vs, _, _, _, r⟩ := r
    simp only [T.py, PyData.canLay0]
    exact reps_lay xs r (by simpa [T.data] using h)
  | .dic _, _, _, h => by cases h
  | .ref _, _, _, h => by cases h
  | .fn _, _, _, h => by cases h
  | .ins _ _, _, _, h => by cases h
theorem reps_lay : ∀ (xs : List T) {vs : List V}, RepAll d G xs vs → T.dataAll xs = true → PyData.canLayAll0 (T.pys xs) = true
  | [], [], _, _ => rfl
  | [], _ :: _, r, _ => r.elim
  | _ :: _, [], r, _ => r.elim
  | x :: xs, v :: vs, r, h => by
    have h' : x.data = true ∧ T.dataAll xs = true := by simpa [T.dataAll] using h
    simp only [T.pys, PyData.canLayAll0, rep_lay x r.1 h'.1, reps_lay xs r.2 h'.2, Bool.and_self]
end
theorem rd_lay {t : T} {v : V} (r : RdV d G H t v) (h : t.data = true) : t.py.canLay0 = true := by
  cases t with
  | lst xs =>
    obtain ⟨a, vs, _, _, _, r⟩ := r
    simp only [T.py, PyData.canLay0]
    exact reps_lay xs r (by simpa [T.data] using h)
  | ins _ _ => cases h
  | _ => exact rep_lay (d := d) (G := G) _ r h
end

/-! ### == -/
section
variable {X : Cx}
def rEqR (K : PySem.W.Frag) (neg : Bool) : R2 := fun x y H Q => ∃ d e, Dp K H x d ∧ Dp K H y e ∧ d.canLay0 = true ∧ e.canLay0 = true ∧ min d.depth e.depth ≤ 60 ∧ Q (.bl (PyData.eqv d e != neg)) H
theorem op_eqR (hu : X.A.units + 64 < cLine) : OpR X (compareOp .Eq) (rEqR X.K false) := by
  intro pins s σ H x y v u Q I rx ry h
  obtain ⟨d, e, hd, he, ld, le, hm, q⟩ := h
  obtain ⟨as, r1⟩ := Dp.reads I d x v hd rx
  obtain ⟨bs, r2⟩ := Dp.reads I e y u he ry
  exact SeqAt.compareEq_reads r1 r2 ld le (by omega) ⟨.bl _, H, I, rfl, by simpa using q⟩
theorem op_neR (hu : X.A.units + 64 < cLine) : OpR X (compareOp .NotEq) (rEqR X.K true) := by
  intro pins s σ H x y v u Q I rx ry h
  obtain ⟨d, e, hd, he, ld, le, hm, q⟩ := h
  obtain ⟨as, r1⟩ := Dp.reads I d x v hd rx
  obtain ⟨bs, r2⟩ := Dp.reads I e y u he ry
  exact SeqAt.compareNe_reads r1 r2 ld le (by omega) ⟨.bl _, H, I, rfl, by simpa using q⟩
def rInR (K : PySem.W.Frag) (neg : Bool) : R2 := fun x y H Q => ∃ d ds, Dp K H x d ∧ (Dp K H y (.list ds) ∨ Dp K H y (.tuple ds)) ∧ d.canLay0 = true ∧ PyData.canLayAll0 ds = true ∧ min (PyData.depthAll ds) d.depth ≤ 60 ∧ Q (.bl ((ds.any fun z => PyData.eqv z d) != neg)) H
theorem op_inR (hu : X.A.units + 64 < cLine) : OpR X (compareOp .In) (rInR X.K false) := by
  intro pins s σ H x y v u Q I rx ry h
  obtain ⟨d, ds, hd, he, ld, le, hm, q⟩ := h
  obtain ⟨as, r1⟩ := Dp.reads I d x v hd rx
  rcases he with he | he
  · obtain ⟨bs, r2⟩ := Dp.reads I (.list ds) y u he ry
    exact SeqAt.in_list_reads r2 r1 le ld (by omega) ⟨.bl _, H, I, rfl, by simpa using q⟩
  · obtain ⟨bs, r2⟩ := Dp.reads I (.tuple ds) y u he ry
    exact SeqAt.in_tuple_reads r2 r1 le ld (by omega) ⟨.bl _, H, I, rfl, by simpa using q⟩
theorem op_notInR (hu : X.A.units + 64 < cLine) : OpR X (compareOp .NotIn) (rInR X.K true) := by
  intro pins s σ H x y v u Q I rx ry h
  obtain ⟨d, ds, hd, he, ld, le, hm, q⟩ := h
  obtain ⟨as, r1⟩ := Dp.reads I d x v hd rx
  rcases he with he | he
  · obtain ⟨bs, r2⟩ := Dp.reads I (.list ds) y u he ry
    exact SeqAt.notIn_list_reads r2 r1 le ld (by omega) ⟨.bl _, H, I, rfl, by simpa using q⟩
  · obtain ⟨bs, r2⟩ := Dp.reads I (.tuple ds) y u he ry
    exact SeqAt.notIn_tuple_reads r2 r1 le ld (by omega) ⟨.bl _, H, I, rfl, by simpa using q⟩
end
end Hf
end

section
set_option Elab.async false
set_option linter.all false
set_option maxRecDepth 100000
/-! HfS2: operators, comparisons, tests, by trees. -/
namespace Hf
open PySem PySem.Spec PyProof.Rows L2
theorem lim_eq : sizeLim = sizeLine := by rw [sizeLine_eq]; rfl
section
variable {X : Cx} {d : D} {W : WX} {a b c : Expr} {pos : Pos} {ma mb mc : Env → Store → Res T}
theorem s_bin {op : Operator} {r2 : R2} (ho : OpR X (binaryOp op) r2) (f : T → T → Option T)
    (hf : ∀ {G S H x y v w t Q}, RepS d G S H → RepV d G x v → RepV d G y w → f x y = some t → (∀ G' b H', Step G G' H H' → RepS d G' S H' → RepV d G' t b → Q b H') → r2 v w H Q)
    (ha : PE X a (tE d W ma)) (hb : PE X b (tE d W mb)) : PE X (.BinOp a op b pos) (tE d W fun r S => (ma r S).bind fun x S => (mb r S).bind fun y S => Res.of (f x y) S) := by
  refine PE_imp (pe_op ho ha hb) fun σ H Q ⟨G, r, S, RS, RE, q⟩ => ?_
  refine ⟨G, r, S, RS, RE, q.bind fun x S1 G1 v H1 s1 R1 rv h1 => ⟨G1, r, S1, R1, RE.step s1, h1.bind fun y S2 G2 w H2 s2 R2 rw h2 => ?_⟩⟩
  obtain ⟨t, e, k⟩ := h2.ofO
  exact hf R2 (RepV.le s2.le x rv) rw e k
def rAdd (K : PySem.W.Frag) : R2 := fun x y H Q => (∃ i j, x = .int i ∧ y = .int j ∧ Q (.int (i + j)) H) ∨ ((∃ i j, x = .str i ∧ y = .str j ∧ i.length + j.length ≤ sizeLine ∧ Q (.str (i ++ j)) H) ∨ rCatA K x y H Q)
theorem op_addR : OpR X (binaryOp .Add) (rAdd X.K) := OpR.or op_add (OpR.or op_add_str op_catA)
theorem sk_len (s : List Nat) : (sk s).length = s.length := by simp [Str.length]
theorem sk_app (s t : List Nat) : sk s ++ sk t = sk (s ++ t) := SX.S_cat s t
theorem s_add (hK : d.K = X.K) (ha : PE X a (tE d W ma)) (hb : PE X b (tE d W mb)) : PE X (.BinOp a .Add b pos) (tE d W fun r S => (ma r S).bind fun x S => (mb r S).bind fun y S => Res.of (Op2.add.ev x y) S) := by
  refine s_bin op_addR Op2.add.ev (fun {G S H x y v w t Q} R rv rw' e k => ?_) ha hb
  unfold Op2.ev at e
  split at e <;> try contradiction
  · cases e; cases rv; cases rw'
    exact .inl ⟨_, _, rfl, rfl, k G _ H (Step.refl _ _) R rfl⟩
  · split at e <;> try contradiction
    rename_i hl
    cases e
    obtain ⟨rfl, z1, o1⟩ := rv
    obtain ⟨rfl, z2, o2⟩ := rw'
    rw [lim_eq] at hl
    refine .inr (.inl ⟨_, _, rfl, rfl, by rw [sk_len, sk_len]; exact hl, ?_⟩)
    rw [sk_app]
    exact k G _ H (Step.refl _ _) R ⟨rfl, by rw [List.length_append]; exact hl, by rw [List.all_append, o1, o2]; rfl⟩
  · split at e <;> try contradiction
    rename_i xs ys _ hl
    cases e
    obtain ⟨p, vs, rfl, q1, z1, r1⟩ := rv
    obtain ⟨p2, ws, rfl, q2, z2, r2⟩ := rw'
    rw [lim_eq] at hl
    have l1 := r1.length
    have l2 := r2.length
    have hl2 : vs.length + ws.length ≤ sizeLine := by omega
    refine .inr (.inr ⟨p, p2, vs, ws, rfl, rfl, hK ▸ R.sqT q1, hK ▸ R.sqT q2, hl2, fun e => ?_, fun _ e => ?_, fun _ _ n hn => ?_⟩)
    · subst e
      have : xs = [] := List.length_eq_zero_iff.mp (by simpa using l1)
      subst this
      exact k G _ H (Step.refl _ _) R ⟨p2, ws, rfl, q2, z2, r2⟩
    · subst e
      have : ys = [] := List.length_eq_zero_iff.mp (by simpa using l2)
      subst this
      exact k G _ H (Step.refl _ _) R ⟨p, vs, rfl, q1, z1, by rw [List.append_nil]; exact r1⟩
    · obtain ⟨s2, R2, v2⟩ := new_tup (xs := xs ++ ys) R (by rw [List.length_append]; exact hl2) (r1.append r2) hn
      exact k _ _ _ s2 R2 v2
theorem s_sub2 (ha : PE X a (tE d W ma)) (hb : PE X b (tE d W mb)) : PE X (.BinOp a .Sub b pos) (tE d W fun r S => (ma r S).bind fun x S => (mb r S).bind fun y S => Res.of (Op2.sub.ev x y) S) := by
  refine s_bin op_sub Op2.sub.ev (fun {G S H x y v w t Q} R rv rw' e k => ?_) ha hb
  unfold Op2.ev at e
  split at e <;> try contradiction
  cases e; cases rv; cases rw'
  exact ⟨_, _, rfl, rfl, k G _ H (Step.refl _ _) R rfl⟩
theorem s_mod (ha : PE X a (tE d W ma)) (hb : PE X b (tE d W mb)) : PE X (.BinOp a .Mod b pos) (tE d W fun r S => (ma r S).bind fun x S => (mb r S).bind fun y S => Res.of (Op2.mod.ev x y) S) := by
  refine s_bin op_mod Op2.mod.ev (fun {G S H x y v w t Q} R rv rw' e k => ?_) ha hb
  unfold Op2.ev at e
  split at e <;> try contradiction
  split at e <;> try contradiction
  rename_i h
  cases e; cases rv; cases rw'
  exact ⟨_, _, rfl, rfl, h, k G _ H (Step.refl _ _) R rfl⟩
theorem s_fdiv (ha : PE X a (tE d W ma)) (hb : PE X b (tE d W mb)) : PE X (.BinOp a .FloorDiv b pos) (tE d W fun r S => (ma r S).bind fun x S => (mb r S).bind fun y S => Res.of (Op2.fdiv.ev x y) S) := by
  refine s_bin op_fdiv Op2.fdiv.ev (fun {G S H x y v w t Q} R rv rw' e k => ?_) ha hb
  unfold Op2.ev at e
  split at e <;> try contradiction
  split at e <;> try contradiction
  rename_i h
  cases e; cases rv; cases rw'
  exact ⟨_, _, rfl, rfl, h, k G _ H (Step.refl _ _) R rfl⟩
theorem s_mul (hK : d.K = X.K) (ha : PE X a (tE d W ma)) (hb : PE X b (tE d W mb)) : PE X (.BinOp a .Mult b pos) (tE d W fun r S => (ma r S).bind fun x S => (mb r S).bind fun y S => Res.of (Op2.mul.ev x y) S) := by
  refine s_bin (OpR.or op_mul op_repT) Op2.mul.ev (fun {G S H x y v w t Q} R rv rw' e k => ?_) ha hb
  unfold Op2.ev at e
  split at e <;> try contradiction
  · split at e <;> try contradiction
    rename_i h
    cases e; cases rv; cases rw'
    exact .inl ⟨_, _, rfl, rfl, h.elim (fun q => .inr q) fun q => .inl q, k G _ H (Step.refl _ _) R rfl⟩
  · split at e <;> try contradiction
    rename_i xs n _ h
    cases e; cases rw'
    obtain ⟨p, vs, rfl, q1, z1, r1⟩ := rv
    have l1 := r1.length
    obtain ⟨h1, h2, h3, h4⟩ := h
    refine .inr ⟨p, n, vs, rfl, rfl, hK ▸ R.sqT q1, fun e => h1 (List.length_eq_zero_iff.mp (by rw [l1, e]; rfl)), h2, h3, by omega, fun q hq => ?_⟩
    have hz : (List.replicate n.toNat vs).flatten.length ≤ sizeLine := by
      rw [List.length_flatten, List.map_replicate, List.sum_replicate_nat, sizeLine_eq]
      have : n.toNat ≤ 1000 := by omega
      calc n.toNat * vs.length ≤ 1000 * 1000 := Nat.mul_le_mul this (by omega)
        _ ≤ _ := by decide
    obtain ⟨s2, R2, v2⟩ := new_tup (xs := (List.replicate n.toNat xs).flatten) R hz (r1.replicate _) hq
    exact k _ _ _ s2 R2 v2
theorem s_neg (ha : PE X a (tE d W ma)) : PE X (.UnaryOp .USub a pos) (tE d W fun r S => (ma r S).bind fun x S => asI x S fun i S => .ok (.int (-i)) S) := by
  refine PE_imp (pe_un un_neg ha) fun σ H Q ⟨G, r, S, RS, RE, q⟩ => ?_
  refine ⟨G, r, S, RS, RE, q.bind fun x S1 G1 v H1 s1 R1 rv h1 => ?_⟩
  cases x <;> try exact h1.elim
  cases rv
  exact ⟨_, rfl, h1 G1 _ H1 (Step.refl _ _) R1 rfl⟩

/-! ### comparisons -/
theorem isin_flat {xs : List T} {x : T} : T.pys xs = xs.map T.py := pys_map xs
theorem any_py : ∀ {xs : List T} {x : T}, T.dataAll xs = true → x.data = true → ((T.pys xs).any fun z => PyData.eqv z x.py) = xs.any fun y => T.eqv y x
  | [], _, _, _ => rfl
  | y :: xs, x, h, hx => by
    have h' : y.data = true ∧ T.dataAll xs = true := by simpa [T.dataAll] using h
    rw [T.pys, List.any_cons, List.any_cons, py_eqv y x h'.1 hx, any_py h'.2 hx]
theorem op_in_signR : OpR X (compareOp .In) (fun x y H Q => ∃ (i : Nat) (j : List Nat), x = .str (sk [i]) ∧ y = .str (sk j) ∧ Q (.bl (j.contains i)) H) := by
  intro pins s σ H x y v u Q I rx ry h
  obtain ⟨i, j, rfl, rfl, q⟩ := h
  refine op_in_str pins s σ H _ _ v u Q I rx ry ⟨_, _, rfl, rfl, ?_⟩
  rw [SX.in_one]
  simpa using q
theorem op_notin_signR : OpR X (compareOp .NotIn) (fun x y H Q => ∃ (i : Nat) (j : List Nat), x = .str (sk [i]) ∧ y = .str (sk j) ∧ Q (.bl (!j.contains i)) H) := by
  intro pins s σ H x y v u Q I rx ry h
  obtain ⟨i, j, rfl, rfl, q⟩ := h
  refine op_notin_str pins s σ H _ _ v u Q I rx ry ⟨_, _, rfl, rfl, ?_⟩
  rw [SX.in_one]
  simpa using q
end
end Hf
end

section
set_option Elab.async false
set_option linter.all false
set_option maxRecDepth 100000
/-! HfS3: comparisons and tests by trees. -/
namespace Hf
open PySem PySem.Spec PyProof.Rows L2
section
variable {X : Cx}
/-! ### rules -/
def rInD2 (K : PySem.W.Frag) (w : World) (neg : Bool) : R2 := fun x y H Q => ∃ z a o, x = .str z ∧ y = .ref a ∧ ((∃ kvs, H a = some (.dK kvs) ∧ o = (valV kvs (Sum.inr z : Key)).isSome) ∨ ∃ es n r, KDict K w a es n ∧ PySem.W.nsIn K a z = some r ∧ o = r.isSome) ∧ Q (.bl (o != neg)) H
theorem op_inDic (hu : X.A.units + 1 < cLine) : OpR X (compareOp .In) (rInD2 X.K X.w false) := by
  intro pins s σ H x y v u Q I rx ry h
  obtain ⟨z, a, o, rfl, rfl, h, q⟩ := h
  cases ry
  rcases h with ⟨kvs, hd, rfl⟩ | ⟨es, n, r, D, e, rfl⟩
  · exact d_in hu I (DGet.k (k := Sum.inr z) hd) rx fun s3 I3 => ⟨.bl _, H, I3, rfl, by simpa using q⟩
  · exact op_in_kd D pins s σ H (.str z) (.ref a) v _ Q I rx rfl ⟨z, r, rfl, rfl, e, by simpa using q⟩
theorem op_notInDic (hu : X.A.units + 1 < cLine) : OpR X (compareOp .NotIn) (rInD2 X.K X.w true) := by
  intro pins s σ H x y v u Q I rx ry h
  obtain ⟨z, a, o, rfl, rfl, h, q⟩ := h
  cases ry
  rcases h with ⟨kvs, hd, rfl⟩ | ⟨es, n, r, D, e, rfl⟩
  · exact d_notIn hu I (DGet.k (k := Sum.inr z) hd) rx fun s3 I3 => ⟨.bl _, H, I3, rfl, by simpa using q⟩
  · exact op_notIn_kd D pins s σ H (.str z) (.ref a) v _ Q I rx rfl ⟨z, r, rfl, rfl, e, by simpa using q⟩
/-- x is k, k None, True or False -/
theorem plain_of {x k : V} {v u : Value} (hk : k = .non ∨ ∃ b, k = .bl b) (rx : RelV x v) (rk : RelV k u) : plainIs v u = true := by
  rcases hk with rfl | ⟨b, rfl⟩
  · cases rk
    cases x with
    | non => cases rx; rfl
    | bl _ => cases rx; rfl
    | int _ => obtain ⟨t, rfl⟩ := rx; rfl
    | str _ => obtain ⟨t, rfl⟩ := rx; rfl
    | byt _ => obtain ⟨t, rfl⟩ := rx; rfl
    | flt _ => obtain ⟨t, rfl⟩ := rx; rfl
    | ref _ => cases rx; rfl
    | ty _ => cases rx; rfl
  · cases rk
    cases x with
    | non => cases rx; rfl
    | bl _ => cases rx; rfl
    | int _ => obtain ⟨t, rfl⟩ := rx; rfl
    | str _ => obtain ⟨t, rfl⟩ := rx; rfl
    | byt _ => obtain ⟨t, rfl⟩ := rx; rfl
    | flt _ => obtain ⟨t, rfl⟩ := rx; rfl
    | ref _ => cases rx; rfl
    | ty _ => cases rx; rfl
theorem is_dec {x k : V} {v u : Value} (hk : k = .non ∨ ∃ b, k = .bl b) (rx : RelV x v) (rk : RelV k u) : (v == u) = decide (x = k) := by
  by_cases e : x = k
  · subst e
    have : v = u := by
      rcases hk with rfl | ⟨b, rfl⟩ <;> (cases rx; cases rk; rfl)
    rw [this, beq_self_eq_true, decide_eq_true rfl]
  · rw [decide_eq_false e]
    refine beq_eq_false_iff_ne.mpr fun z => e ?_
    subst z
    exact rx.inj rk
def rIs (neg : Bool) : R2 := fun x y H Q => (y = .non ∨ ∃ b, y = .bl b) ∧ Q (.bl (decide (x = y) != neg)) H
theorem op_isR : OpR X (compareOp .Is) (rIs false) := by
  intro pins s σ H x y v u Q I rx ry h
  exact wpAny_is_plain (plain_of h.1 rx ry) ⟨.bl _, H, I, by rw [is_dec h.1 rx ry]; rfl, by simpa using h.2⟩
theorem op_isNotR : OpR X (compareOp .IsNot) (rIs true) := by
  intro pins s σ H x y v u Q I rx ry h
  exact wpAny_isNot_plain (plain_of h.1 rx ry) ⟨.bl _, H, I, by rw [is_dec h.1 rx ry]; rfl, by simpa using h.2⟩
end
def Cmp.ast : Cmp → CmpOp
  | .eq => .Eq | .ne => .NotEq | .lt => .Lt | .le => .LtE | .gt => .Gt | .ge => .GtE | .isin => .In | .notin => .NotIn
/-- what a comparison's rule asks -/
def CmpR (X : Cx) (d : D) (c : Cmp) (r : R2) : Prop := OpR X (compareOp c.ast) r ∧ ∀ {G S H x y v w b Q}, RepS d G S H → RdV d G H x v → RdV d G H y w → c.ev x y = some b → Q (.bl b) H → r v w H Q
section
variable {X : Cx} {d : D}
theorem eqs_some {a b : T} {k : Bool} (h : T.eqs a b = some k) : a.data = true ∧ b.data = true ∧ min a.depth b.depth ≤ 60 ∧ k = T.eqv a b := by
  unfold T.eqs at h
  split at h <;> try contradiction
  rename_i e
  simp only [Bool.and_eq_true, decide_eq_true_eq] at e
  exact ⟨e.1.1, e.1.2, e.2, (Option.some.inj h).symm⟩
theorem rd_nodata {G : Gh} {H : Hp} {t : T} {v : V} : True := True.intro
theorem c_eq (hK : d.K = X.K) (hu : X.A.units + 64 < cLine) : CmpR X d .eq (rEqR X.K false) := by
  refine ⟨op_eqR hu, fun {G S H x y v w b Q} R rx ry e q => ?_⟩
  obtain ⟨d1, d2, dm, rfl⟩ := eqs_some (show T.eqs x y = some b from e)
  refine ⟨x.py, y.py, hK ▸ rd_dp R d1 rx, hK ▸ rd_dp R d2 ry, rd_lay rx d1, rd_lay ry d2, by rw [py_depth x d1, py_depth y d2]; exact dm, ?_⟩
  rw [py_eqv x y d1 d2]
  simpa using q
theorem c_ne (hK : d.K = X.K) (hu : X.A.units + 64 < cLine) : CmpR X d .ne (rEqR X.K true) := by
  refine ⟨op_neR hu, fun {G S H x y v w b Q} R rx ry e q => ?_⟩
  have e : (T.eqs x y).map (!·) = some b := e
  obtain ⟨k, e1, e2⟩ := Option.map_eq_some_iff.mp e
  obtain ⟨d1, d2, dm, rfl⟩ := eqs_some e1
  refine ⟨x.py, y.py, hK ▸ rd_dp R d1 rx, hK ▸ rd_dp R d2 ry, rd_lay rx d1, rd_lay ry d2, by rw [py_depth x d1, py_depth y d2]; exact dm, ?_⟩
  rw [py_eqv x y d1 d2]
  subst e2
  simpa using q
theorem c_lt : CmpR X d .lt (rI0 fun i j => .bl (decide (i < j))) := by
  refine ⟨op_lt, fun {G S H x y v w b Q} R rx ry e q => ?_⟩
  cases x <;> cases y <;> simp only [Cmp.ev] at e <;> try contradiction
  cases e; cases rx; cases ry
  exact ⟨_, _, rfl, rfl, q⟩
theorem c_gt : CmpR X d .gt (rI0 fun i j => .bl (decide (j < i))) := by
  refine ⟨op_gt, fun {G S H x y v w b Q} R rx ry e q => ?_⟩
  cases x <;> cases y <;> simp only [Cmp.ev] at e <;> try contradiction
  cases e; cases rx; cases ry
  exact ⟨_, _, rfl, rfl, q⟩
theorem c_ge : CmpR X d .ge (rI0 fun i j => .bl (decide (j ≤ i))) := by
  refine ⟨op_ge, fun {G S H x y v w b Q} R rx ry e q => ?_⟩
  cases x <;> cases y <;> simp only [Cmp.ev] at e <;> try contradiction
  cases e; cases rx; cases ry
  exact ⟨_, _, rfl, rfl, q⟩
theorem lexLt_iff : ∀ a b : List Nat, lexLt a b = decide (a < b)
  | [], [] => by simp [lexLt]
  | [], _ :: _ => by simp [lexLt]
  | _ :: _, [] => by simp [lexLt]
  | a :: r, b :: s => by
    unfold lexLt
    rw [lexLt_iff r s]
    by_cases h : a < b
    · simp [h, List.cons_lt_cons_iff]
    · by_cases h2 : a = b
      · subst h2; simp [List.cons_lt_cons_iff]
      · simp [h, h2, List.cons_lt_cons_iff]
theorem op_le_strR : OpR X (compareOp .LtE) (fun x y H Q => ∃ i j, x = .str (sk i) ∧ y = .str (sk j) ∧ Q (.bl (!lexLt j i)) H) := by
  intro pins s σ H x y v u Q I rx ry h
  obtain ⟨i, j, rfl, rfl, q⟩ := h
  obtain ⟨t, rfl⟩ := rx
  obtain ⟨t', rfl⟩ := ry
  refine PySem.P.le_str (fin_bl I q ?_)
  rw [lexLt_iff]
theorem c_le : CmpR X d .le (fun x y H Q => rI0 (fun i j => .bl (decide (i ≤ j))) x y H Q ∨ ∃ i j, x = .str (sk i) ∧ y = .str (sk j) ∧ Q (.bl (!lexLt j i)) H) := by
  refine ⟨OpR.or op_le op_le_strR, fun {G S H x y v w b Q} R rx ry e q => ?_⟩
  cases x <;> cases y <;> simp only [Cmp.ev] at e <;> try contradiction
  · cases e; cases rx; cases ry
    exact .inl ⟨_, _, rfl, rfl, q⟩
  · cases e
    obtain ⟨rfl, _⟩ := rx
    obtain ⟨rfl, _⟩ := ry
    exact .inr ⟨_, _, rfl, rfl, q⟩
theorem inItems_some {x : T} {xs : List T} {k : Bool} (h : inItems x xs = some k) : x.data = true ∧ T.dataAll xs = true ∧ min (T.depthAll xs) x.depth ≤ 60 ∧ k = xs.any fun y => T.eqv y x := by
  unfold inItems at h
  split at h <;> try contradiction
  rename_i e
  simp only [Bool.and_eq_true, decide_eq_true_eq] at e
  exact ⟨e.1.1, e.1.2, e.2, (Option.some.inj h).symm⟩
def rInAll (K : PySem.W.Frag) (w : World) (neg : Bool) : R2 := fun x y H Q => rInR K neg x y H Q ∨ ((∃ (i : Nat) (j : List Nat), x = .str (sk [i]) ∧ y = .str (sk j) ∧ Q (.bl (j.contains i != neg)) H) ∨ rInD2 K w neg x y H Q)
theorem op_sgn : OpR X (compareOp .In) (fun x y H Q => ∃ (i : Nat) (j : List Nat), x = .str (sk [i]) ∧ y = .str (sk j) ∧ Q (.bl (j.contains i != false)) H) := fun pins s σ H x y v u Q I rx ry ⟨i, j, e1, e2, q⟩ =>
  op_in_signR pins s σ H x y v u Q I rx ry ⟨i, j, e1, e2, by simpa using q⟩
theorem op_nsgn : OpR X (compareOp .NotIn) (fun x y H Q => ∃ (i : Nat) (j : List Nat), x = .str (sk [i]) ∧ y = .str (sk j) ∧ Q (.bl (j.contains i != true)) H) := fun pins s σ H x y v u Q I rx ry ⟨i, j, e1, e2, q⟩ =>
  op_notin_signR pins s σ H x y v u Q I rx ry ⟨i, j, e1, e2, by simpa using q⟩
theorem dlookV_some : ∀ {kvs : List (T × T)} {vs : List V} {G : Gh}, RepKs d G kvs vs → ∀ z : List Nat, (dlookV (kvs.map (·.1)) vs z).isSome = (dlook kvs z).isSome
  | [], [], _, _, _ => rfl
  | [], _ :: _, _, r, _ => r.elim
  | _ :: _, [], _, r, _ => r.elim
  | (k, x) :: kvs, v :: vs, G, r, z => by
    have ih := dlookV_some r.2 z
    cases k <;> first | exact ih | skip
    rename_i s
    show (if s = z then some v else dlookV (kvs.map (·.1)) vs z).isSome = (if s = z then some x else dlook kvs z).isSome
    split
    · rfl
    · exact ih
theorem isin_ok (hK : d.K = X.K) (hw : d.w = X.w) {neg : Bool} {G : Gh} {S : Store} {H : Hp} {x y : T} {v w : V} {b : Bool} {Q : VK} (R : RepS d G S H) (rx : RdV d G H x v) (ry : RdV d G H y w) (e : T.isin x y = some b) (q : Q (.bl (b != neg)) H) : rInAll X.K X.w neg v w H Q := by
  have lists : ∀ xs, (y = .lst xs ∨ y = .tup xs) → inItems x xs = some b → rInAll X.K X.w neg v w H Q := fun xs hy e => by
    obtain ⟨d1, d2, dm, rfl⟩ := inItems_some e
    refine .inl ⟨x.py, T.pys xs, hK ▸ rd_dp R d1 rx, ?_, rd_lay rx d1, ?_, by rw [pys_depth xs d2, py_depth x d1]; exact dm, ?_⟩
    · rcases hy with rfl | rfl
      · have : Dp d.K H w (T.lst xs).py := rd_dp R (by simpa [T.data] using d2) ry
        rw [hK] at this
        exact .inl this
      · have : Dp d.K H w (T.tup xs).py := rd_dp R (by simpa [T.data] using d2) ry
        rw [hK] at this
        exact .inr this
    · rcases hy with rfl | rfl
      · have := rd_lay ry (by simpa [T.data] using d2)
        simpa [T.py, PyData.canLay0] using this
      · have := rd_lay ry (by simpa [T.data] using d2)
        simpa [T.py, PyData.canLay0] using this
    · rw [any_py d2 d1]; exact q
  unfold T.isin at e
  split at e
  · exact lists _ (.inl rfl) e
  · exact lists _ (.inr rfl) e
  · split at e <;> try contradiction
    split at e <;> try contradiction
    cases e
    obtain ⟨rfl, _⟩ := rx
    obtain ⟨rfl, _⟩ := ry
    exact .inr (.inl ⟨_, _, rfl, rfl, q⟩)
  · split at e <;> try contradiction
    cases e
    obtain ⟨rfl, _⟩ := rx
    obtain ⟨a, vs, rfl, hd, rk⟩ := ry
    refine .inr (.inr ⟨_, a, _, rfl, rfl, ?_, q⟩)
    rw [← dlookV_some rk]
    rcases hd with ⟨kvs, h1, h2⟩ | ⟨es, n, kd, h2⟩
    · exact .inl ⟨kvs, R.imm _ _ h1, by rw [h2]⟩
    · obtain ⟨r, h3, h4⟩ := h2 (by assumption)
      refine .inr ⟨es, n, r, hK ▸ hw ▸ kd, hK ▸ h3, ?_⟩
      revert h4
      generalize dlookV _ _ _ = o
      intro h4
      cases o <;> cases r <;> first | rfl | exact h4.elim
  · cases e
theorem c_in (hK : d.K = X.K) (hw : d.w = X.w) (hu : X.A.units + 64 < cLine) : CmpR X d .isin (rInAll X.K X.w false) :=
  ⟨OpR.or (op_inR hu) (OpR.or op_sgn (op_inDic (by omega))), fun {G S H x y v w b Q} R rx ry e q => isin_ok hK hw R rx ry e (by simpa using q)⟩
theorem c_notin (hK : d.K = X.K) (hw : d.w = X.w) (hu : X.A.units + 64 < cLine) : CmpR X d .notin (rInAll X.K X.w true) := by
  refine ⟨OpR.or (op_notInR hu) (OpR.or op_nsgn (op_notInDic (by omega))), fun {G S H x y v w b Q} R rx ry e q => ?_⟩
  have e : (T.isin x y).map (!·) = some b := e
  obtain ⟨k, e1, e2⟩ := Option.map_eq_some_iff.mp e
  exact isin_ok hK hw R rx ry e1 (by subst e2; simpa using q)
theorem c_all (hK : d.K = X.K) (hw : d.w = X.w) (hu : X.A.units + 64 < cLine) : ∀ c : Cmp, ∃ r, CmpR X d c r
  | .eq => ⟨_, c_eq hK hu⟩
  | .ne => ⟨_, c_ne hK hu⟩
  | .lt => ⟨_, c_lt⟩
  | .le => ⟨_, c_le⟩
  | .gt => ⟨_, c_gt⟩
  | .ge => ⟨_, c_ge⟩
  | .isin => ⟨_, c_in hK hw hu⟩
  | .notin => ⟨_, c_notin hK hw hu⟩
end
end Hf
end

section
set_option Elab.async false
set_option linter.all false
set_option maxRecDepth 100000
/-! HfS4: comparisons, and, or, not, if-expressions: as values and as tests. -/
namespace Hf
open PySem PySem.Spec PyProof.Rows L2
section
variable {X : Cx} {d : D} {W : WX} {a b e : Expr} {pos : Pos} {ma mb mc : Env → Store → Res T}
/-- what a compared pair tells -/
theorem cmp_fin {c : Cmp} {r2 : R2} (hc : CmpR X d c r2) {G : Gh} {r : Env} {S : Store} {σ : L2.St} {H : Hp} {x y : T} {v w : V} {Q : VK} (R : RepS d G S H) (E : RepE d G r σ H) (rx : RepW d G r σ x v) (ry : RepW d G r σ y w)
    (h : Post d W σ (RV d r σ H) G H Q (Res.of ((c.ev (look S x) (look S y)).map .bl) S)) : r2 v w H Q := by
  obtain ⟨t, e, k⟩ := h.ofO
  obtain ⟨b, e1, rfl⟩ := Option.map_eq_some_iff.mp e
  exact hc.2 R (rx.rd R E) (ry.rd R E) e1 (k G _ H (Step.refl _ _) R rfl)
def cmpM (c : Cmp) (ma mb : Env → Store → Res T) : Env → Store → Res T := fun r S => (ma r S).bind fun x S => (mb r S).bind fun y S => Res.of ((c.ev (look S x) (look S y)).map .bl) S
theorem s_cmp {c : Cmp} {r2 : R2} (hc : CmpR X d c r2) (hm : behindInMarks c.ast b = false) (ha : PE X a (tW d W ma)) (hb : PE X b (tW d W mb)) :
    PE X (.Compare a [c.ast] [b] pos) (tE d W (cmpM c ma mb)) := by
  refine PE_imp (pe_cmpR hc.1 ha hb hm) fun σ H Q ⟨G, r, S, RS, RE, q⟩ => ?_
  exact ⟨G, r, S, RS, RE, q.bind fun x S1 G1 v H1 s1 R1 rv h1 => ⟨G1, r, S1, R1, RE.step s1, h1.bind fun y S2 G2 w H2 s2 R2 rw h2 => cmp_fin hc R2 ((RE.step s1).step s2) (RepW.le s2.le rv) rw h2⟩⟩
theorem s_cmpT {c : Cmp} {r2 : R2} (hc : CmpR X d c r2) (hm : behindInMarks c.ast b = false) (ha : PE X a (tW d W ma)) (hb : PE X b (tW d W mb)) :
    PT X (.Compare a [c.ast] [b] pos) (tBo d W (cmpM c ma mb)) := by
  refine PT_imp (pt_cmpR hc.1 ha hb hm) fun σ H Q ⟨G, r, S, RS, RE, q⟩ => ?_
  unfold toB cmpM at q
  refine ⟨G, r, S, RS, RE, ?_⟩
  cases em : ma r S with
  | exn c S1 => rw [em] at q; exact q
  | bad => rw [em] at q; exact q
  | ok x S1 =>
    rw [em] at q
    intro G1 v H1 s1 R1 rv
    refine ⟨G1, r, S1, R1, RE.step s1, ?_⟩
    have q1 := Post.later q s1
    cases em2 : mb r S1 with
    | exn c S1 => simp only [Res.bind, em2] at q1; exact q1
    | bad => simp only [Res.bind, em2] at q1; exact q1
    | ok y S2 =>
      simp only [Res.bind, em2] at q1
      intro G2 w H2 s2 R2 rw
      have q2 := Post.later q1 s2
      cases e : c.ev (look S2 x) (look S2 y) with
      | none => simp only [e, Option.map, Res.of] at q2; exact q2.elim
      | some k =>
        simp only [e, Option.map, Res.of] at q2
        exact hc.2 R2 ((RepW.le s2.le rv).rd R2 ((RE.step s1).step s2)) (rw.rd R2 ((RE.step s1).step s2)) e ⟨k, rfl, q2 G2 k H2 (Step.refl _ _) R2 rfl⟩
def chainM (c c' : Cmp) (ma mb mc : Env → Store → Res T) : Env → Store → Res T := fun r S => (ma r S).bind fun x S => (mb r S).bind fun y S => match c.ev x y with
    | some true => (mc r S).bind fun z S => Res.of ((c'.ev y z).map .bl) S
    | some false => .ok (.bl false) S
    | none => .bad
theorem s_chain {c c' : Cmp} {r2 r2' : R2} (hc : CmpR X d c r2) (hc' : CmpR X d c' r2') (hm : lastMarks [c.ast, c'.ast] [b, e] = false) (ha : PE X a (tE d W ma)) (hb : PE X b (tE d W mb)) (he : PE X e (tE d W mc)) :
    PE X (.Compare a [c.ast, c'.ast] [b, e] pos) (tE d W (chainM c c' ma mb mc)) := by
  refine PE_imp (pe_chain hc.1 hc'.1 ha hb he hm) fun σ H Q ⟨G, r, S, RS, RE, q⟩ => ?_
  refine ⟨G, r, S, RS, RE, q.bind fun x S1 G1 v H1 s1 R1 rv h1 => ⟨G1, r, S1, R1, RE.step s1, h1.bind fun y S2 G2 w H2 s2 R2 rw h2 => ?_⟩⟩
  cases ec : c.ev x y with
  | none => rw [ec] at h2; exact h2.elim
  | some k =>
    rw [ec] at h2
    refine hc.2 R2 (RdV.of R2 x (RepV.le s2.le x rv)) (RdV.of R2 y rw) ec ⟨k, rfl, ?_⟩
    cases k with
    | false => exact iteF (h2 G2 _ H2 (Step.refl _ _) R2 rfl)
    | true =>
      refine iteT ⟨G2, r, S2, R2, (RE.step s1).step s2, h2.bind fun z S3 G3 u H3 s3 R3 ru h3 => ?_⟩
      obtain ⟨t, e1, k⟩ := h3.ofO
      obtain ⟨b', e2, rfl⟩ := Option.map_eq_some_iff.mp e1
      exact hc'.2 R3 (RdV.of R3 y (RepV.le s3.le y rw)) (RdV.of R3 z ru) e2 (k G3 _ H3 (Step.refl _ _) R3 rfl)
theorem s_chainT {c c' : Cmp} {r2 r2' : R2} (hc : CmpR X d c r2) (hc' : CmpR X d c' r2') (hm : lastMarks [c.ast, c'.ast] [b, e] = false) (ha : PE X a (tE d W ma)) (hb : PE X b (tE d W mb)) (he : PE X e (tE d W mc)) :
    PT X (.Compare a [c.ast, c'.ast] [b, e] pos) (tBo d W (chainM c c' ma mb mc)) := by
  refine PT_imp (pt_chain hc.1 hc'.1 ha hb he hm) fun σ H Q ⟨G, r, S, RS, RE, q⟩ => ?_
  unfold toB chainM at q
  refine ⟨G, r, S, RS, RE, ?_⟩
  cases em : ma r S with
  | exn c S1 => rw [em] at q; exact q
  | bad => rw [em] at q; exact q
  | ok x S1 =>
    rw [em] at q
    intro G1 v H1 s1 R1 rv
    refine ⟨G1, r, S1, R1, RE.step s1, ?_⟩
    have q1 := Post.later q s1
    cases em2 : mb r S1 with
    | exn c S1 => simp only [Res.bind, em2] at q1; exact q1
    | bad => simp only [Res.bind, em2] at q1; exact q1
    | ok y S2 =>
      simp only [Res.bind, em2] at q1
      intro G2 w H2 s2 R2 rw
      have q2 := Post.later q1 s2
      cases ec : c.ev x y with
      | none => simp only [ec] at q2; exact q2.elim
      | some k =>
        simp only [ec] at q2
        refine hc.2 R2 (RdV.of R2 x (RepV.le s2.le x rv)) (RdV.of R2 y rw) ec ⟨k, rfl, ?_⟩
        cases k with
        | false => exact iteF ⟨false, rfl, q2 G2 _ H2 (Step.refl _ _) R2 rfl⟩
        | true =>
          refine iteT ⟨G2, r, S2, R2, (RE.step s1).step s2, ?_⟩
          cases em3 : mc r S2 with
          | exn c S1 => simp only [em3] at q2; exact q2
          | bad => simp only [em3] at q2; exact q2
          | ok z S3 =>
            simp only [em3] at q2
            intro G3 u H3 s3 R3 ru
            have q3 := Post.later q2 s3
            cases ec' : c'.ev y z with
            | none => simp only [ec', Option.map, Res.of] at q3; exact q3.elim
            | some k' =>
              simp only [ec', Option.map, Res.of] at q3
              exact hc'.2 R3 (RdV.of R3 y (RepV.le s3.le y rw)) (RdV.of R3 z ru) ec' ⟨k', rfl, q3 G3 _ H3 (Step.refl _ _) R3 rfl⟩
/-! ### is -/
def kV' : T → Option V
  | .non => some .non
  | .bl b => some (.bl b)
  | _ => none
theorem isK_ok {G : Gh} {S : Store} {H : Hp} {x k : T} {v w : V} {c : Bool} (e : x.isK k = some c) (hk : kV' k = some w) (rv : RepV d G x v) : c = decide (v = w) ∧ (w = .non ∨ ∃ b, w = .bl b) := by
  cases k <;> simp only [T.isK] at e <;> try contradiction
  · cases hk; cases e
    refine ⟨?_, .inl rfl⟩
    cases x <;> simp only [RepV] at rv <;> first | (subst rv; rfl) | (obtain ⟨rfl, _⟩ := rv; rfl) | (obtain ⟨_, _, rfl, _⟩ := rv; rfl) | (obtain ⟨_, rfl, _⟩ := rv; rfl) | (obtain ⟨_, _, _, _, rfl, _⟩ := rv; rfl)
  · cases hk; cases e
    refine ⟨?_, .inr ⟨_, rfl⟩⟩
    cases x <;> simp only [RepV] at rv <;> first | (subst rv; first | rfl | (rename_i b c; cases b <;> cases c <;> rfl)) | (obtain ⟨rfl, _⟩ := rv; rfl) | (obtain ⟨_, _, rfl, _⟩ := rv; rfl) | (obtain ⟨_, rfl, _⟩ := rv; rfl) | (obtain ⟨_, _, _, _, rfl, _⟩ := rv; rfl)
def isM (n : Bool) (ma : Env → Store → Res T) (t : T) : Env → Store → Res T := fun r S => (ma r S).bind fun x S => Res.of ((x.isK t).map fun b => .bl (b != n)) S
def isAst (n : Bool) : CmpOp := if n then .IsNot else .Is
theorem s_isK {n : Bool} {t : T} {w : V} (hk : kV' t = some w) (hb : PE X b (tC w)) (ha : PE X a (tE d W ma)) : PE X (.Compare a [isAst n] [b] pos) (tE d W (isM n ma t)) := by
  have ho : OpR X (compareOp (isAst n)) (rIs n) := by cases n; exact op_isR; exact op_isNotR
  refine PE_imp (pe_cmpR ho ha hb (by cases n <;> exact nomark b)) fun σ H Q ⟨G, r, S, RS, RE, q⟩ => ?_
  refine ⟨G, r, S, RS, RE, q.bind fun x S1 G1 v H1 s1 R1 rv h1 => ?_⟩
  obtain ⟨u, e1, k⟩ := h1.ofO
  obtain ⟨c, e2, rfl⟩ := Option.map_eq_some_iff.mp e1
  obtain ⟨rfl, e4⟩ := isK_ok (d := d) (S := S1) (H := H1) e2 hk rv
  exact ⟨e4, k G1 _ H1 (Step.refl _ _) R1 rfl⟩
theorem s_isKT {n : Bool} {t : T} {w : V} (hk : kV' t = some w) (hb : PE X b (tC w)) (ha : PE X a (tE d W ma)) : PT X (.Compare a [isAst n] [b] pos) (tBo d W (isM n ma t)) := by
  have ho : OpR X (compareOp (isAst n)) (rIs n) := by cases n; exact op_isR; exact op_isNotR
  refine PT_imp (pt_cmpR ho ha hb (by cases n <;> exact nomark b)) fun σ H Q ⟨G, r, S, RS, RE, q⟩ => ?_
  unfold toB isM at q
  refine ⟨G, r, S, RS, RE, ?_⟩
  cases em : ma r S with
  | exn c S1 => rw [em] at q; exact q
  | bad => rw [em] at q; exact q
  | ok x S1 =>
    rw [em] at q
    intro G1 v H1 s1 R1 rv
    have q1 := Post.later q s1
    cases ek : x.isK t with
    | none => simp only [Res.bind, ek, Option.map, Res.of] at q1; exact q1.elim
    | some c =>
      simp only [Res.bind, ek, Option.map, Res.of] at q1
      obtain ⟨rfl, e4⟩ := isK_ok (d := d) (S := S1) (H := H1) ek hk rv
      exact ⟨e4, _, rfl, q1 G1 _ H1 (Step.refl _ _) R1 rfl⟩
/-! ### and, or, not -/
def andM (ma mb : Env → Store → Res T) : Env → Store → Res T := fun r S => (ma r S).bind fun x S => asB x S fun c S => if c = true then (mb r S).bind fun y S => asB y S fun d S => .ok (.bl d) S else .ok (.bl false) S
def orM (ma mb : Env → Store → Res T) : Env → Store → Res T := fun r S => (ma r S).bind fun x S => asB x S fun c S => if c = true then .ok (.bl true) S else (mb r S).bind fun y S => asB y S fun d S => .ok (.bl d) S
def notM (ma : Env → Store → Res T) : Env → Store → Res T := fun r S => (ma r S).bind fun x S => asB x S fun c S => .ok (.bl (!c)) S
def ifeM (mc ma mb : Env → Store → Res T) : Env → Store → Res T := fun r S => (mc r S).bind fun x S => asB x S fun c S => if c = true then ma r S else mb r S
theorem boolify {r : Env} {σ : L2.St} {H0 G : _} {H : Hp} {Q : VK} {m : Res T} (h : Post d W σ (RV d r σ H0) G H Q (m.bind fun y S => asB y S fun c S => .ok (.bl c) S)) : Post d W σ (RV d r σ H0) G H Q m := by
  cases m with
  | ok t S => cases t <;> first | exact h | exact h.elim
  | _ => exact h
theorem s_and {rest : List Expr} {tr : Env → Store → Res T} (ha : PE X a (tE d W ma)) (hb : PE X (.BoolOp .And (b :: rest) pos) (tE d W tr)) : PE X (.BoolOp .And (a :: b :: rest) pos) (tE d W (andM ma tr)) := by
  refine PE_imp (pe_and ha hb) fun σ H Q ⟨G, r, S, RS, RE, q⟩ => ?_
  refine ⟨G, r, S, RS, RE, q.bind fun x S1 G1 v H1 s1 R1 rv h1 => ?_⟩
  cases x <;> try exact h1.elim
  rename_i c
  cases rv
  refine ⟨c, rfl, ?_⟩
  cases c with
  | false => exact iteF (h1 G1 _ H1 (Step.refl _ _) R1 rfl)
  | true => exact iteT ⟨G1, r, S1, R1, RE.step s1, boolify h1⟩
theorem s_or {rest : List Expr} {tr : Env → Store → Res T} (ha : PE X a (tE d W ma)) (hb : PE X (.BoolOp .Or (b :: rest) pos) (tE d W tr)) : PE X (.BoolOp .Or (a :: b :: rest) pos) (tE d W (orM ma tr)) := by
  refine PE_imp (pe_or ha hb) fun σ H Q ⟨G, r, S, RS, RE, q⟩ => ?_
  refine ⟨G, r, S, RS, RE, q.bind fun x S1 G1 v H1 s1 R1 rv h1 => ?_⟩
  cases x <;> try exact h1.elim
  rename_i c
  cases rv
  refine ⟨c, rfl, ?_⟩
  cases c with
  | true => exact iteT (h1 G1 _ H1 (Step.refl _ _) R1 rfl)
  | false => exact iteF ⟨G1, r, S1, R1, RE.step s1, boolify h1⟩
theorem s_not (ha : PE X a (tE d W ma)) : PE X (.UnaryOp .Not a pos) (tE d W (notM ma)) := by
  refine PE_imp (pe_not ha) fun σ H Q ⟨G, r, S, RS, RE, q⟩ => ?_
  refine ⟨G, r, S, RS, RE, q.bind fun x S1 G1 v H1 s1 R1 rv h1 => ?_⟩
  cases x <;> try exact h1.elim
  cases rv
  exact ⟨_, rfl, h1 G1 _ H1 (Step.refl _ _) R1 rfl⟩
theorem s_ife (hc : PT X e (tBo d W mc)) (ha : PE X a (tE d W ma)) (hb : PE X b (tE d W mb)) : PE X (.IfExp e a b pos) (tE d W (ifeM mc ma mb)) := by
  refine PE_imp (pe_ifExp hc ha hb) fun σ H Q ⟨G, r, S, RS, RE, q⟩ => ?_
  unfold ifeM at q
  rw [asB_eq] at q
  refine ⟨G, r, S, RS, RE, q.bind fun c S1 G1 v H1 s1 R1 rv h1 => ?_⟩
  subst rv
  cases v with
  | true => exact iteT ⟨G1, r, S1, R1, RE.step s1, h1⟩
  | false => exact iteF ⟨G1, r, S1, R1, RE.step s1, h1⟩
/-- .. as tests -/
theorem toB_and {r : Env} {S : Store} : toB (andM ma mb) r S = (toB ma r S).bind fun c S => if c = true then toB mb r S else .ok false S := by
  unfold toB andM
  cases ma r S with
  | ok t S => cases t <;> try rfl
              rename_i c
              cases c with
              | false => rfl
              | true =>
                show ((mb r S).bind _).bind _ = (mb r S).bind _
                cases mb r S with
                | ok t S => cases t <;> rfl
                | _ => rfl
  | _ => rfl
theorem toB_or {r : Env} {S : Store} : toB (orM ma mb) r S = (toB ma r S).bind fun c S => if c = true then .ok true S else toB mb r S := by
  unfold toB orM
  cases ma r S with
  | ok t S => cases t <;> try rfl
              rename_i c
              cases c with
              | true => rfl
              | false =>
                show ((mb r S).bind _).bind _ = (mb r S).bind _
                cases mb r S with
                | ok t S => cases t <;> rfl
                | _ => rfl
  | _ => rfl
theorem toB_not {r : Env} {S : Store} : toB (notM ma) r S = (toB ma r S).bind fun c S => .ok (!c) S := by
  unfold toB notM
  cases ma r S with
  | ok t S => cases t <;> rfl
  | _ => rfl
theorem s_andT {rest : List Expr} {tr : Env → Store → Res T} (ha : PT X a (tBo d W ma)) (hb : PW X (.BoolOp .And (b :: rest) pos) (tBo d W tr)) : PW X (.BoolOp .And (a :: b :: rest) pos) (tBo d W (andM ma tr)) := by
  refine PW_imp (pw_and ha hb) fun σ H Q ⟨G, r, S, RS, RE, q⟩ => ?_
  rw [toB_and] at q
  refine ⟨G, r, S, RS, RE, q.bind fun c S1 G1 v H1 s1 R1 rv h1 => ?_⟩
  subst rv
  cases v with
  | true => exact iteT ⟨G1, r, S1, R1, RE.step s1, h1⟩
  | false => exact iteF (h1 G1 _ H1 (Step.refl _ _) R1 rfl)
theorem s_orT {rest : List Expr} {tr : Env → Store → Res T} (ha : PT X a (tBo d W ma)) (hb : PW X (.BoolOp .Or (b :: rest) pos) (tBo d W tr)) : PW X (.BoolOp .Or (a :: b :: rest) pos) (tBo d W (orM ma tr)) := by
  refine PW_imp (pw_or ha hb) fun σ H Q ⟨G, r, S, RS, RE, q⟩ => ?_
  rw [toB_or] at q
  refine ⟨G, r, S, RS, RE, q.bind fun c S1 G1 v H1 s1 R1 rv h1 => ?_⟩
  subst rv
  cases v with
  | true => exact iteT (h1 G1 _ H1 (Step.refl _ _) R1 rfl)
  | false => exact iteF ⟨G1, r, S1, R1, RE.step s1, h1⟩
theorem s_notT (ha : PT X a (tBo d W ma)) : PT X (.UnaryOp .Not a pos) (tBo d W (notM ma)) := by
  refine PT_imp (pt_not ha) fun σ H Q ⟨G, r, S, RS, RE, q⟩ => ?_
  rw [toB_not] at q
  refine ⟨G, r, S, RS, RE, q.bind fun c S1 G1 v H1 s1 R1 rv h1 => ?_⟩
  subst rv
  exact h1 G1 _ H1 (Step.refl _ _) R1 rfl
/-- a value as a test -/
theorem s_valT (h : PE X a (tE d W ma)) (he : ∀ whole, isTrue a X.env whole = (do let v ← whole; standAt a.pos; holding [v] (truthy v))) : PT X a (tBo d W ma) := by
  refine PT_imp (pt_val h he) fun σ H Q ⟨G, r, S, RS, RE, q⟩ => ?_
  refine ⟨G, r, S, RS, RE, q.bind fun t S1 G1 v H1 s1 R1 rv h1 => ?_⟩
  cases t <;> try exact h1.elim
  cases rv
  exact ⟨_, rfl, h1 G1 _ H1 (Step.refl _ _) R1 rfl⟩
end
end Hf
end

section
set_option Elab.async false
set_option linter.all false
set_option maxRecDepth 100000
/-! HfS5: subscripts, slices, built-ins by trees. -/
namespace Hf
open PySem PySem.Spec PyProof.Rows L2
theorem ixN_eq : Hf.ixN = L2.ixN := rfl
theorem atI_eq {α : Type} (xs : List α) (i : Int) : Hf.atI xs i = L2.atI xs i := rfl
section
variable {d : D} {G : Gh}
theorem RepAll.atI {xs : List T} {vs : List V} {i : Int} {t : T} (r : RepAll d G xs vs) (e : Hf.atI xs i = some t) : ∃ v, L2.atI vs i = some v ∧ RepV d G t v := by
  unfold Hf.atI at e
  unfold L2.atI
  rw [← r.length, ← ixN_eq]
  cases h : Hf.ixN xs.length i with
  | none => rw [h] at e; cases e
  | some j =>
    rw [h] at e
    exact r.get e
theorem sIx_eq (n k : Nat) (o : Option Int) : Hf.sIx n k o = HT.sIx n k o := by cases o <;> rfl
theorem RepAll.cut {xs : List T} {vs : List V} (r : RepAll d G xs vs) (lo hi : Option Int) : RepAll d G (cutL xs lo hi) (cutV vs lo hi) := by
  unfold cutL cutV
  rw [sIx_eq, sIx_eq, r.length]
  exact (r.drop _).take _
theorem cutV_le (vs : List V) (lo hi : Option Int) : (cutV vs lo hi).length ≤ vs.length := by
  unfold cutV
  rw [List.length_take, List.length_drop]
  omega
end
section
variable {X : Cx} {d : D} {W : WX} {a b e : Expr} {pos p2 : Pos} {ma mb mc : Env → Store → Res T}
/-! ### subscripts -/
theorem ix_or {r r' : R2} (h : IxR X r) (h' : IxR X r') : IxR X (fun x y H Q => r x y H Q ∨ r' x y H Q) := h.or h'
def rIxDk : R2 := fun x y H Q => ∃ z a kvs v, x = .ref a ∧ y = .str z ∧ H a = some (.dK kvs) ∧ valV kvs (Sum.inr z : Key) = some v ∧ Q v H
theorem ix_dk (hu : X.A.units + 1 < cLine) : IxR X rIxDk := by
  intro value slice pins s σ H x y v u Q I rx ry h hs
  obtain ⟨z, p, kvs, v0, rfl, rfl, hd, hv, q⟩ := h
  obtain rfl : v = Value.ref p := rx
  have g : DGet H p (kV (Sum.inr z)) (some v0) := by rw [← hv]; exact DGet.k hd
  exact tail_any (dict_typeIs I g) PySem.F.slot_dict_getitem.lookup (d_getItem hu I g ry fun w' s3 I3 rw' => ⟨v0, H, I3, rw', q⟩) hs
def rIxAll (K : PySem.W.Frag) (w : World) : R2 := fun x y H Q => rIx K x y H Q ∨ (rIxD K w x y H Q ∨ rIxDk x y H Q)
theorem ix_all (hu : X.A.units + 64 < cLine) : IxR X (rIxAll X.K X.w) := ix_seq.or (ix_kdict.or (ix_dk (by omega)))
theorem dlookV_get : ∀ {kvs : List (T × T)} {vs : List V} {z : List Nat} {t : T}, RepKs d G kvs vs → dlook kvs z = some t → ∃ v, dlookV (kvs.map (·.1)) vs z = some v ∧ RepV d G t v
  | [], [], _, _, _, e => by cases e
  | [], _ :: _, _, _, r, _ => r.elim
  | _ :: _, [], _, _, r, _ => r.elim
  | (k, x) :: kvs, v :: vs, z, t, r, e => by
    have ih := fun e => dlookV_get (z := z) (t := t) r.2 e
    cases k <;> first | exact ih e | skip
    rename_i s
    have e' : (if s = z then some x else dlook kvs z) = some t := e
    show ∃ u, (if s = z then some v else dlookV (kvs.map (·.1)) vs z) = some u ∧ _
    split at e'
    · rename_i h
      cases e'
      rw [if_pos h]
      exact ⟨v, rfl, r.1⟩
    · rename_i h
      rw [if_neg h]
      exact ih e'
theorem subI_ok (hK : d.K = X.K) (hw : d.w = X.w) {G : Gh} {S : Store} {H : Hp} {x y t : T} {v w : V} {Q : VK} (R : RepS d G S H) (rx : RdV d G H x v) (ry : RepV d G y w) (e : x.subI y = some t) (k : ∀ b, RepV d G t b → Q b H) : rIxAll X.K X.w v w H Q := by
  unfold T.subI at e
  split at e
  · obtain ⟨p, vs, rfl, q, z, r⟩ := rx
    cases ry
    obtain ⟨u, e1, r1⟩ := r.atI e
    exact .inl (.inl ⟨p, vs, _, u, rfl, rfl, .inl q, e1, k u r1⟩)
  · obtain ⟨p, vs, rfl, q, z, r⟩ := rx
    cases ry
    obtain ⟨u, e1, r1⟩ := r.atI e
    exact .inl (.inr (.inl ⟨p, vs, _, u, rfl, rfl, hK ▸ R.sqT q, e1, k u r1⟩))
  · obtain ⟨rfl, z, o⟩ := rx
    cases ry
    obtain ⟨c, e1, rfl⟩ := Option.map_eq_some_iff.mp e
    refine .inl (.inr (.inr ⟨_, _, c, rfl, rfl, by rw [sk_len]; exact z, e1, k _ ⟨rfl, by rw [sizeLine_eq, List.length_singleton]; decide, ?_⟩⟩))
    unfold Hf.atI at e1
    obtain ⟨j, _, h⟩ := Option.bind_eq_some_iff.mp e1
    simpa using List.all_eq_true.mp o c (List.mem_of_getElem? h)
  · obtain ⟨p, vs, rfl, hd, rk⟩ := rx
    obtain ⟨rfl, z, o⟩ := ry
    obtain ⟨u, e1, r1⟩ := dlookV_get rk e
    rcases hd with ⟨kvs, h1, h2⟩ | ⟨es, n, kd, h2⟩
    · exact .inr (.inr ⟨_, p, kvs, u, rfl, rfl, R.imm _ _ h1, by rw [h2, e1], k u r1⟩)
    · obtain ⟨o, h3, h4⟩ := h2 (by assumption)
      rw [e1] at h4
      cases o with
      | none => exact h4.elim
      | some u0 =>
        exact .inr (.inl ⟨p, _, u, rfl, rfl, ⟨es, n, u0, hK ▸ kd.at_, hw ▸ kd.lit, hK ▸ h3, h4⟩, k u r1⟩)
  · cases e
def subM (ma mb : Env → Store → Res T) : Env → Store → Res T := fun r S => (ma r S).bind fun x S => (mb r S).bind fun y S => Res.of ((look S x).subI y) S
theorem s_sub (hK : d.K = X.K) (hw : d.w = X.w) (hu : X.A.units + 64 < cLine) (hs : PlainIx b) (ha : PE X a (tW d W ma)) (hb : PE X b (tE d W mb)) : PE X (.Subscript a b pos) (tE d W (subM ma mb)) := by
  refine PE_imp (pe_ix (ix_all hu) ha hb hs) fun σ H Q ⟨G, r, S, RS, RE, q⟩ => ?_
  refine ⟨G, r, S, RS, RE, q.bind fun x S1 G1 v H1 s1 R1 rv h1 => ⟨G1, r, S1, R1, RE.step s1, h1.bind fun y S2 G2 w H2 s2 R2 rw h2 => ?_⟩⟩
  obtain ⟨t, e, k⟩ := h2.ofO
  exact subI_ok hK hw R2 ((RepW.le s2.le rv).rd R2 ((RE.step s1).step s2)) rw e fun b rb => k G2 b H2 (Step.refl _ _) R2 rb
/-! ### slices -/
def rSlAll (K : PySem.W.Frag) : V → Option Int → Option Int → Hp → VK → Prop := fun x lo hi H Q => rSlL K x lo hi H Q ∨ (rSlA K x lo hi H Q ∨ rSlS x lo hi H Q)
theorem sl_all : SlR X (rSlAll X.K) := sl_list.or (sl_tupA.or sl_str)
theorem cutS_sk (s : List Nat) (lo hi : Option Int) : cutS (sk s) lo hi = sk (cutL s lo hi) := by
  unfold cutS cutL
  rw [sk_len, sIx_eq, sIx_eq]
theorem cut_ok (hK : d.K = X.K) {G : Gh} {S : Store} {H : Hp} {x t : T} {v : V} {lo hi : Option Int} {Q : VK} (R : RepS d G S H) (rx : RdV d G H x v) (e : x.cut lo hi = some t) (k : ∀ G' b H', Step G G' H H' → RepS d G' S H' → RepV d G' t b → Q b H') : rSlAll X.K v lo hi H Q := by
  cases x <;> simp only [T.cut] at e <;> try contradiction
  · cases e
    obtain ⟨rfl, z, o⟩ := rx
    refine .inr (.inr ⟨_, rfl, by rw [sk_len]; exact z, ?_⟩)
    rw [cutS_sk]
    refine k G _ H (Step.refl _ _) R ⟨rfl, ?_, ?_⟩
    · unfold cutL
      rw [List.length_take, List.length_drop]
      omega
    · rw [List.all_eq_true] at o ⊢
      intro c hc
      exact o c (List.mem_of_mem_drop (List.mem_of_mem_take hc))
  · cases e
    obtain ⟨p, vs, rfl, q, z, r⟩ := rx
    refine .inr (.inl ⟨p, vs, rfl, hK ▸ R.sqT q, fun ⟨h1, h2⟩ => ?_, fun _ n hn => ?_⟩)
    · refine k G _ H (Step.refl _ _) R ⟨p, vs, rfl, q, z, ?_⟩
      have := r.cut lo hi
      rw [show cutV vs lo hi = vs by unfold cutV; rw [h1, h2]; simp] at this
      exact this
    · obtain ⟨s2, R2, v2⟩ := new_tup (xs := cutL _ lo hi) R (Nat.le_trans (cutV_le vs lo hi) z) (r.cut lo hi) hn
      exact k _ _ _ s2 R2 v2
  · cases e
    obtain ⟨p, vs, rfl, q, z, r⟩ := rx
    refine .inl ⟨p, vs, rfl, .inl q, fun n hn => ?_⟩
    obtain ⟨s2, R2, a, ws, e2, h1, z2, ra, h2, h3, h4⟩ := new_lst (xs := cutL _ lo hi) R (Nat.le_trans (cutV_le vs lo hi) z) (r.cut lo hi) hn
    cases e2
    obtain ⟨s3, R3, v3⟩ := freeze s2 R2 h1 z2 ra h2 h3 hn
    exact k _ _ _ s3 R3 v3
def sliceM (ma mb mc : Env → Store → Res T) : Env → Store → Res T := fun r S => (ma r S).bind fun x S => (mb r S).bind fun l S => asI l S fun l S => (mc r S).bind fun h S => asI h S fun h S => Res.of ((look S x).cut (some l) (some h)) S
def sliceLM (ma mb : Env → Store → Res T) : Env → Store → Res T := fun r S => (ma r S).bind fun x S => (mb r S).bind fun l S => asI l S fun l S => Res.of ((look S x).cut (some l) none) S
def sliceRM (ma mb : Env → Store → Res T) : Env → Store → Res T := fun r S => (ma r S).bind fun x S => (mb r S).bind fun l S => asI l S fun l S => Res.of ((look S x).cut none (some l)) S
theorem s_slice (hK : d.K = X.K) (ha : PE X a (tW d W ma)) (hb : PE X b (tE d W mb)) (hc : PE X e (tE d W mc)) : PE X (.Subscript a (.Slice (some b) (some e) none p2) pos) (tE d W (sliceM ma mb mc)) := by
  refine PE_imp (pe_slice sl_all ha (po_some hb) (po_some hc)) fun σ H Q ⟨G, r, S, RS, RE, q⟩ => ?_
  refine ⟨G, r, S, RS, RE, q.bind fun x S1 G1 v H1 s1 R1 rv h1 => ⟨G1, r, S1, R1, RE.step s1, h1.bind fun y S2 G2 w H2 s2 R2 rw h2 => ?_⟩⟩
  cases y <;> try exact h2.elim
  cases rw
  refine ⟨_, rfl, G2, r, S2, R2, (RE.step s1).step s2, Post.bind (show Post d W σ (RV d r σ H) G2 H2 Q ((mc r S2).bind fun h S => asI h S fun h S => Res.of ((look S x).cut (some _) (some h)) S) from h2) fun z S3 G3 u H3 s3 R3 ru h3 => ?_⟩
  cases z <;> try exact h3.elim
  cases ru
  obtain ⟨t, e, k⟩ := Post.ofO (show Post d W σ (RV d r σ H) G3 H3 Q (Res.of ((look S3 x).cut (some _) (some _)) S3) from h3)
  exact ⟨_, rfl, cut_ok hK R3 ((RepW.le (s2.trans s3).le rv).rd R3 (((RE.step s1).step s2).step s3)) e k⟩
theorem s_sliceL (hK : d.K = X.K) (ha : PE X a (tW d W ma)) (hb : PE X b (tE d W mb)) : PE X (.Subscript a (.Slice (some b) none none p2) pos) (tE d W (sliceLM ma mb)) := by
  refine PE_imp (pe_slice sl_all ha (po_some hb) po_none) fun σ H Q ⟨G, r, S, RS, RE, q⟩ => ?_
  refine ⟨G, r, S, RS, RE, q.bind fun x S1 G1 v H1 s1 R1 rv h1 => ⟨G1, r, S1, R1, RE.step s1, h1.bind fun y S2 G2 w H2 s2 R2 rw h2 => ?_⟩⟩
  cases y <;> try exact h2.elim
  cases rw
  obtain ⟨t, e, k⟩ := Post.ofO (show Post d W σ (RV d r σ H) G2 H2 Q (Res.of ((look S2 x).cut (some _) none) S2) from h2)
  exact ⟨_, rfl, cut_ok hK R2 ((RepW.le s2.le rv).rd R2 ((RE.step s1).step s2)) e k⟩
theorem s_sliceR (hK : d.K = X.K) (ha : PE X a (tW d W ma)) (hb : PE X b (tE d W mb)) : PE X (.Subscript a (.Slice none (some b) none p2) pos) (tE d W (sliceRM ma mb)) := by
  refine PE_imp (pe_slice sl_all ha po_none (po_some hb)) fun σ H Q ⟨G, r, S, RS, RE, q⟩ => ?_
  refine ⟨G, r, S, RS, RE, q.bind fun x S1 G1 v H1 s1 R1 rv h1 => ⟨G1, r, S1, R1, RE.step s1, h1.bind fun y S2 G2 w H2 s2 R2 rw h2 => ?_⟩⟩
  cases y <;> try exact h2.elim
  cases rw
  obtain ⟨t, e, k⟩ := Post.ofO (show Post d W σ (RV d r σ H) G2 H2 Q (Res.of ((look S2 x).cut none (some _)) S2) from h2)
  exact ⟨_, rfl, cut_ok hK R2 ((RepW.le s2.le rv).rd R2 ((RE.step s1).step s2)) e k⟩
end
end Hf
end

section
set_option Elab.async false
set_option linter.all false
set_option maxRecDepth 100000
/-! HfS6: built-ins by trees. -/
namespace Hf
open PySem PySem.Spec PyProof.Rows L2
section
variable {d : D} {G : Gh}
def RdVs (d : D) (G : Gh) (H : Hp) : List T → List V → Prop
  | [], [] => True
  | x :: xs, v :: vs => RdV d G H x v ∧ RdVs d G H xs vs
  | _, _ => False
theorem RepWs.rd {r : Env} {S : Store} {σ : L2.St} {H : Hp} (R : RepS d G S H) (E : RepE d G r σ H) : ∀ {xs : List T} {vs : List V}, RepWs d G r σ xs vs → RdVs d G H (xs.map (look S)) vs
  | [], [], _ => True.intro
  | [], _ :: _, h => h.elim
  | _ :: _, [], h => h.elim
  | _ :: _, _ :: _, h => ⟨h.1.rd R E, RepWs.rd R E h.2⟩
theorem reps_ints : ∀ {xs : List T} {vs : List V} {is : List Int}, RepAll d G xs vs → intsOf xs = some is → vs = is.map V.int
  | [], [], is, _, e => by cases e; rfl
  | [], _ :: _, _, r, _ => r.elim
  | _ :: _, [], _, r, _ => r.elim
  | x :: xs, v :: vs, is, r, e => by
    cases x <;> simp only [intsOf] at e <;> try contradiction
    obtain ⟨js, e1, rfl⟩ := Option.map_eq_some_iff.mp e
    obtain ⟨rv, r⟩ := r
    cases rv
    rw [reps_ints r e1]; rfl
theorem reps_bools : ∀ {xs : List T} {vs : List V} {is : List Bool}, RepAll d G xs vs → boolsOf xs = some is → vs = is.map V.bl
  | [], [], is, _, e => by cases e; rfl
  | [], _ :: _, _, r, _ => r.elim
  | _ :: _, [], _, r, _ => r.elim
  | x :: xs, v :: vs, is, r, e => by
    cases x <;> simp only [boolsOf] at e <;> try contradiction
    obtain ⟨js, e1, rfl⟩ := Option.map_eq_some_iff.mp e
    obtain ⟨rv, r⟩ := r
    cases rv
    rw [reps_bools r e1]; rfl
end
section
variable {X : Cx} {d : D} {W : WX} {a b e : Expr} {es : List Expr} {pos p2 p : Pos} {ma mb mc : Env → Store → Res T} {k : Env → Store → Res (List T)}
/-- a built-in's call, by values -/
theorem s_biB {x : PySem.Str} {id : String} {r : List V → Hp → VK → Prop} (hc : CallR X (.builtin id) r) (f : List T → Option T)
    (hf : ∀ {G S H xs vs t Q}, RepS d G S H → RdVs d G H xs vs → f xs = some t → (∀ G' b H', Step G G' H H' → RepS d G' S H' → RepV d G' t b → Q b H') → r vs H Q)
    (hg : Gl X x) (hm : X.mg x = none) (hv : bootBuiltins x = some (.builtin id)) (hn : x ≠ "__name__") (hd : (x == ("__debug__" : PySem.Str)) = false) (ha : PA X (e :: es) (tWs d W k))
    (he : starEach (e :: es) X.env = (false, eval e X.env) :: starEach es X.env) (hpl : (backTo pos (starEach es X.env)).any (·.1) = false) : PE X (.Call (.Name x p) (e :: es) [] pos) (tE d W fun r S => (k r S).bind fun xs S => Res.of (f (xs.map (look S))) S) := by
  refine PE_imp (pe_callB hc hg hm hv ha hn hd he hpl) fun σ H Q ⟨G, r, S, RS, RE, q⟩ => ?_
  refine ⟨G, r, S, RS, RE, q.bind fun xs S1 G1 vs H1 s1 R1 rv h1 => ?_⟩
  obtain ⟨t, e, k⟩ := h1.ofO
  exact hf R1 (rv.rd R1 (RE.step s1)) e k
theorem s_biT {x : PySem.Str} {ty : String} {r : List V → Hp → VK → Prop} (hc : CallR X (.type ty) r) (f : List T → Option T)
    (hf : ∀ {G S H xs vs t Q}, RepS d G S H → RdVs d G H xs vs → f xs = some t → (∀ G' b H', Step G G' H H' → RepS d G' S H' → RepV d G' t b → Q b H') → r vs H Q)
    (hg : Gl X x) (hm : X.mg x = none) (hv : bootBuiltins x = some (.type ty)) (hn : x ≠ "__name__") (hd : (x == ("__debug__" : PySem.Str)) = false) (ha : PA X (e :: es) (tWs d W k))
    (he : starEach (e :: es) X.env = (false, eval e X.env) :: starEach es X.env) (hpl : (backTo pos (starEach es X.env)).any (·.1) = false) : PE X (.Call (.Name x p) (e :: es) [] pos) (tE d W fun r S => (k r S).bind fun xs S => Res.of (f (xs.map (look S))) S) := by
  refine PE_imp (pe_callTy hc hg hm hv ha hn hd he hpl) fun σ H Q ⟨G, r, S, RS, RE, q⟩ => ?_
  refine ⟨G, r, S, RS, RE, q.bind fun xs S1 G1 vs H1 s1 R1 rv h1 => ?_⟩
  obtain ⟨t, e, k⟩ := h1.ofO
  exact hf R1 (rv.rd R1 (RE.step s1)) e k
theorem rd1 {G : Gh} {H : Hp} {xs : List T} {x : T} {vs : List V} (e : xs = [x]) (r : RdVs d G H xs vs) : ∃ v, vs = [v] ∧ RdV d G H x v := by
  subst e
  match vs, r with
  | [v], r => exact ⟨v, rfl, r.1⟩
theorem rd2 {G : Gh} {H : Hp} {x y : T} {vs : List V} (r : RdVs d G H [x, y] vs) : ∃ v w, vs = [v, w] ∧ RdV d G H x v ∧ RdV d G H y w := by
  match vs, r with
  | [v, w], r => exact ⟨v, w, rfl, r.1, r.2.1⟩
/-- the rule of each -/
def BiOk (X : Cx) (d : D) (b : Bi) (r : List V → Hp → VK → Prop) : Prop := ∀ {G S H xs vs t Q}, RepS d G S H → RdVs d G H xs vs → b.ev xs = some t → (∀ G' b H', Step G G' H H' → RepS d G' S H' → RepV d G' t b → Q b H') → r vs H Q
theorem bi_len (hK : d.K = X.K) : BiOk X d .len (fun xs H Q => ∃ x n, xs = [x] ∧ LenV X.K x H n ∧ Q (.int n) H) := by
  intro G S H xs vs t Q R rv e k
  unfold Bi.ev at e
  split at e <;> try contradiction
  · cases e
    obtain ⟨v, rfl, r⟩ := rd1 rfl rv
    obtain ⟨rfl, z, _⟩ := r
    exact ⟨_, _, rfl, ⟨by rw [sk_len]; exact z, (sk_len _).symm⟩, k G _ H (Step.refl _ _) R rfl⟩
  · cases e
    obtain ⟨v, rfl, r⟩ := rd1 rfl rv
    obtain ⟨p, ws, rfl, q, z, ra⟩ := r
    exact ⟨_, _, rfl, .inr ⟨ws, hK ▸ R.sqT q, ra.length⟩, k G _ H (Step.refl _ _) R rfl⟩
  · cases e
    obtain ⟨v, rfl, r⟩ := rd1 rfl rv
    obtain ⟨p, ws, rfl, q, z, ra⟩ := r
    exact ⟨_, _, rfl, .inl ⟨ws, .inl q, ra.length⟩, k G _ H (Step.refl _ _) R rfl⟩
theorem bi_abs : BiOk X d .abs (fun xs H Q => ∃ i, xs = [.int i] ∧ Q (.int (if i < 0 then -i else i)) H) := by
  intro G S H xs vs t Q R rv e k
  unfold Bi.ev at e
  split at e <;> try contradiction
  cases e
  obtain ⟨v, rfl, r⟩ := rd1 rfl rv
  cases r
  exact ⟨_, rfl, k G _ H (Step.refl _ _) R rfl⟩
theorem bi_int : BiOk X d .int (fun xs H Q => (∃ i, xs = [.int i] ∧ Q (.int i) H) ∨ ∃ k, xs = [.bl k] ∧ Q (.int (if k then 1 else 0)) H) := by
  intro G S H xs vs t Q R rv e k
  unfold Bi.ev at e
  split at e <;> try contradiction
  · cases e
    obtain ⟨v, rfl, r⟩ := rd1 rfl rv
    cases r
    exact .inl ⟨_, rfl, k G _ H (Step.refl _ _) R rfl⟩
  · cases e
    obtain ⟨v, rfl, r⟩ := rd1 rfl rv
    cases r
    exact .inr ⟨_, rfl, k G _ H (Step.refl _ _) R (by simp [RepV, b2i])⟩
theorem bi_all : BiOk X d .all (rAll X.K) := by
  intro G S H xs vs t Q R rv e k
  unfold Bi.ev at e
  split at e <;> try contradiction
  obtain ⟨bs, e1, rfl⟩ := Option.map_eq_some_iff.mp e
  obtain ⟨v, rfl, r⟩ := rd1 rfl rv
  obtain ⟨p, ws, rfl, q, z, ra⟩ := r
  exact ⟨p, bs, rfl, by rw [← reps_bools ra e1]; exact .inl q, k G _ H (Step.refl _ _) R rfl⟩
theorem bi_any : BiOk X d .any (rAny X.K) := by
  intro G S H xs vs t Q R rv e k
  unfold Bi.ev at e
  split at e <;> try contradiction
  obtain ⟨bs, e1, rfl⟩ := Option.map_eq_some_iff.mp e
  obtain ⟨v, rfl, r⟩ := rd1 rfl rv
  obtain ⟨p, ws, rfl, q, z, ra⟩ := r
  exact ⟨p, bs, rfl, by rw [← reps_bools ra e1]; exact .inl q, k G _ H (Step.refl _ _) R rfl⟩
theorem bi_sum : BiOk X d .sum (rSum X.K) := by
  intro G S H xs vs t Q R rv e k
  unfold Bi.ev at e
  split at e <;> try contradiction
  obtain ⟨is, e1, rfl⟩ := Option.map_eq_some_iff.mp e
  obtain ⟨v, rfl, r⟩ := rd1 rfl rv
  obtain ⟨p, ws, rfl, q, z, ra⟩ := r
  exact ⟨p, is, rfl, by rw [← reps_ints ra e1]; exact .inl q, k G _ H (Step.refl _ _) R rfl⟩
theorem bi_max : BiOk X d .max (rMax X.K) := by
  intro G S H xs vs t Q R rv e k
  unfold Bi.ev at e
  split at e <;> try contradiction
  obtain ⟨is, e1, e2⟩ := Option.bind_eq_some_iff.mp e
  obtain ⟨m, e3, rfl⟩ := Option.map_eq_some_iff.mp e2
  obtain ⟨v, rfl, r⟩ := rd1 rfl rv
  obtain ⟨p, ws, rfl, q, z, ra⟩ := r
  obtain ⟨m1, m2⟩ := List.max?_eq_some_iff.mp e3
  refine ⟨p, is, rfl, by rw [← reps_ints ra e1]; exact .inl q, List.length_pos_of_mem m1, fun n hn hle => ?_⟩
  have : n = m := Int.le_antisymm (m2 n hn) (hle m m1)
  subst this
  exact k G _ H (Step.refl _ _) R rfl
theorem bi_max2 : BiOk X d .max2 (fun xs H Q => ∃ i j, xs = [.int i, .int j] ∧ Q (.int (if j > i then j else i)) H) := by
  intro G S H xs vs t Q R rv e k
  unfold Bi.ev at e
  split at e <;> try contradiction
  cases e
  obtain ⟨v, w, rfl, r1, r2⟩ := rd2 rv
  cases r1; cases r2
  exact ⟨_, _, rfl, k G _ H (Step.refl _ _) R rfl⟩
theorem bi_min2 : BiOk X d .min2 (fun xs H Q => ∃ i j, xs = [.int i, .int j] ∧ Q (.int (if j < i then j else i)) H) := by
  intro G S H xs vs t Q R rv e k
  unfold Bi.ev at e
  split at e <;> try contradiction
  cases e
  obtain ⟨v, w, rfl, r1, r2⟩ := rd2 rv
  cases r1; cases r2
  exact ⟨_, _, rfl, k G _ H (Step.refl _ _) R rfl⟩
/-! ### isinstance -/
def Ty.nm : Ty → String
  | .int => "int" | .str => "str" | .tup => "tuple" | .lst => "list" | .bool => "bool"
def tyOf : T → Option String
  | .non => some "NoneType"
  | .bl _ => some "bool"
  | .int _ => some "int"
  | .str _ => some "str"
  | .tup _ => some "tuple"
  | .lst _ => some "list"
  | _ => none
theorem ty_ev (ty : Ty) (x : T) {c : Bool} (e : ty.ev x = some c) : ∃ s, tyOf x = some s ∧ kitB s ty.nm = some c := by
  cases ty <;> cases x <;> simp only [Ty.ev] at e <;> first | contradiction | (cases e; refine ⟨_, rfl, ?_⟩; with_unfolding_all decide +kernel)
theorem rd_ty (hK : d.K = X.K) {G : Gh} {S : Store} {H : Hp} {x : T} {v : V} {s : String} (R : RepS d G S H) (r : RdV d G H x v) (e : tyOf x = some s) : TyX X.K H v (.type s) := by
  cases x <;> simp only [tyOf] at e <;> try contradiction
  · cases e; cases r; exact .base .non
  · cases e; cases r; exact .base (.bl _)
  · cases e; cases r; exact .base (.int _)
  · cases e
    obtain ⟨rfl, _⟩ := r
    exact .base (.str _)
  · cases e
    obtain ⟨p, ws, rfl, q, z, ra⟩ := r
    rcases hK ▸ R.sqT q with (q | ⟨o, q⟩) | ⟨o, its, n, q, c, _⟩
    · exact .base (.tup q)
    · exact .fTuple q
    · exact .kTuple q c
  · cases e
    obtain ⟨p, ws, rfl, q, z, ra⟩ := r
    rcases q with q | ⟨o, q⟩
    · exact .base (.lst q)
    · exact .base (.frz q)
def isiM (ty : Ty) (ma : Env → Store → Res T) : Env → Store → Res T := fun r S => (ma r S).bind fun x S => Res.of ((ty.ev (look S x)).map .bl) S
def isi2M (ty ty2 : Ty) (ma : Env → Store → Res T) : Env → Store → Res T := fun r S => (ma r S).bind fun x S => Res.of ((ty.ev (look S x)).bind fun a => (ty2.ev (look S x)).map fun b => .bl (a || b)) S
theorem boot_ty (ty : Ty) : bootBuiltins (PySem.Str.ofString ty.nm) = some (.type ty.nm) := by cases ty <;> decide +kernel
theorem ty_nn (ty : Ty) : PySem.Str.ofString ty.nm ≠ "__name__" := by cases ty <;> decide +kernel
theorem ty_nd (ty : Ty) : (PySem.Str.ofString ty.nm == ("__debug__" : PySem.Str)) = false := by cases ty <;> decide +kernel
theorem pe_ty {q : Pos} (ty : Ty) (hg : Gl X (PySem.Str.ofString ty.nm)) (hm : X.mg (PySem.Str.ofString ty.nm) = none) : PE X (.Name (PySem.Str.ofString ty.nm) q) (tC (.ty ty.nm)) := pe_bltn hg hm (boot_ty ty) rfl (ty_nn ty) (ty_nd ty)
theorem s_isi {q : Pos} (ty : Ty) (hK : d.K = X.K) (ha : PE X a (tW d W ma)) (hg : Gl X "isinstance") (hm : X.mg "isinstance" = none) (hgt : Gl X (PySem.Str.ofString ty.nm)) (hmt : X.mg (PySem.Str.ofString ty.nm) = none)
    (hst : starEach [a, .Name (PySem.Str.ofString ty.nm) q] X.env = (false, eval a X.env) :: starEach [.Name (PySem.Str.ofString ty.nm) q] X.env) : PE X (.Call (.Name "isinstance" p) [a, .Name (PySem.Str.ofString ty.nm) q] [] pos) (tE d W (isiM ty ma)) := by
  refine PE_imp (pe_callB call_isi hg hm PyProof.Rows.boot_isinstance (pa_cons ha (pa_cons (pe_ty ty hgt hmt) pa_nil) hst) (by decide) (by decide) hst (by rfl)) fun σ H Q ⟨G, r, S, RS, RE, q⟩ => ?_
  refine ⟨G, r, S, RS, RE, q.bind fun x S1 G1 v H1 s1 R1 rv h1 => ?_⟩
  obtain ⟨t, e, k⟩ := h1.ofO
  obtain ⟨c, e1, rfl⟩ := Option.map_eq_some_iff.mp e
  obtain ⟨s, e2, e3⟩ := ty_ev ty _ e1
  exact ⟨v, _, _, _, c, rfl, .ty _, rd_ty hK R1 (rv.rd R1 (RE.step s1)) e2, kit_ty e3, k G1 _ H1 (Step.refl _ _) R1 rfl⟩
theorem s_isi2 {q q2 tp : Pos} {kk : Nat} (ty ty2 : Ty) (hK : d.K = X.K) (ha : PE X a (tW d W ma)) (hg : Gl X "isinstance") (hm : X.mg "isinstance" = none) (hgt : Gl X (PySem.Str.ofString ty.nm)) (hmt : X.mg (PySem.Str.ofString ty.nm) = none) (hgt2 : Gl X (PySem.Str.ofString ty2.nm)) (hmt2 : X.mg (PySem.Str.ofString ty2.nm) = none)
    (hst : starEach [a, .Tuple [.Name (PySem.Str.ofString ty.nm) q, .Name (PySem.Str.ofString ty2.nm) q2] kk tp] X.env = (false, eval a X.env) :: starEach [.Tuple [.Name (PySem.Str.ofString ty.nm) q, .Name (PySem.Str.ofString ty2.nm) q2] kk tp] X.env) :
    PE X (.Call (.Name "isinstance" p) [a, .Tuple [.Name (PySem.Str.ofString ty.nm) q, .Name (PySem.Str.ofString ty2.nm) q2] kk tp] [] pos) (tE d W (isi2M ty ty2 ma)) := by
  refine PE_imp (pe_callB call_isiT hg hm PyProof.Rows.boot_isinstance (pa_cons ha (pa_cons (pe_tup (pa_cons (pe_ty ty hgt hmt) (pa_cons (pe_ty ty2 hgt2 hmt2) pa_nil))) pa_nil) hst) (by decide) (by decide) hst (by rfl)) fun σ H Q ⟨G, r, S, RS, RE, q⟩ => ?_
  refine ⟨G, r, S, RS, RE, q.bind fun x S1 G1 v H1 s1 R1 rv h1 => ?_⟩
  obtain ⟨t, e, k⟩ := h1.ofO
  obtain ⟨c, e1, e4⟩ := Option.bind_eq_some_iff.mp e
  obtain ⟨c2, e5, rfl⟩ := Option.map_eq_some_iff.mp e4
  obtain ⟨s, e2, e3⟩ := ty_ev ty _ e1
  obtain ⟨s', e2', e3'⟩ := ty_ev ty2 _ e5
  rw [e2] at e2'; cases e2'
  refine ⟨by rw [sizeLine_eq]; show 2 ≤ 16777216; decide, fun n hn => ?_⟩
  have R2 : RepS d G1 S1 (upd H1 n (.tup [.ty ty.nm, .ty ty2.nm])) := R1.lay hn
  have s2 : Step G1 G1 H1 (upd H1 n (.tup [.ty ty.nm, .ty ty2.nm])) := Step.lay hn
  refine ⟨v, n, _, _, [.type ty.nm, .type ty2.nm], (c || c2), rfl, upd_same, .cons (.ty _) (.cons (.ty _) .nil), rd_ty hK R2 (rv.rd R2 ((RE.step s1).step s2)) e2, ?_, k G1 _ _ s2 R2 rfl⟩
  refine kitAny_cons (kit_ty e3) (fun h => ?_) (fun h => by rw [h]; rfl)
  subst h
  exact kitAny_cons (kit_ty e3') (fun h => by subst h; rfl) (fun h => by rw [h]; rfl)
end
end Hf
end

section
set_option Elab.async false
set_option linter.all false
set_option maxRecDepth 100000
/-! HfS7: lists and tuples made, attributes, dicts by trees. -/
namespace Hf
open PySem PySem.Spec PyProof.Rows L2
/-! ### sorted ints -/
theorem insI_perm (i : Int) : ∀ l : List Int, (insI i l).Perm (i :: l)
  | [] => List.Perm.refl _
  | j :: r => by
    unfold insI
    split
    · exact List.Perm.refl _
    · exact ((insI_perm i r).cons j).trans (List.Perm.swap i j r)
theorem sortI_perm : ∀ l : List Int, (sortI l).Perm l
  | [] => List.Perm.refl _
  | i :: l => (insI_perm i (sortI l)).trans ((sortI_perm l).cons i)
theorem insI_sorted (i : Int) : ∀ {l : List Int}, l.Pairwise (· ≤ ·) → (insI i l).Pairwise (· ≤ ·)
  | [], _ => by simp [insI]
  | j :: r, h => by
    have h1 := List.pairwise_cons.mp h
    unfold insI
    split
    · rename_i hij
      refine List.pairwise_cons.mpr ⟨fun k hk => ?_, h⟩
      rcases List.mem_cons.mp hk with rfl | hk
      · exact hij
      · exact Int.le_trans hij (h1.1 k hk)
    · rename_i hij
      refine List.pairwise_cons.mpr ⟨fun k hk => ?_, insI_sorted i h1.2⟩
      rcases List.mem_cons.mp ((insI_perm i r).mem_iff.mp hk) with rfl | hk
      · omega
      · exact h1.1 k hk
theorem sortI_sorted : ∀ l : List Int, (sortI l).Pairwise (· ≤ ·)
  | [] => List.Pairwise.nil
  | i :: l => insI_sorted i (sortI_sorted l)
theorem sorted_one : ∀ {a b : List Int}, a.Perm b → a.Pairwise (· ≤ ·) → b.Pairwise (· ≤ ·) → a = b
  | [], b, p, _, _ => (List.nil_perm.mp p).symm
  | x :: a, [], p, _, _ => by have := p.length_eq; simp at this
  | x :: a, y :: b, p, h1, h2 => by
    have h1' := List.pairwise_cons.mp h1
    have h2' := List.pairwise_cons.mp h2
    have e : x = y := by
      have m1 : y ∈ x :: a := p.mem_iff.mpr List.mem_cons_self
      have m2 : x ∈ y :: b := p.mem_iff.mp List.mem_cons_self
      rcases List.mem_cons.mp m1 with e | m1
      · exact e.symm
      · rcases List.mem_cons.mp m2 with e | m2
        · exact e
        · exact Int.le_antisymm (h1'.1 y m1) (h2'.1 x m2)
    subst e
    rw [sorted_one (List.Perm.cons_inv p) h1'.2 h2'.2]
section
variable {d : D} {G : Gh}
theorem ints_reps : ∀ is : List Int, RepAll d G (is.map T.int) (is.map V.int)
  | [] => True.intro
  | i :: is => ⟨rfl, ints_reps is⟩
theorem range_reps (lo hi : Int) : RepAll d G (rangeL lo hi) (rgV lo hi) := by
  have key : ∀ l : List Nat, RepAll d G (l.map fun (k : Nat) => T.int (lo + (k : Int))) (l.map fun i => V.int (lo + (i : Nat))) := by
    intro l
    induction l with
    | nil => exact True.intro
    | cons k l ih => exact ⟨rfl, ih⟩
  exact key _
/-- a thing laid at p is filled and never changes any more -/
theorem place {S : Store} {G' : Gh} {H H' : Hp} {p : Addr} {o : HO} (s : Step G G' H H') (R : RepS d G' S H') (hI : G'.I p = none) (hm : p ∉ G'.mu) (h0 : H p = none) :
    Step G (G'.add p o) H (upd H' p o) ∧ RepS d (G'.add p o) S (upd H' p o) := by
  have le : Le G' (G'.add p o) := ⟨fun b u e => by
    show upd G'.I p _ b = _
    rw [upd_ne (fun q => by rw [q, hI] at e; cases e)]; exact e, [], by simp [Gh.add]⟩
  refine ⟨⟨s.le.trans le, fun b hb k => ?_, s.mu, fun b u e hb => ?_, fun b hb => ?_⟩, ⟨fun b u e => ?_, R.len, fun n ys e => ?_, R.inj, fun b hb => ?_⟩⟩
  · by_cases q : b = p
    · rw [q]; exact h0
    · refine s.new b hb fun e => k ?_
      show upd G'.I p _ b = none
      rw [upd_ne q]; exact e
  · rw [upd_ne (fun q => by rw [q, h0] at e; cases e)]; exact s.keep b u e hb
  · by_cases q : b = p
    · rw [q, upd_same]; simp
    · rw [upd_ne q]; exact s.there b hb
  · have e' : upd G'.I p o b = some u := e
    by_cases q : b = p
    · rw [q, upd_same] at e'
      rw [q, upd_same]; exact e'
    · rw [upd_ne q] at e'
      rw [upd_ne q]; exact R.imm b u e'
  · obtain ⟨b, ws, h1, h2, z2, h3⟩ := R.cell n ys e
    refine ⟨b, ws, h1, ?_, z2, RepAll.le le ys h3⟩
    rw [upd_ne (fun q => by rw [q] at h1; exact hm (List.mem_of_getElem? h1))]; exact h2
  · show upd G'.I p _ b = none
    rw [upd_ne (fun q => by rw [q] at hb; exact hm hb)]; exact R.off b hb
theorem RepFs.get (inj : ∀ a b, a ∈ d.as → b ∈ d.as → d.an a = d.an b → a = b) {a : Nat} (ha : a ∈ d.as) : ∀ {fs : List (Nat × T)} {ws : List (PySem.Str × V)} {t : T}, RepFs d G fs ws → fs.lookup a = some t → ∃ v, ws.lookup (d.an a) = some v ∧ RepV d G t v
  | [], _, _, _, e => by cases e
  | _ :: _, [], _, r, _ => r.elim
  | (n, x) :: fs, (f, v) :: ws, t, r, e => by
    obtain ⟨⟨rfl, hn⟩, rv, r⟩ := r
    rw [List.lookup_cons] at e
    rw [List.lookup_cons]
    by_cases h : a = n
    · subst h
      simp only [beq_self_eq_true] at e ⊢
      cases e
      exact ⟨v, rfl, rv⟩
    · have h1 : (a == n) = false := beq_eq_false_iff_ne.mpr h
      have h2 : (d.an a == d.an n) = false := beq_eq_false_iff_ne.mpr fun q => h (inj a n ha hn q)
      rw [h1] at e
      rw [h2]
      exact RepFs.get inj ha r e
end
section
variable {X : Cx} {d : D} {W : WX} {a b e : Expr} {es : List Expr} {pos p2 p : Pos} {ma mb mc : Env → Store → Res T} {k : Env → Store → Res (List T)}
def lofM (ma : Env → Store → Res T) : Env → Store → Res T := fun r S => (ma r S).bind fun c S => match look S c with
    | .lst xs => .ok (.lst xs) S
    | .tup xs => .ok (.lst xs) S
    | _ => .bad
def tofM (ma : Env → Store → Res T) : Env → Store → Res T := fun r S => (ma r S).bind fun c S => match look S c with
    | .lst xs => .ok (.tup xs) S
    | .tup xs => .ok (.tup xs) S
    | _ => .bad
theorem s_lof (hK : d.K = X.K) (hg : Gl X "list") (hm : X.mg "list" = none) (ha : PE X a (tW d W ma)) (hst : starEach [a] X.env = (false, eval a X.env) :: starEach [] X.env) : PE X (.Call (.Name "list" p) [a] [] pos) (tN d W (lofM ma)) := by
  refine PE_imp (pe_callTy call_list_of hg hm PyProof.Rows.boot_list (pa_cons ha pa_nil hst) (by decide) (by decide) hst rfl) fun σ H Q ⟨G, r, S, RS, RE, q⟩ => ?_
  refine ⟨G, r, S, RS, RE, q.bind0 fun x S1 _ q1 G1 v H1 s1 R1 rv => ?_⟩
  have rd := rv.rd R1 (RE.step s1)
  revert q1 rd
  cases look S1 x <;> intro q1 rd <;> try exact q1.elim
  · rename_i xs
    obtain ⟨p, vs, rfl, q, z, ra⟩ := rd
    refine ⟨p, vs, rfl, .inr (hK ▸ R1.sqT q), fun l hl => ?_⟩
    obtain ⟨s2, R2, v2⟩ := new_lst (xs := xs) R1 z ra hl
    exact q1 _ _ _ (s1.trans s2) R2 ⟨_, rfl, v2.from s1⟩
  · rename_i xs
    obtain ⟨p, vs, rfl, q, z, ra⟩ := rd
    refine ⟨p, vs, rfl, .inl (.inl q), fun l hl => ?_⟩
    obtain ⟨s2, R2, v2⟩ := new_lst (xs := xs) R1 z ra hl
    exact q1 _ _ _ (s1.trans s2) R2 ⟨_, rfl, v2.from s1⟩
theorem s_tof (hK : d.K = X.K) (hg : Gl X "tuple") (hm : X.mg "tuple" = none) (ha : PE X a (tW d W ma)) (hst : starEach [a] X.env = (false, eval a X.env) :: starEach [] X.env) : PE X (.Call (.Name "tuple" p) [a] [] pos) (tE d W (tofM ma)) := by
  refine PE_imp (pe_callTy call_tuple_of hg hm PyProof.Rows.boot_tuple (pa_cons ha pa_nil hst) (by decide) (by decide) hst rfl) fun σ H Q ⟨G, r, S, RS, RE, q⟩ => ?_
  refine ⟨G, r, S, RS, RE, q.bind fun x S1 G1 v H1 s1 R1 rv q1 => ?_⟩
  have rd := rv.rd R1 (RE.step s1)
  revert q1 rd
  cases look S1 x <;> intro q1 rd <;> try exact q1.elim
  · obtain ⟨p, vs, rfl, q, z, ra⟩ := rd
    exact ⟨p, vs, rfl, .inr ⟨hK ▸ R1.sqT q, q1 G1 _ H1 (Step.refl _ _) R1 ⟨p, vs, rfl, q, z, ra⟩⟩⟩
  · rename_i xs
    obtain ⟨p, vs, rfl, q, z, ra⟩ := rd
    refine ⟨p, vs, rfl, .inl ⟨.inl q, fun l hl => ?_⟩⟩
    obtain ⟨s2, R2, v2⟩ := new_tup (xs := xs) R1 z ra hl
    exact q1 _ _ _ s2 R2 v2
theorem rg24 {i : Int} (h : i ≤ 16777216 ∧ -16777216 ≤ i) : RgOk 0 i := by
  have e : (2 : Nat) ^ 24 = 16777216 := by decide
  refine ⟨by omega, by omega, by omega, by omega, ?_⟩
  rw [e]; omega
def rngLM (ma : Env → Store → Res T) : Env → Store → Res T := fun r S => (ma r S).bind fun x S => asI x S fun i S => if i ≤ 16777216 ∧ -16777216 ≤ i then .ok (.lst (rangeL 0 i)) S else .bad
def rngTM (ma : Env → Store → Res T) : Env → Store → Res T := fun r S => (ma r S).bind fun x S => asI x S fun i S => if i ≤ 16777216 ∧ -16777216 ≤ i then .ok (.tup (rangeL 0 i)) S else .bad
theorem rgV_le {i : Int} (h : i ≤ 16777216 ∧ -16777216 ≤ i) : (rgV 0 i).length ≤ sizeLine := by
  rw [rgV_length, sizeLine_eq]; omega
theorem s_lrng {q p' : Pos} (hc : X.calm = true) (hg : Gl X "list") (hm : X.mg "list" = none) (hgr : Gl X "range") (hmr : X.mg "range" = none) (ha : PE X a (tE d W ma)) (hst : starEach [a] X.env = (false, eval a X.env) :: starEach [] X.env) :
    PE X (.Call (.Name "list" p) [.Call (.Name "range" p') [a] [] q] [] pos) (tN d W (rngLM ma)) := by
  refine PE_imp (pe_listRg hc hg hm (prg_1 hgr hmr ha hst)) fun σ H Q ⟨G, r, S, RS, RE, q⟩ => ?_
  refine ⟨G, r, S, RS, RE, q.bind0 fun x S1 _ q1 G1 v H1 s1 R1 rv => ?_⟩
  cases x <;> try exact q1.elim
  cases rv
  rename_i i _
  have q1 : Post d W σ (RN d r σ H) G H Q (if i ≤ 16777216 ∧ -16777216 ≤ i then .ok (.lst (rangeL 0 i)) S1 else .bad) := q1
  split at q1 <;> try exact q1.elim
  rename_i h
  refine ⟨i, rfl, rg24 h, fun l hl => ?_⟩
  obtain ⟨s2, R2, v2⟩ := new_lst R1 (rgV_le h) (range_reps 0 i) hl
  exact q1 _ _ _ (s1.trans s2) R2 ⟨_, rfl, v2.from s1⟩
theorem s_trng {q p' : Pos} (hc : X.calm = true) (hg : Gl X "tuple") (hm : X.mg "tuple" = none) (hgr : Gl X "range") (hmr : X.mg "range" = none) (ha : PE X a (tE d W ma)) (hst : starEach [a] X.env = (false, eval a X.env) :: starEach [] X.env) :
    PE X (.Call (.Name "tuple" p) [.Call (.Name "range" p') [a] [] q] [] pos) (tE d W (rngTM ma)) := by
  refine PE_imp (pe_tupRg hc hg hm (prg_1 hgr hmr ha hst)) fun σ H Q ⟨G, r, S, RS, RE, q⟩ => ?_
  refine ⟨G, r, S, RS, RE, q.bind fun x S1 G1 v H1 s1 R1 rv q1 => ?_⟩
  cases x <;> try exact q1.elim
  cases rv
  rename_i i
  have q1 : Post d W σ (RV d r σ H) G1 H1 Q (if i ≤ 16777216 ∧ -16777216 ≤ i then .ok (.tup (rangeL 0 i)) S1 else .bad) := q1
  split at q1 <;> try exact q1.elim
  rename_i h
  refine ⟨i, rfl, rg24 h, fun l hl => ?_⟩
  obtain ⟨s2, R2, v2⟩ := new_tup R1 (rgV_le h) (range_reps 0 i) hl
  exact q1 _ _ _ s2 R2 v2
/-! ### + and * of lists -/
def rCatR : R2 := fun x y H Q => ∃ l b xs zs, x = .ref l ∧ y = .ref b ∧ L2.Rd H l (.lst xs) ∧ L2.Rd H b (.lst zs) ∧ xs.length + zs.length ≤ sizeLine ∧ ∀ p, H p = none → Q (.ref p) (upd H p (.lst (xs ++ zs)))
theorem op_catR : OpR X (binaryOp .Add) rCatR := by
  intro pins s σ H x y v u Q I rx ry h
  obtain ⟨l, b, xs, zs, rfl, rfl, hH, hB, hz, q⟩ := h
  cases rx
  cases ry
  obtain ⟨z, its, n, r, e⟩ := hH.ok I.hok
  obtain ⟨z2, its2, n2, r2, e2⟩ := hB.ok I.hok
  have hl := r.length
  have hl2 := r2.length
  refine PySem.P.add_list e e2 ?_ (by rw [List.size_toArray, List.size_toArray]; omega)
  have ea : its.toArray ++ its2.toArray = (its ++ its2).toArray := by simp
  rw [ea]
  exact ⟨.ref _, _, I.lnew (t' := s.toks) (r.append r2) (by rw [List.length_append]; omega), rfl, q _ I.fresh⟩
def catM (ma mb : Env → Store → Res T) : Env → Store → Res T := fun r S => (ma r S).bind fun x S => (mb r S).bind fun y S => match look S x, look S y with
    | .lst xs, .lst ys => if xs.length + ys.length ≤ sizeLim then .ok (.lst (xs ++ ys)) S else .bad
    | _, _ => .bad
theorem s_cat (ha : PE X a (tW d W ma)) (hb : PE X b (tW d W mb)) : PE X (.BinOp a .Add b pos) (tN d W (catM ma mb)) := by
  refine PE_imp (pe_op op_catR ha hb) fun σ H Q ⟨G, r, S, RS, RE, q⟩ => ?_
  refine ⟨G, r, S, RS, RE, q.bind0 fun x S1 e1 q1 G1 v H1 s1 R1 rv => ⟨G1, r, S1, R1, RE.step s1, ?_⟩⟩
  have q1' := Post.later q1 s1
  cases e2 : mb r S1 with
  | bad => rw [e2] at q1; exact q1.elim
  | exn c S2 => rw [e2] at q1'; exact q1'
  | ok y S2 =>
    rw [e2] at q1
    intro G2 w H2 s2 R2 rw'
    have E2 := (RE.step s1).step s2
    have rx := (RepW.le s2.le rv).rd R2 E2
    have ry := rw'.rd R2 E2
    have q2 : Post d W σ (RN d r σ H) G H Q (match look S2 x, look S2 y with
      | .lst xs, .lst ys => if xs.length + ys.length ≤ sizeLim then .ok (.lst (xs ++ ys)) S2 else .bad
      | _, _ => .bad) := q1
    revert q2 rx ry
    cases look S2 x <;> intro rx ry q2 <;> try exact q2.elim
    revert ry q2
    cases look S2 y <;> intro ry q2 <;> try exact q2.elim
    rename_i xs ys
    have q3 : Post d W σ (RN d r σ H) G H Q (if xs.length + ys.length ≤ sizeLim then .ok (.lst (xs ++ ys)) S2 else .bad) := q2
    split at q3 <;> try exact q3.elim
    rename_i hl
    rw [lim_eq] at hl
    obtain ⟨p1, vs, rfl, k1, z1, r1⟩ := rx
    obtain ⟨p2, ws, rfl, k2, z2, r2⟩ := ry
    have l1 := r1.length
    have l2 := r2.length
    have hl' : vs.length + ws.length ≤ sizeLine := by omega
    refine ⟨p1, p2, vs, ws, rfl, rfl, k1, k2, hl', fun n hn => ?_⟩
    obtain ⟨s3, R3, v3⟩ := new_lst (xs := xs ++ ys) R2 (by rw [List.length_append]; exact hl') (r1.append r2) hn
    exact q3 _ _ _ ((s1.trans s2).trans s3) R3 ⟨_, rfl, v3.from (s1.trans s2)⟩
end
end Hf
end

section
set_option Elab.async false
set_option linter.all false
set_option maxRecDepth 100000
/-! HfS8: list * int, sorted, index, join, attributes by trees. -/
namespace Hf
open PySem PySem.Spec PyProof.Rows L2
section
variable {X : Cx} {d : D} {W : WX} {a b e : Expr} {es : List Expr} {pos p2 p : Pos} {ma mb mc : Env → Store → Res T} {k : Env → Store → Res (List T)}
def rRepR : R2 := fun x y H Q => ∃ l k xs, x = .ref l ∧ y = .int k ∧ L2.Rd H l (.lst xs) ∧ -(2 ^ 63) ≤ k ∧ k < 2 ^ 63 ∧ xs.length * k.toNat ≤ sizeLine ∧ ∀ p, H p = none → Q (.ref p) (upd H p (.lst (List.replicate k.toNat xs).flatten))
theorem op_repR : OpR X (binaryOp .Mult) rRepR := by
  intro pins s σ H x y v u Q I rx ry h
  obtain ⟨l, k, xs, rfl, rfl, hH, h1, h2, hz, q⟩ := h
  cases rx
  obtain ⟨t, rfl⟩ := ry
  obtain ⟨z, its, n, r, e⟩ := hH.ok I.hok
  have hl := r.length
  have hlen : its.toArray.size * k.toNat ≤ sizeLine := by rw [List.size_toArray, ← hl]; exact hz
  have hcap : ¬ its.toArray.size * k.toNat > (2 ^ 63 - 1) / 8 := by
    have : (sizeLine : Nat) ≤ (2 ^ 63 - 1) / 8 := by decide
    omega
  have hfit : ¬ (!Builtin.List.listFitsIndex k) = true := by
    rw [fitsIndex_both h1 h2]
    exact Bool.false_ne_true
  have hlong : ¬ Builtin.List.listTooLong (its.toArray.size * k.toNat) = true := by
    rw [notLongL hlen]
    exact Bool.false_ne_true
  have hnew : List.foldl (fun x1 x2 => x1 ++ x2) #[] (List.replicate (if its.toArray.isEmpty = true then 0 else k.toNat) its.toArray) = (List.replicate k.toNat its).flatten.toArray := by
    have f0 : ∀ m : Nat, List.foldl (fun x1 x2 => x1 ++ x2) #[] (List.replicate m its.toArray) = (List.replicate m its).flatten.toArray := fun m => by
      have := foldl_rep its m []
      rw [List.nil_append] at this
      exact this
    rw [f0]
    cases its with
    | nil => simp
    | cons a r' => rw [if_neg (by simp)]
  refine wpAny_binaryOp_repeat_ref (T := "list") (U := "int") (by decide) ⟨_, e, rfl⟩ (fun s' => typeIs_int s' k t) noFill_list_mul F.fills_int_mul F.slot_int_rmul repeat_list F.slot_int_index.lookup
    (call_meets F.slot_int_rmul (typeIs_int s k t) F.entry_int_rmul (F.args_int_rmul_2 _ _) (int___rmul___int_list k t l its.toArray n)
      ⟨e, rfl, ⟨_, e, rfl⟩, call_meets F.slot_list_mul ⟨_, e, rfl⟩ F.entry_list_mul (F.args_list_mul_2 _ _) (AutoListH.list___mul___list_int_3 l its.toArray n k t hfit hcap hlong) ⟨e, ?_⟩⟩)
  rw [hnew]
  exact ⟨.ref _, _, I.lnew (t' := s.toks) (r.rep k.toNat) (by rw [PyProof.Rows.lm_len_rep_flat, Nat.mul_comm]; exact hz), rfl, q _ I.fresh⟩
def repK (x y : T) (S : Store) : Res T := match x, y with
    | .lst xs, .int k => if -(2 ^ 63) ≤ k ∧ k < 2 ^ 63 ∧ xs.length * k.toNat ≤ sizeLim then .ok (.lst (List.replicate k.toNat xs).flatten) S else .bad
    | _, _ => .bad
def repM (ma mb : Env → Store → Res T) : Env → Store → Res T := fun r S => (ma r S).bind fun x S => (mb r S).bind fun y S => repK (look S x) y S
theorem s_rep (ha : PE X a (tW d W ma)) (hb : PE X b (tE d W mb)) : PE X (.BinOp a .Mult b pos) (tN d W (repM ma mb)) := by
  refine PE_imp (pe_op op_repR ha hb) fun σ H Q ⟨G, r, S, RS, RE, q⟩ => ?_
  refine ⟨G, r, S, RS, RE, q.bind0 fun x S1 e1 q1 G1 v H1 s1 R1 rv => ⟨G1, r, S1, R1, RE.step s1, ?_⟩⟩
  have q1' := Post.later q1 s1
  cases e2 : mb r S1 with
  | bad => rw [e2] at q1; exact q1.elim
  | exn c S2 => rw [e2] at q1'; exact q1'
  | ok y S2 =>
    rw [e2] at q1
    intro G2 w H2 s2 R2 rw'
    have E2 := (RE.step s1).step s2
    have rx := (RepW.le s2.le rv).rd R2 E2
    have q2 : Post d W σ (RN d r σ H) G H Q (repK (look S2 x) y S2) := q1
    clear q1 q1' e2
    revert q2 rx
    cases look S2 x <;> intro rx q2 <;> try exact q2.elim
    cases y <;> try exact q2.elim
    cases rw'
    rename_i xs k
    have q3 : Post d W σ (RN d r σ H) G H Q (if -(2 ^ 63) ≤ k ∧ k < 2 ^ 63 ∧ xs.length * k.toNat ≤ sizeLim then .ok (.lst (List.replicate k.toNat xs).flatten) S2 else .bad) := q2
    split at q3 <;> try exact q3.elim
    rename_i hl
    rw [lim_eq] at hl
    obtain ⟨p1, vs, rfl, k1, z1, r1⟩ := rx
    have l1 := r1.length
    have hz : vs.length * k.toNat ≤ sizeLine := by rw [← l1]; exact hl.2.2
    refine ⟨p1, k, vs, rfl, rfl, k1, hl.1, hl.2.1, hz, fun n hn => ?_⟩
    obtain ⟨s3, R3, v3⟩ := new_lst (xs := (List.replicate k.toNat xs).flatten) R2 (by rw [PyProof.Rows.lm_len_rep_flat, Nat.mul_comm]; exact hz) (r1.replicate _) hn
    exact q3 _ _ _ ((s1.trans s2).trans s3) R3 ⟨_, rfl, v3.from (s1.trans s2)⟩
/-! ### sorted -/
def sortedM (ma : Env → Store → Res T) : Env → Store → Res T := fun r S => (ma r S).bind fun c S => Res.of (look S c).sorted S
theorem boot_sorted' : bootBuiltins "sorted" = some (.builtin "sorted") := PyProof.Rows.boot_sorted
theorem s_sorted (hg : Gl X "sorted") (hm : X.mg "sorted" = none) (ha : PE X a (tW d W ma)) (hst : starEach [a] X.env = (false, eval a X.env) :: starEach [] X.env) : PE X (.Call (.Name "sorted" p) [a] [] pos) (tN d W (sortedM ma)) := by
  refine PE_imp (pe_callB cr_sortedI hg hm boot_sorted' (pa_cons ha pa_nil hst) (by decide) (by decide) hst rfl) fun σ H Q ⟨G, r, S, RS, RE, q⟩ => ?_
  refine ⟨G, r, S, RS, RE, q.bind0 fun x S1 _ q1 G1 v H1 s1 R1 rv => ?_⟩
  have rd := rv.rd R1 (RE.step s1)
  obtain ⟨t, e, k⟩ := q1.ofO
  revert e rd
  cases look S1 x <;> intro rd e <;> simp only [T.sorted] at e <;> try contradiction
  obtain ⟨is, e1, rfl⟩ := Option.map_eq_some_iff.mp e
  obtain ⟨p1, vs, rfl, q, z, ra⟩ := rd
  have ev := reps_ints ra e1
  refine ⟨p1, is, rfl, by rw [← ev]; exact .inl q, fun ns' n hp hs hn => ?_⟩
  have en : ns' = sortI is := sorted_one (hp.trans (sortI_perm is).symm) hs (sortI_sorted is)
  subst en
  have hz : ((sortI is).map V.int).length ≤ sizeLine := by
    rw [List.length_map, (sortI_perm is).length_eq, ← List.length_map (f := V.int), ← ev]; exact z
  obtain ⟨s2, R2, v2⟩ := new_lst R1 hz (ints_reps (sortI is)) hn
  exact k _ _ _ (s1.trans s2) R2 ⟨_, rfl, v2.from s1⟩
/-! ### attributes -/
def attrM (ma : Env → Store → Res T) (f : Nat) : Env → Store → Res T := fun r S => (ma r S).bind fun x S => Res.of (x.attr f) S
theorem s_attr {f : Nat} (hb : attributeBase a (d.an f) X.env (eval a X.env) = eval a X.env) (hf : f ∈ d.as) (inj : ∀ a b, a ∈ d.as → b ∈ d.as → d.an a = d.an b → a = b) (hC : ∀ c C, d.ca c = some C → Cls X.K C ∧ NoAttr X.K C (d.an f)) (ha : PE X a (tW d W ma)) :
    PE X (.Attribute a (d.an f) pos) (tE d W (attrM ma f)) := by
  refine PE_imp (pe_fld ha hb) fun σ H Q ⟨G, r, S, RS, RE, q⟩ => ?_
  refine ⟨G, r, S, RS, RE, q.bind fun x S1 G1 v H1 s1 R1 rv h1 => ?_⟩
  obtain ⟨t, e, k⟩ := h1.ofO
  cases x <;> simp only [T.attr] at e <;> try contradiction
  have rd := rv.rd R1 (RE.step s1)
  obtain ⟨p1, C, dx, ws, rfl, hc, hh, rf⟩ := rd
  obtain ⟨v1, e1, r1⟩ := rf.get inj hf e
  exact ⟨p1, C, dx, ws, v1, rfl, hh, (hC _ C hc).1, (hC _ C hc).2, e1, k G1 _ H1 (Step.refl _ _) R1 r1⟩
end
end Hf
end

section
set_option Elab.async false
set_option linter.all false
set_option maxRecDepth 100000
/-! HfEn: enumerate over a tuple, walked. -/
namespace Hf
open PySem PySem.Spec PyProof.Rows L2
open AutoSeq1 (wpAny_loadPart')

theorem meets_enumerate_newT (l : Addr) (items : Array Value) (n : Nat) (dct : Option Addr) (sl : Array (Option Value)) :
    Meets (Builtin.«enumerate.__new__» ⟨[.type "enumerate", .ref l], []⟩) (fun _ R s => s.heap.get? l = some { cls := .type "tuple", dict := dct, data := .seq items n, slots := sl } ∧
      R (.ok (.ret (.ref (s.heap.push { cls := .type "tuple_iterator", data := .fields #[.ref l, .int 0 0] }).objs.size)))
        { s with heap := (s.heap.push { cls := .type "tuple_iterator", data := .fields #[.ref l, .int 0 0] }).push { cls := .type "enumerate", data := .fields #[.none, .bool false, .ref s.heap.objs.size, rawInt 0, .none, .none] } }) :=
  .of_wp fun prog w A R s h => by
    obtain ⟨hp, g, d, tk, os⟩ := s; obtain ⟨hl, h⟩ := h
    have hsub := sub_enumerate
    have hL : Heap.IsTuple (Shared.heap ⟨hp, g, d, tk, os⟩) l items := ⟨_, hl, rfl, n, rfl⟩
    wp_walk using wpAny_loadPart' hl
    refine wpAny_stack_any fun st => wpAny_pure ?_
    split
    · rename_i c _ _ _ _ _
      cases (c == Value.type "enumerate")
      · wp_walk using wpAny_loadPart' hl, wpAny_pyIter_tuple hL
        exact ⟨_, rfl, h⟩
      · wp_walk using wpAny_loadPart' hl, wpAny_pyIter_tuple hL
        exact ⟨_, rfl, h⟩
    · wp_walk using wpAny_loadPart' hl, wpAny_pyIter_tuple hL
      exact ⟨_, rfl, h⟩
section
variable {prog : Program} {w : World} {A : Around} {E : Value → Shared → Prop} {s : Shared}
theorem call_enumerate_tuple {l : Addr} {items : Array Value} {Q : Value → Shared → Prop} (hL : s.heap.IsTuple l items)
    (h : ∀ h', IsEnum h' (s.heap.objs.size + 1) s.heap.objs.size 0 .none → h'.IsTupleIter s.heap.objs.size l 0 → h'.objs.size = s.heap.objs.size + 2 →
      (∀ b o, s.heap.get? b = some o → h'.get? b = some o) → Q (.ref (s.heap.objs.size + 1)) { s with heap := h' }) :
    wpAny (model prog w) A (PySem.call (.type "enumerate") [.ref l]) Q E s := by
  obtain ⟨⟨c, dct, dt, sl⟩, hl, hc, n, hd⟩ := hL
  replace hc : c = .type "tuple" := hc
  replace hd : dt = .seq items n := hd
  subst hc hd
  refine callType_new F.called_enumerate (by decide) (F.typeCall_enumerate_1 _) (F.newCall_enumerate_1 _) (fun obj => F.args_object_init_2 obj _) F.entry_enumerate_new
    (meets_enumerate_newT l items n dct sl) ⟨hl, ?_⟩
  have hz : (s.heap.push { cls := .type "tuple_iterator", data := .fields #[.ref l, .int 0 0] }).objs.size = s.heap.objs.size + 1 := Heap.size_push ..
  show _ ∧ _
  rw [hz]
  have he : IsEnum ((s.heap.push { cls := .type "tuple_iterator", data := .fields #[.ref l, .int 0 0] }).push
      { cls := .type "enumerate", data := .fields #[.none, .bool false, .ref s.heap.objs.size, rawInt 0, .none, .none] }) (s.heap.objs.size + 1) s.heap.objs.size 0 .none := by
    have := Heap.get?_push_size (s.heap.push { cls := .type "tuple_iterator", data := .fields #[.ref l, .int 0 0] })
      (o := { cls := .type "enumerate", data := .fields #[.none, .bool false, .ref s.heap.objs.size, rawInt 0, .none, .none] }) rfl
    rw [hz] at this; exact this
  refine ⟨⟨_, he, rfl⟩, h _ he ⟨_, Heap.get?_push_of_some _ (Heap.get?_push_size _ rfl), rfl, rfl⟩ (by rw [Heap.size_push, hz]) fun b o x => Heap.get?_push_of_some _ (Heap.get?_push_of_some _ x)⟩
end
/-- the tuple at a, each item in a new pair -/
def Itet (K : PySem.W.Frag) (a : Addr) : It :=
  ⟨fun i H => ∃ (xs : List V) (x : V), SqT K H a xs ∧ xs[i]? = some x, fun i H v H' => ∃ T x, v = .ref T ∧ H T = none ∧ H' = upd H T (.tup [.int (i : Nat), x]) ∧ ∀ xs, SqT K H a xs → xs[i]? = some x, fun i H => ∃ xs : List V, SqT K H a xs ∧ xs.length = i⟩
theorem turn_enumT {P : Program} {w : World} {K : PySem.W.Frag} {elts : List Expr} {kk : Nat} {tpos : Pos} (a e it : Addr) :
    Turn P w K (.Tuple elts kk tpos) (Itet K a) [e, it] e (fun i h => (∃ old, IsEnum h e it ((i : Nat) : Int) old) ∧ h.IsTupleIter it a i ∧ e ≠ it) where
  mem := by simp
  obj := fun i h st b hb => by
    obtain ⟨⟨old, he⟩, ⟨o, ho, hc, hd⟩, _⟩ := st
    have e' : b = e ∨ b = it := by simpa using hb
    rcases e' with z | z
    · rw [z]; exact ⟨_, he, fun v q => nomatch q⟩
    · rw [z]; exact ⟨o, ho, fun v q => by rw [hd] at q; cases q⟩
  keep := fun i h h' st k => let ⟨⟨old, he⟩, hi, hne⟩ := st; ⟨⟨old, k e (by simp) _ he⟩, hi.at fun o q => k it (by simp) o q, hne⟩
  item := by
    intro X hP hw hK hc i pins s σ H E I hf st hg
    subst hP hw hK
    obtain ⟨⟨old, he⟩, hit, hne⟩ := st
    obtain ⟨xs, x, hq, hx⟩ := hg
    obtain ⟨its, rv, p, hz⟩ := I.tuple hq
    obtain ⟨u, hu, ru⟩ := rv.get hx
    have hel : e < s.heap.objs.size := Heap.lt_size he
    have hil : it < s.heap.objs.size := by obtain ⟨_, q, _⟩ := hit; exact Heap.lt_size q
    have pT : s.heap.IsTuple a its.toArray := p
    have hai : a ≠ it := by
      rintro rfl
      obtain ⟨o, ho, hc', hd⟩ := hit
      obtain ⟨o2, ho2, hc2, _⟩ := pT
      rw [ho] at ho2; cases ho2
      rw [hc'] at hc2
      exact absurd hc2 (by decide)
    have hae : a ≠ e := by
      rintro rfl
      obtain ⟨o2, ho2, hc2, _⟩ := pT
      have he2 : s.heap.get? a = _ := he
      rw [he2] at ho2; cases ho2
      have hc3 : Value.type "enumerate" = Value.type "tuple" := hc2
      exact absurd hc3 (by decide)
    have hlt : i < its.toArray.size := by
      have := (List.getElem?_eq_some_iff.mp hu).1
      simpa using this
    refine wpAny_pyNext_enum_itemD (Draws.tuple (A := X.A.in1) (I.ok.hd hc) it a hai its.toArray) he ⟨hit, pT⟩ hlt hne (by simp [hne, Ne.symm hae]) fun z h' tk hz' ho hst hT hsz hk => ?_
    have ez : z = u := by
      have : its.toArray[i]? = some u := by simpa using hu
      rw [this] at hz'; exact (Option.some.inj hz').symm
    subst ez
    have ho' : IsEnumOut h' e it ((i : Int) + 1) z s.heap.objs.size := ho
    refine ⟨_, rfl, wpAny_letOwnedTupleGo_enum (s := { s with heap := h', toks := tk + 1 }) ho' fun h'' he' sb => ?_⟩
    have hT2 : h''.get? s.heap.objs.size = some { cls := .type "tuple", data := .seq #[.int i tk, z] } := (sb.2 _ (Nat.ne_of_gt hel)).trans hT
    have new : ObjOk X.prog X.w (upd H s.heap.objs.size (.tup [.int (i : Nat), x])) h'' s.heap.objs.size (.tup [.int (i : Nat), x]) :=
      ⟨by show 2 ≤ sizeLine; decide, [.int i tk, z], .cons ⟨_, rfl⟩ (.cons ru .nil), ⟨_, hT2, rfl, _, rfl⟩⟩
    have I1 : Inv X pins σ (upd H s.heap.objs.size (.tup [.int (i : Nat), x])) { s with heap := h'', toks := tk + 1 } :=
      I.turnedNew (ch := [e, it]) (fun b ob hb q => (sb.2 b (fun z => hb (by simp [z]))).trans (hk b ob (fun z => hb (by simp [z])) (fun z => hb (by simp [z])) q)) hf (Nat.le_refl _) new
    refine ⟨.ref s.heap.objs.size, _, I1, rfl, ⟨_, x, rfl, I.hok.fresh (Nat.le_refl _), rfl, fun ys hy => by rw [I.tuple_inj hy hq]; exact hx⟩, ⟨⟨z, ?_⟩, hst.1.at fun o q => (sb.2 it (Ne.symm hne)).trans q, hne⟩, fun b hb => ?_⟩
    · have e1 : ((i + 1 : Nat) : Int) = (i : Int) + 1 := by omega
      rw [e1]; exact he'
    · have hb' : b < s.heap.objs.size := by
        have e' : b = e ∨ b = it := by simpa using hb
        rcases e' with z | z
        · rw [z]; exact hel
        · rw [z]; exact hil
      rw [upd_ne (Nat.ne_of_lt hb')]
      exact (hf b hb).1
  done := by
    intro X hP hw hK hc i pins s σ H E I hf st hg
    subst hP hw hK
    obtain ⟨⟨old, he⟩, hit, hne⟩ := st
    obtain ⟨xs, hq, hx⟩ := hg
    obtain ⟨its, rv, p, hz⟩ := I.tuple hq
    obtain ⟨f0, f1, f2, f3, f4, f5⟩ := hf it (by simp)
    have hl := rv.length
    have pT : s.heap.IsTuple a its.toArray := p
    have hai : a ≠ it := by
      rintro rfl
      obtain ⟨o, ho, hc', hd⟩ := hit
      obtain ⟨o2, ho2, hc2, _⟩ := pT
      rw [ho] at ho2; cases ho2
      rw [hc'] at hc2
      exact absurd hc2 (by decide)
    have hsz : its.toArray.size = i := by simp; omega
    exact wpAny_pyNext_enum_endD (Draws.tuple (A := X.A.in1) (I.ok.hd hc) it a hai its.toArray) he (by rw [hsz]; exact ⟨hit, pT⟩) fun h' eb => ⟨rfl, I.turned (t' := s.toks) (fun b o hb q => eb b o hb q) f0 f1 f3 f4 f5⟩
  self := fun A i s Q E st h => let ⟨⟨_, he⟩, _⟩ := st; wpAny_pyIter_enum he h
def iEnumT (K : PySem.W.Frag) (ta : TA) : TI := fun σ H R => ta σ H fun vs H1 => ∃ a xs, vs = [.ref a] ∧ ((SqL K H1 a xs ∧ R (Ite K a) H1) ∨ (SqT K H1 a xs ∧ R (Itet K a) H1))
theorem pi_enumT {X : Cx} {e : Expr} {ta : TA} {p pos tpos : Pos} {elts : List Expr} {kk : Nat} (hg : Gl X "enumerate") (hm : X.mg "enumerate" = none) (ha : PA X [e] ta) (hs : starEach [e] X.env = (false, eval e X.env) :: starEach [] X.env) :
    PI X (.Tuple elts kk tpos) (.Call (.Name "enumerate" p) [e] [] pos) (iEnumT X.K ta) := by
  refine ⟨fun pins s σ H R I h => ?_⟩
  refine Call_ (ld_blt I hg hm boot_enumerate (PyProof.Rows.callWith_type1 (thn (ha.run pos pins s σ H _ I h) fun us s1 ⟨vs, H1, I1, r1, q1⟩ => ?_) hs rfl))
  obtain ⟨a, xs, ex, ⟨hq, q⟩ | ⟨hq, q⟩⟩ := q1
  · subst ex
    cases r1 with
    | cons r rr =>
      cases rr
      cases r
      obtain ⟨its, rv, p', hz⟩ := I1.list hq
      refine call_enumerate_list p'.isList fun h' he hit hsz hk => wpAny_pyIter_enum he ?_
      have I2 : Inv X pins σ H1 { s1 with heap := h' } := I1.kept (t' := s1.toks) hk
      refine ⟨s1.heap.objs.size + 1, [s1.heap.objs.size + 1, s1.heap.objs.size], _, _, H1, rfl, I2, turn_enum a (s1.heap.objs.size + 1) s1.heap.objs.size, ⟨⟨.none, he⟩, hit, Nat.succ_ne_self _⟩, fun b hb => ?_, q⟩
      have e' : b = s1.heap.objs.size + 1 ∨ b = s1.heap.objs.size := by simpa using hb
      have hle : s1.heap.objs.size ≤ b := by
        rcases e' with z | z
        · rw [z]; exact Nat.le_add_right _ _
        · rw [z]; exact Nat.le_refl _
      exact I1.fpOk hle (I1.hok.fresh hle)
  · subst ex
    cases r1 with
    | cons r rr =>
      cases rr
      cases r
      obtain ⟨its, rv, p', hz⟩ := I1.tuple hq
      refine call_enumerate_tuple (show s1.heap.IsTuple a its.toArray from p') fun h' he hit hsz hk => wpAny_pyIter_enum he ?_
      have I2 : Inv X pins σ H1 { s1 with heap := h' } := I1.kept (t' := s1.toks) hk
      refine ⟨s1.heap.objs.size + 1, [s1.heap.objs.size + 1, s1.heap.objs.size], _, _, H1, rfl, I2, turn_enumT a (s1.heap.objs.size + 1) s1.heap.objs.size, ⟨⟨.none, he⟩, hit, Nat.succ_ne_self _⟩, fun b hb => ?_, q⟩
      have e' : b = s1.heap.objs.size + 1 ∨ b = s1.heap.objs.size := by simpa using hb
      have hle : s1.heap.objs.size ≤ b := by
        rcases e' with z | z
        · rw [z]; exact Nat.le_add_right _ _
        · rw [z]; exact Nat.le_refl _
      exact I1.fpOk hle (I1.hok.fresh hle)
end Hf
end

section
set_option Elab.async false
set_option linter.all false
set_option maxRecDepth 100000
/-! HfS9: what is walked, by trees; targets. -/
namespace Hf
open PySem PySem.Spec PyProof.Rows L2
/-! ### beq is = -/
mutual
theorem T.beq_eq : ∀ {a b : T}, T.beq a b = true → a = b
  | .non, b, h => by cases b <;> simp_all [T.beq]
  | .bl _, b, h => by cases b <;> simp_all [T.beq]
  | .int _, b, h => by cases b <;> simp_all [T.beq]
  | .str _, b, h => by cases b <;> simp_all [T.beq]
  | .lst xs, b, h => by
    cases b <;> simp only [T.beq] at h <;> try contradiction
    rw [T.beqAll_eq h]
  | .tup xs, b, h => by
    cases b <;> simp only [T.beq] at h <;> try contradiction
    rw [T.beqAll_eq h]
  | .ref _, b, h => by cases b <;> simp_all [T.beq]
  | .fn _, b, h => by cases b <;> simp_all [T.beq]
  | .dic xs, b, h => by
    cases b <;> simp only [T.beq] at h <;> try contradiction
    rw [T.beqKs_eq h]
  | .ins _ _, b, h => by cases b <;> simp only [T.beq] at h <;> contradiction
theorem T.beqAll_eq : ∀ {a b : List T}, T.beqAll a b = true → a = b
  | [], [], _ => rfl
  | [], _ :: _, h => by simp [T.beqAll] at h
  | _ :: _, [], h => by simp [T.beqAll] at h
  | x :: xs, y :: ys, h => by
    simp only [T.beqAll, Bool.and_eq_true] at h
    rw [T.beq_eq h.1, T.beqAll_eq h.2]
theorem T.beqKs_eq : ∀ {a b : List (T × T)}, T.beqKs a b = true → a = b
  | [], [], _ => rfl
  | [], _ :: _, h => by simp [T.beqKs] at h
  | _ :: _, [], h => by simp [T.beqKs] at h
  | (k, x) :: xs, (l, y) :: ys, h => by
    simp only [T.beqKs, Bool.and_eq_true] at h
    rw [T.beq_eq h.1.1, T.beq_eq h.1.2, T.beqKs_eq h.2]
end
/-- what is walked stands as it stood -/
def Still (c : T) (xs : List T) (S : Store) : Prop := ∀ n, c = .ref n → S[n]? = some (.lst xs)
theorem still_of {c : T} {xs : List T} {S : Store} (h : still c xs S = true) : Still c xs S := by
  rintro n rfl
  unfold still at h
  cases e : S[n]? with
  | none => simp [e] at h
  | some u =>
    cases u with
    | lst ys =>
      simp only [e] at h
      rw [T.beqAll_eq h]
/-- J gives the trees xs of c, in what Rel tells -/
structure Walked (d : D) (Rel : Gh → Hp → Prop) (p : T × List T) (J : It) : Prop where
  small : p.2.length ≤ sizeLine
  go : ∀ G' S' H', Rel G' H' → RepS d G' S' H' → Still p.1 p.2 S' → ∀ i, i < p.2.length → J.go i H'
  stop : ∀ G' S' H', Rel G' H' → RepS d G' S' H' → Still p.1 p.2 S' → J.stop p.2.length H'
  yld : ∀ G' S' H', Rel G' H' → RepS d G' S' H' → Still p.1 p.2 S' → ∀ i x H'', i < p.2.length → J.yld i H' x H'' → ∃ t G'', p.2[i]? = some t ∧ Step G' G'' H' H'' ∧ RepS d G'' S' H'' ∧ RepV d G'' t x
theorem Walked.weak {d : D} {Rel Rel' : Gh → Hp → Prop} {p : T × List T} {J : It} (w : Walked d Rel p J) (h : ∀ G H, Rel' G H → Rel G H) : Walked d Rel' p J :=
  ⟨w.small, fun G' S' H' t => w.go G' S' H' (h _ _ t), fun G' S' H' t => w.stop G' S' H' (h _ _ t), fun G' S' H' t => w.yld G' S' H' (h _ _ t)⟩
abbrev RI (d : D) : Env → L2.St → Hp → Gh → Hp → T × List T → It → Prop := fun _ _ _ G H p J => Walked d (fun G' H' => Step G G' H H') p J
abbrev RIe (d : D) : Env → L2.St → Hp → Gh → Hp → T × List T → It → Prop := fun _ _ _ G H p J => Walked d (fun G' _ => Le G G') p J
abbrev tItE (d : D) (W : WX) (m : Env → Store → Res (T × List T)) : TI := tG d W (RIe d) m
abbrev tIt (d : D) (W : WX) (m : Env → Store → Res (T × List T)) : TI := tG d W (RI d) m
/-- anything that stays at one place -/
theorem walked_seq {d : D} {Rel : Gh → Hp → Prop} {c : T} {xs : List T} {J : It} {Sq : Hp → Prop} {vs : List V} (hz : vs.length ≤ sizeLine) (hl : xs.length = vs.length)
    (hs : ∀ G' S' H', Rel G' H' → RepS d G' S' H' → Still c xs S' → Sq H' ∧ ∃ ws, ws.length = vs.length ∧ RepAll d G' xs ws ∧ (∀ i, i < xs.length → J.go i H') ∧ J.stop xs.length H' ∧ ∀ i x H'', i < xs.length → J.yld i H' x H'' → H'' = H' ∧ ws[i]? = some x) : Walked d Rel (c, xs) J where
  small := by show xs.length ≤ _; omega
  go := fun G' S' H' s R st i hi => by
    obtain ⟨_, ws, _, _, h, _⟩ := hs G' S' H' s R st
    exact h i hi
  stop := fun G' S' H' s R st => by
    obtain ⟨_, ws, _, _, _, h, _⟩ := hs G' S' H' s R st
    exact h
  yld := fun G' S' H' s R st i x H'' hi y => by
    obtain ⟨_, ws, _, ra, _, _, h⟩ := hs G' S' H' s R st
    obtain ⟨rfl, e⟩ := h i x H'' hi y
    obtain ⟨t, e1, r⟩ := ra.getV e
    exact ⟨t, G', e1, Step.refl _ _, R, r⟩
section
variable {X : Cx} {d : D} {W : WX} {tg it : Expr}
/-- a list, a tuple or a text, as it comes -/
def iAny (K : PySem.W.Frag) (te : TE) : TI := fun σ H R => te σ H fun v H1 => (∃ a xs, v = .ref a ∧ SqL K H1 a xs ∧ R (Itl K a) H1) ∨ (∃ a xs, v = .ref a ∧ SqT K H1 a xs ∧ R (Itt K a) H1) ∨ ∃ x, v = .str x ∧ R (Its x) H1
theorem pi_any {l : Expr} {tl : TE} (hl : PE X l tl) : PI X tg l (iAny X.K tl) := by
  refine ⟨fun pins s σ H R I h => ?_⟩
  refine thn (hl.run pins s σ H _ I h) fun v s1 ⟨x, H1, I1, r1, q1⟩ => ?_
  rcases q1 with ⟨a, xs, e, hq, q⟩ | ⟨a, xs, e, hq, q⟩ | ⟨z, e, q⟩
  · subst e
    cases r1
    obtain ⟨its, rv, p, hz⟩ := I1.list hq
    refine wpAny_pyIter_list p.isList ?_
    refine ⟨s1.heap.objs.size, [s1.heap.objs.size], _, _, H1, rfl, I1.kept (t' := s1.toks) fun b o e => Heap.get?_push_of_some _ e, turn_list a _, ⟨_, Heap.get?_push_size _ rfl, rfl, rfl⟩, fun b hb => ?_, q⟩
    have e : b = s1.heap.objs.size := by simpa using hb
    subst e
    exact I1.fpOk (Nat.le_refl _) (I1.hok.fresh (Nat.le_refl _))
  · subst e
    cases r1
    obtain ⟨its, rv, p, hz⟩ := I1.tuple hq
    refine wpAny_pyIter_tuple (show s1.heap.IsTuple a its.toArray from p) ?_
    refine ⟨s1.heap.objs.size, [s1.heap.objs.size], _, _, H1, rfl, I1.kept (t' := s1.toks) fun b o e => Heap.get?_push_of_some _ e, turn_tuple a _, ⟨_, Heap.get?_push_size _ rfl, rfl, rfl⟩, fun b hb => ?_, q⟩
    have e : b = s1.heap.objs.size := by simpa using hb
    subst e
    exact I1.fpOk (Nat.le_refl _) (I1.hok.fresh (Nat.le_refl _))
  · subst e
    obtain ⟨t, rfl⟩ := r1
    cases ha : z.cps.all (· < 128)
    · exact wpAny_pyIter_wide ha (pi_one (tk := s1.toks) I1 _ (turn_str _ z t "str_iterator" (.inr rfl)) ⟨_, Heap.get?_push_size _ rfl, rfl, rfl⟩ q)
    · exact wpAny_pyIter_ascii ha (pi_one (tk := s1.toks) I1 _ (turn_str _ z t "str_ascii_iterator" (.inl rfl)) ⟨_, Heap.get?_push_size _ rfl, rfl, rfl⟩ q)
/-- where a looked-at list stands, and that it stays -/
theorem lst_stays {G : Gh} {r : Env} {S : Store} {σ : L2.St} {H : Hp} {c : T} {xs : List T} {v : V} (R : RepS d G S H) (E : RepE d G r σ H) (h : RepW d G r σ c v) (e : look S c = .lst xs) :
    ∃ a vs, v = .ref a ∧ vs.length ≤ sizeLine ∧ xs.length = vs.length ∧ L2.Rd H a (.lst vs) ∧ ∀ G' S' H', Step G G' H H' → RepS d G' S' H' → Still c xs S' → ∃ ws, ws.length = vs.length ∧ L2.Rd H' a (.lst ws) ∧ RepAll d G' xs ws := by
  rcases h with h | ⟨i, hi, ⟨ys, hr, rfl⟩ | ⟨c', fs, hr, rfl⟩⟩
  · cases c <;> simp only [look] at e <;> try contradiction
    · rename_i ys
      cases e
      obtain ⟨a, vs, rfl, q, z, ra⟩ := h
      exact ⟨a, vs, rfl, z, ra.length, Rd.imm R q, fun G' S' H' s R' _ => ⟨vs, rfl, Rd.imm R' (Rd.le s.le q), RepAll.le s.le _ ra⟩⟩
    · rename_i n
      obtain ⟨a, rfl, hm⟩ := h
      cases e1 : S[n]? with
      | none => simp [e1] at e
      | some u =>
        cases u with
        | lst ys =>
          simp only [e1] at e
          cases e
          obtain ⟨b, vs, h1, h2, z, h3⟩ := R.cell n xs e1
          rw [hm] at h1; cases h1
          refine ⟨a, vs, rfl, z, h3.length, .inl h2, fun G' S' H' s R' st => ?_⟩
          obtain ⟨b, ws, k1, k2, z2, k3⟩ := R'.cell n xs (st n rfl)
          rw [s.le.mu_get hm] at k1; cases k1
          exact ⟨ws, by rw [← k3.length, h3.length], .inl k2, k3⟩
  · have e' : ys = xs := by simpa [look] using e
    subst e'
    obtain ⟨a, vs, h1, h2, z, h3, h4, h5⟩ := E.own i ys hr
    rw [hi] at h1; cases h1
    exact ⟨a, vs, rfl, z, h3.length, .inl h2, fun G' S' H' s R' _ => ⟨vs, rfl, .inl (s.keep _ _ h2 h5), RepAll.le s.le _ h3⟩⟩
  · simp [look] at e
theorem tup_stays {G : Gh} {r : Env} {S : Store} {σ : L2.St} {c : T} {xs : List T} {v : V} (h : RepW d G r σ c v) (e : look S c = .tup xs) :
    ∃ a vs, v = .ref a ∧ vs.length ≤ sizeLine ∧ RepAll d G xs vs ∧ SqT d.K G.I a vs := by
  rcases h with h | ⟨i, hi, ⟨ys, hr, rfl⟩ | ⟨c', fs, hr, rfl⟩⟩
  · cases c <;> simp only [look] at e <;> try contradiction
    · cases e
      obtain ⟨a, vs, rfl, q, z, ra⟩ := h
      exact ⟨a, vs, rfl, z, ra, q⟩
    · rename_i n
      cases e1 : S[n]? with
      | none => simp [e1] at e
      | some u => cases u with
        | lst ys => simp [e1] at e
  · simp [look] at e
  · simp [look] at e
theorem str_stays {G : Gh} {r : Env} {S : Store} {σ : L2.St} {c : T} {z : List Nat} {v : V} (h : RepW d G r σ c v) (e : look S c = .str z) : RepV d G (.str z) v := by
  rcases h with h | ⟨i, hi, ⟨ys, hr, rfl⟩ | ⟨c', fs, hr, rfl⟩⟩
  · cases c <;> simp only [look] at e <;> try contradiction
    · cases e; exact h
    · rename_i n
      cases e1 : S[n]? with
      | none => simp [e1] at e
      | some u => cases u with
        | lst ys => simp [e1] at e
  · simp [look] at e
  · simp [look] at e
theorem i_any {m : Env → Store → Res T} (hK : d.K = X.K) (h : PE X it (tW d W m)) : PI X tg it (tIt d W fun r S => itM (m r S)) := by
  refine PI_imp (pi_any h) fun σ H R ⟨G, r, S, RS, RE, q⟩ => ⟨G, r, S, RS, RE, ?_⟩
  refine Post.bind0 q fun c S1 _ q1 G1 v H1 s1 R1 rv => ?_
  have E1 := RE.step s1
  cases e : look S1 c <;> simp only [e, T.items] at q1 <;> try exact q1.elim
  · rename_i z
    have rz := str_stays rv e
    obtain ⟨rfl, hz, hall⟩ := rz
    refine .inr (.inr ⟨_, rfl, q1 G1 _ H1 s1 R1 ?_⟩)
    have hsz : (sk z).cps.size = z.length := by simp
    refine ⟨by simp; exact hz, fun G' S' H' _ _ _ i hi => ?_, fun G' S' H' _ _ _ => ?_, fun G' S' H' s R' _ i x H'' hi y => ?_⟩
    · show i < (sk z).cps.size
      rw [hsz]; simpa using hi
    · show (sk z).cps.size ≤ _
      rw [hsz]; simp
    · obtain ⟨rfl, cp, hcp, rfl⟩ := y
      have hcp' : z[i]? = some cp := by simpa using hcp
      refine ⟨.str [cp], G', by simp [hcp'], Step.refl _ _, R', ?_⟩
      have hm : cp ∈ z := List.mem_of_getElem? hcp'
      refine ⟨rfl, by rw [sizeLine_eq]; simp, ?_⟩
      simp only [List.all_eq_true] at hall
      simp only [List.all_cons, List.all_nil, Bool.and_true]
      exact hall cp hm
  · rename_i xs
    obtain ⟨a, vs, rfl, z, ra, q⟩ := tup_stays rv e
    refine .inr (.inl ⟨a, vs, rfl, hK ▸ R1.sqT q, q1 G1 _ H1 s1 R1 ?_⟩)
    refine walked_seq (Sq := fun _ => True) z ra.length fun G' S' H' s R' _ => ?_
    have sq : SqT X.K H' a vs := hK ▸ R'.sqT (SqT.le s.le q)
    have wk := walk_tup (K := X.K) (a := a) (xs := vs)
    exact ⟨trivial, vs, rfl, RepAll.le s.le _ ra, fun i hi => wk.goes i H' (by rw [← ra.length]; exact hi) sq, by rw [ra.length]; exact wk.stops H' sq, fun i x H'' hi y => wk.yields i H' x H'' (by rw [← ra.length]; exact hi) sq y⟩
  · rename_i xs
    obtain ⟨a, vs, rfl, z, hl, q, st⟩ := lst_stays R1 E1 rv e
    refine .inl ⟨a, vs, rfl, .inl q, q1 G1 _ H1 s1 R1 ?_⟩
    refine walked_seq (Sq := fun _ => True) z hl fun G' S' H' s R' sl => ?_
    obtain ⟨ws, lw, rd, ra⟩ := st G' S' H' s R' sl
    have sq : SqL X.K H' a ws := .inl rd
    have wk := walk_list (K := X.K) (a := a) (xs := ws)
    exact ⟨trivial, ws, lw, ra, fun i hi => wk.goes i H' (by rw [lw, ← hl]; exact hi) sq, by rw [hl, ← lw]; exact wk.stops H' sq, fun i x H'' hi y => wk.yields i H' x H'' (by rw [lw, ← hl]; exact hi) sq y⟩
theorem i_weak {m : Env → Store → Res (T × List T)} (h : PI X tg it (tItE d W m)) : PI X tg it (tIt d W m) :=
  PI_imp h fun σ H R ⟨G, r, S, RS, RE, q⟩ => ⟨G, r, S, RS, RE, q.imp fun p S1 G1 J H1 _ s1 R1 k w => k G1 J H1 s1 R1 (w.weak fun _ _ s => s.le)⟩
theorem i_anyE {m : Env → Store → Res T} (hK : d.K = X.K) (h : PE X it (tE d W m)) : PI X tg it (tItE d W fun r S => itM (m r S)) := by
  refine PI_imp (pi_any h) fun σ H R ⟨G, r, S, RS, RE, q⟩ => ⟨G, r, S, RS, RE, ?_⟩
  refine Post.bind0 q fun c S1 e0 q1 G1 v H1 s1 R1 rv => ?_
  cases e : look S1 c <;> simp only [e, T.items] at q1 <;> try exact q1.elim
  · rename_i z
    have rz := str_stays (r := r) (σ := σ) (.inl rv) e
    obtain ⟨rfl, hz, hall⟩ := rz
    refine .inr (.inr ⟨_, rfl, q1 G1 _ H1 s1 R1 ?_⟩)
    have hsz : (sk z).cps.size = z.length := by simp
    refine ⟨by simp; exact hz, fun G' S' H' _ _ _ i hi => ?_, fun G' S' H' _ _ _ => ?_, fun G' S' H' s R' _ i x H'' hi y => ?_⟩
    · show i < (sk z).cps.size
      rw [hsz]; simpa using hi
    · show (sk z).cps.size ≤ _
      rw [hsz]; simp
    · obtain ⟨rfl, cp, hcp, rfl⟩ := y
      have hcp' : z[i]? = some cp := by simpa using hcp
      refine ⟨.str [cp], G', by simp [hcp'], Step.refl _ _, R', ?_⟩
      have hm : cp ∈ z := List.mem_of_getElem? hcp'
      refine ⟨rfl, by rw [sizeLine_eq]; simp, ?_⟩
      simp only [List.all_eq_true] at hall
      simp only [List.all_cons, List.all_nil, Bool.and_true]
      exact hall cp hm
  · rename_i xs
    obtain ⟨a, vs, rfl, z, ra, q⟩ := tup_stays (r := r) (σ := σ) (.inl rv) e
    refine .inr (.inl ⟨a, vs, rfl, hK ▸ R1.sqT q, q1 G1 _ H1 s1 R1 ?_⟩)
    refine walked_seq (Sq := fun _ => True) z ra.length fun G' S' H' s R' _ => ?_
    have sq : SqT X.K H' a vs := hK ▸ R'.sqT (SqT.le s q)
    have wk := walk_tup (K := X.K) (a := a) (xs := vs)
    exact ⟨trivial, vs, rfl, RepAll.le s _ ra, fun i hi => wk.goes i H' (by rw [← ra.length]; exact hi) sq, by rw [ra.length]; exact wk.stops H' sq, fun i x H'' hi y => wk.yields i H' x H'' (by rw [← ra.length]; exact hi) sq y⟩
  · rename_i xs
    have st : ∃ a vs, v = .ref a ∧ vs.length ≤ sizeLine ∧ xs.length = vs.length ∧ L2.Rd H1 a (.lst vs) ∧ ∀ G' S' H', Le G1 G' → RepS d G' S' H' → Still c xs S' → ∃ ws, ws.length = vs.length ∧ L2.Rd H' a (.lst ws) ∧ RepAll d G' xs ws := by
      cases c <;> simp only [look] at e <;> try contradiction
      · rename_i ys
        cases e
        obtain ⟨a, vs, rfl, q, z, ra⟩ := rv
        exact ⟨a, vs, rfl, z, ra.length, Rd.imm R1 q, fun G' S' H' s R' _ => ⟨vs, rfl, Rd.imm R' (Rd.le s q), RepAll.le s _ ra⟩⟩
      · rename_i n
        obtain ⟨a, rfl, hm⟩ := rv
        cases e1 : S1[n]? with
        | none => simp [e1] at e
        | some u =>
          cases u with
          | lst ys =>
            simp only [e1] at e
            cases e
            obtain ⟨b, vs, h1, h2, z, h3⟩ := R1.cell n xs e1
            rw [hm] at h1; cases h1
            refine ⟨a, vs, rfl, z, h3.length, .inl h2, fun G' S' H' s R' st => ?_⟩
            obtain ⟨b, ws, k1, k2, z2, k3⟩ := R'.cell n xs (st n rfl)
            rw [s.mu_get hm] at k1; cases k1
            exact ⟨ws, by rw [← k3.length, h3.length], .inl k2, k3⟩
    obtain ⟨a, vs, rfl, z, hl, q, st⟩ := st
    refine .inl ⟨a, vs, rfl, .inl q, q1 G1 _ H1 s1 R1 ?_⟩
    refine walked_seq (Sq := fun _ => True) z hl fun G' S' H' s R' sl => ?_
    obtain ⟨ws, lw, rd, ra⟩ := st G' S' H' s R' sl
    have sq : SqL X.K H' a ws := .inl rd
    have wk := walk_list (K := X.K) (a := a) (xs := ws)
    exact ⟨trivial, ws, lw, ra, fun i hi => wk.goes i H' (by rw [lw, ← hl]; exact hi) sq, by rw [hl, ← lw]; exact wk.stops H' sq, fun i x H'' hi y => wk.yields i H' x H'' (by rw [lw, ← hl]; exact hi) sq y⟩
/-! ### range -/
theorem rangeL_get {lo hi : Int} {i : Nat} (h : i < (hi - lo).toNat) : (rangeL lo hi)[i]? = some (.int (lo + (i : Nat))) := by
  unfold rangeL
  rw [List.getElem?_map, List.getElem?_range h]
  rfl
theorem rangeL_len (lo hi : Int) : (rangeL lo hi).length = (hi - lo).toNat := by unfold rangeL; rw [List.length_map, List.length_range]
theorem walked_rng {Rel : Gh → Hp → Prop} {lo hi : Int} (h : hi - lo ≤ 16777216) : Walked d Rel (.lst (rangeL lo hi), rangeL lo hi) (Itr lo (hi - lo).toNat) := by
  have hl := rangeL_len lo hi
  refine ⟨by show (rangeL lo hi).length ≤ _; rw [hl, sizeLine_eq]; omega, fun G' S' H' _ _ _ i hi' => ?_, fun G' S' H' _ _ _ => ?_, fun G' S' H' s R _ i x H'' hi' y => ?_⟩
  · show i < _
    rw [← hl]; exact hi'
  · show _ ≤ (rangeL lo hi).length
    rw [hl]; exact Nat.le_refl _
  · obtain ⟨rfl, rfl⟩ := y
    have hi2 : i < (hi - lo).toNat := by rw [← hl]; exact hi'
    exact ⟨_, G', rangeL_get hi2, Step.refl _ _, R, rfl⟩
variable {a b e : Expr} {pos p tpos : Pos} {ma mb : Env → Store → Res T}
def rngM (ma : Env → Store → Res T) : Env → Store → Res T := fun r S => (ma r S).bind fun x S => asI x S fun i S => if i ≤ 16777216 ∧ -(2 ^ 60) < i then .ok (.lst (rangeL 0 i)) S else .bad
def rng2M (ma mb : Env → Store → Res T) : Env → Store → Res T := fun r S => (ma r S).bind fun x S => (mb r S).bind fun y S => asI x S fun i S => asI y S fun j S => if (-(2 ^ 60) < i ∧ i < 2 ^ 60) ∧ -(2 ^ 60) < j ∧ j < 2 ^ 60 ∧ j - i ≤ 16777216 then .ok (.lst (rangeL i j)) S else .bad
theorem i_rng (hg : Gl X "range") (hm : X.mg "range" = none) (ha : PE X a (tE d W ma)) (hs : starEach [a] X.env = (false, eval a X.env) :: starEach [] X.env) :
    PI X tg (.Call (.Name "range" p) [a] [] pos) (tItE d W fun r S => itM (rngM ma r S)) := by
  refine PI_imp (pi_range1 hg hm (s_cons ha s_nil hs) hs) fun σ H R ⟨G, r, S, RS, RE, q⟩ => ⟨G, r, S, RS, RE, ?_⟩
  have q : Post d W σ (RIe d r σ H) G H R (itM (rngM ma r S)) := q
  unfold rngM at q
  show Post d W σ _ G H _ ((ma r S).bind fun x S => (Res.ok [] S).bind fun xs S => .ok (x :: xs) S)
  cases e1 : ma r S with
  | bad => rw [e1] at q; exact q.elim
  | exn c S2 => rw [e1] at q; exact q
  | ok x S2 =>
    rw [e1] at q
    intro G2 vs H2 s2 R2 rv
    cases x <;> try exact q.elim
    rename_i i
    have q : Post d W σ (RIe d r σ H) G H R (itM (if i ≤ 16777216 ∧ -(2 ^ 60) < i then .ok (.lst (rangeL 0 i)) S2 else .bad)) := q
    split at q <;> try exact q.elim
    rename_i hb
    cases vs with
    | nil => exact rv.elim
    | cons v vs =>
      cases vs with
      | cons _ _ => exact rv.2.elim
      | nil =>
        have e2 : v = .int i := rv.1
        subst e2
        refine ⟨i, rfl, by omega, by omega, q G2 _ H2 s2 R2 ?_⟩
        have := walked_rng (d := d) (Rel := fun G' _ => Le G2 G') (lo := 0) (hi := i) (by omega)
        rw [show i - 0 = i from by omega] at this
        exact this
theorem i_rng2 (hg : Gl X "range") (hm : X.mg "range" = none) (ha : PE X a (tE d W ma)) (hb : PE X b (tE d W mb)) (hs : starEach [a, b] X.env = (false, eval a X.env) :: starEach [b] X.env) (hs2 : starEach [b] X.env = (false, eval b X.env) :: starEach [] X.env) :
    PI X tg (.Call (.Name "range" p) [a, b] [] pos) (tItE d W fun r S => itM (rng2M ma mb r S)) := by
  refine PI_imp (pi_range2 hg hm (s_cons ha (s_cons hb s_nil hs2) hs) (hs.trans (by rw [hs2]; rfl)) hs2) fun σ H R ⟨G, r, S, RS, RE, q⟩ => ⟨G, r, S, RS, RE, ?_⟩
  have q : Post d W σ (RIe d r σ H) G H R (itM (rng2M ma mb r S)) := q
  unfold rng2M at q
  show Post d W σ _ G H _ ((ma r S).bind fun x S => ((mb r S).bind fun y S => (Res.ok [] S).bind fun xs S => .ok (y :: xs) S).bind fun xs S => .ok (x :: xs) S)
  cases e1 : ma r S with
  | bad => rw [e1] at q; exact q.elim
  | exn c S2 => rw [e1] at q; exact q
  | ok x S2 =>
    rw [e1] at q
    show Post d W σ _ G H _ (((mb r S2).bind fun y S => (Res.ok [] S).bind fun xs S => .ok (y :: xs) S).bind fun xs S => .ok (x :: xs) S)
    have q : Post d W σ (RIe d r σ H) G H R (itM ((mb r S2).bind fun y S => asI x S fun i S => asI y S fun j S => if (-(2 ^ 60) < i ∧ i < 2 ^ 60) ∧ -(2 ^ 60) < j ∧ j < 2 ^ 60 ∧ j - i ≤ 16777216 then .ok (.lst (rangeL i j)) S else .bad)) := q
    cases e2 : mb r S2 with
    | bad => rw [e2] at q; exact q.elim
    | exn c S3 => rw [e2] at q; exact q
    | ok y S3 =>
      rw [e2] at q
      intro G2 vs H2 s2 R2 rv
      obtain ⟨i, rfl⟩ : ∃ i, x = .int i := by cases x <;> first | exact q.elim | exact ⟨_, rfl⟩
      obtain ⟨j, rfl⟩ : ∃ i, y = .int i := by cases y <;> first | exact q.elim | exact ⟨_, rfl⟩
      have q : Post d W σ (RIe d r σ H) G H R (itM (if (-(2 ^ 60) < i ∧ i < 2 ^ 60) ∧ -(2 ^ 60) < j ∧ j < 2 ^ 60 ∧ j - i ≤ 16777216 then .ok (.lst (rangeL i j)) S3 else .bad)) := q
      split at q <;> try exact q.elim
      rename_i hb
      match vs, rv with
      | [v, w], rv =>
        have e3 : v = .int i := rv.1
        have e4 : w = .int j := rv.2.1
        subst e3 e4
        exact ⟨i, j, rfl, by omega, q G2 _ H2 s2 R2 (walked_rng (by omega))⟩
      | [], rv => exact rv.elim
      | [_], rv => exact rv.2.elim
      | _ :: _ :: _ :: _, rv => exact rv.2.2.elim
/-! ### enumerate -/
theorem enumL_get : ∀ {xs : List T} {n i : Nat} {t : T}, xs[i]? = some t → (enumL n xs)[i]? = some (.tup [.int ((n + i : Nat) : Int), t])
  | [], _, _, _, e => by simp at e
  | x :: xs, n, 0, t, e => by
    simp at e; subst e; rfl
  | x :: xs, n, i + 1, t, e => by
    have := enumL_get (n := n + 1) (i := i) (t := t) (xs := xs) (by simpa using e)
    have e2 : n + 1 + i = n + (i + 1) := by omega
    rw [e2] at this
    simpa [enumL] using this
theorem enumL_len : ∀ (xs : List T) (n : Nat), (enumL n xs).length = xs.length
  | [], _ => rfl
  | x :: xs, n => by simp [enumL, enumL_len xs (n + 1)]
def enumM (ma : Env → Store → Res T) : Env → Store → Res T := fun r S => (ma r S).bind fun c S => match c with
    | .lst xs => .ok (.lst (enumL 0 xs)) S
    | .tup xs => .ok (.lst (enumL 0 xs)) S
    | _ => .bad
theorem walked_enum {G : Gh} {xs : List T} {vs : List V} {J : It} (hz : vs.length ≤ sizeLine) (ra : RepAll d G xs vs)
    (hs : ∀ G' S' H', Le G G' → RepS d G' S' H' → (∀ i, i < vs.length → J.go i H') ∧ J.stop vs.length H' ∧ ∀ i v H'', J.yld i H' v H'' → ∃ T x, v = .ref T ∧ H' T = none ∧ H'' = upd H' T (.tup [.int (i : Nat), x]) ∧ vs[i]? = some x) : Walked d (fun G' _ => Le G G') (.lst (enumL 0 xs), enumL 0 xs) J := by
  have hl := ra.length
  refine ⟨by show (enumL 0 xs).length ≤ _; rw [enumL_len]; omega, fun G' S' H' s R _ i hi => ?_, fun G' S' H' s R _ => ?_, fun G' S' H' s R _ i v H'' hi y => ?_⟩
  · refine (hs G' S' H' s R).1 i ?_
    have h2 : i < (enumL 0 xs).length := hi
    rw [enumL_len] at h2; omega
  · have := (hs G' S' H' s R).2.1
    show J.stop (enumL 0 xs).length H'
    rw [enumL_len, hl]; exact this
  · obtain ⟨T, x, rfl, hT, rfl, hx⟩ := (hs G' S' H' s R).2.2 i v H'' y
    obtain ⟨t, ht, rt⟩ := ra.getV hx
    obtain ⟨s2, R2, v2⟩ := new_tup (d := d) (xs := [.int (i : Nat), t]) (vs := [.int (i : Nat), x]) R (by rw [sizeLine_eq]; simp) ⟨rfl, RepV.le s t rt, trivial⟩ hT
    refine ⟨_, _, ?_, s2, R2, v2⟩
    have := enumL_get (n := 0) ht
    rw [Nat.zero_add] at this
    exact this
theorem i_enum {elts : List Expr} {kk : Nat} (hK : d.K = X.K) (hg : Gl X "enumerate") (hm : X.mg "enumerate" = none) (ha : PE X a (tE d W ma)) (hs : starEach [a] X.env = (false, eval a X.env) :: starEach [] X.env) :
    PI X (.Tuple elts kk tpos) (.Call (.Name "enumerate" p) [a] [] pos) (tItE d W fun r S => itM (enumM ma r S)) := by
  refine PI_imp (pi_enumT hg hm (s_cons ha s_nil hs) hs) fun σ H R ⟨G, r, S, RS, RE, q⟩ => ⟨G, r, S, RS, RE, ?_⟩
  have q : Post d W σ (RIe d r σ H) G H R (itM (enumM ma r S)) := q
  unfold enumM at q
  show Post d W σ _ G H _ ((ma r S).bind fun x S => (Res.ok [] S).bind fun xs S => .ok (x :: xs) S)
  cases e1 : ma r S with
  | bad => rw [e1] at q; exact q.elim
  | exn c S2 => rw [e1] at q; exact q
  | ok x S2 =>
    rw [e1] at q
    intro G2 vs H2 s2 R2 rv
    match vs, rv with
    | [v], rv =>
      have rv := rv.1
      obtain ⟨xs, rfl | rfl⟩ : ∃ xs, x = .tup xs ∨ x = .lst xs := by cases x <;> first | exact q.elim | exact ⟨_, .inl rfl⟩ | exact ⟨_, .inr rfl⟩
      · obtain ⟨a, vs, rfl, sq, z, ra⟩ := rv
        have q : Post d W σ (RIe d r σ H) G H R (.ok (.lst (enumL 0 xs), enumL 0 xs) S2) := q
        refine ⟨a, vs, rfl, .inr ⟨hK ▸ R2.sqT sq, q G2 _ H2 s2 R2 (walked_enum z ra fun G' S' H' s R' => ?_)⟩⟩
        have sq' : SqT X.K H' a vs := hK ▸ R'.sqT (SqT.le s sq)
        exact ⟨fun i hi => ⟨vs, vs[i], sq', by simp [hi]⟩, ⟨vs, sq', rfl⟩, fun i v H'' ⟨T, x, h1, h2, h3, h4⟩ => ⟨T, x, h1, h2, h3, h4 vs sq'⟩⟩
      · obtain ⟨a, vs, rfl, sq, z, ra⟩ := rv
        have q : Post d W σ (RIe d r σ H) G H R (.ok (.lst (enumL 0 xs), enumL 0 xs) S2) := q
        refine ⟨a, vs, rfl, .inl ⟨.inl (Rd.imm R2 sq), q G2 _ H2 s2 R2 (walked_enum z ra fun G' S' H' s R' => ?_)⟩⟩
        have sq' : SqL X.K H' a vs := .inl (Rd.imm R' (Rd.le s sq))
        exact ⟨fun i hi => ⟨vs, vs[i], sq', by simp [hi]⟩, ⟨vs, sq', Nat.le_refl _⟩, fun i v H'' ⟨T, x, h1, h2, h3, h4⟩ => ⟨T, x, h1, h2, h3, h4 vs sq'⟩⟩
    | [], rv => exact rv.elim
    | _ :: _ :: _, rv => exact rv.2.elim
end
end Hf
end

section
set_option Elab.async false
set_option linter.all false
set_option maxRecDepth 100000
/-! HfS10: targets, comprehensions by trees. -/
namespace Hf
open PySem PySem.Spec PyProof.Rows L2
theorem get_set {α : Type} {l : List α} {i j : Nat} {a b : α} (h : (l.set i a)[j]? = some b) : (j = i ∧ a = b ∧ i < l.length) ∨ (j ≠ i ∧ l[j]? = some b) := by
  by_cases e : i = j
  · subst e
    by_cases hl : i < l.length
    · rw [List.getElem?_set_self hl] at h
      exact .inl ⟨rfl, Option.some.inj h, hl⟩
    · rw [List.getElem?_eq_none (by simpa using hl)] at h; cases h
  · rw [List.getElem?_set_ne e] at h
    exact .inr ⟨fun q => e q.symm, h⟩
section
variable {d : D} {G : Gh} {r : Env} {σ : L2.St} {H : Hp}
/-- a slot is set to a value, or forgotten -/
theorem RepE.put (E : RepE d G r σ H) {i : Nat} {sl : Slot} {o : Option V} (h : (sl = .no) ∨ ∃ t v, sl = .val t ∧ o = some v ∧ RepV d G t v) : RepE d G (r.set i sl) (σ.set i o) H := by
  refine ⟨by rw [List.length_set, List.length_set]; exact E.len, fun j t e => ?_, fun j xs e => ?_, fun j k xs ys a e1 e2 e3 e4 => ?_, fun j c fs e => ?_, fun j c e => ?_⟩
  · rcases get_set e with ⟨rfl, e1, hl⟩ | ⟨hne, e⟩
    · rcases h with h | ⟨t', v, h1, h2, h3⟩
      · rw [h] at e1; cases e1
      · rw [h1] at e1; cases e1
        rw [E.len] at hl
        exact ⟨v, by rw [List.getElem?_set_self hl, h2], h3⟩
    · rw [List.getElem?_set_ne (Ne.symm hne)]; exact E.slot j t e
  · rcases get_set e with ⟨rfl, e1, hl⟩ | ⟨hne, e⟩
    · rcases h with h | ⟨t', v, h1, h2, h3⟩
      · rw [h] at e1; cases e1
      · rw [h1] at e1; cases e1
    · rw [List.getElem?_set_ne (Ne.symm hne)]; exact E.own j xs e
  · have nj : j ≠ i ∧ r[j]? = some (Slot.own xs) := by
      rcases get_set e1 with ⟨rfl, q, hl⟩ | q
      · rcases h with h | ⟨t', v, h1, h2, h3⟩
        · rw [h] at q; cases q
        · rw [h1] at q; cases q
      · exact q
    have nk : k ≠ i ∧ r[k]? = some (Slot.own ys) := by
      rcases get_set e2 with ⟨rfl, q, hl⟩ | q
      · rcases h with h | ⟨t', v, h1, h2, h3⟩
        · rw [h] at q; cases q
        · rw [h1] at q; cases q
      · exact q
    rw [List.getElem?_set_ne (Ne.symm nj.1)] at e3
    rw [List.getElem?_set_ne (Ne.symm nk.1)] at e4
    exact E.apart j k xs ys a nj.2 nk.2 e3 e4
  · rcases get_set e with ⟨rfl, e1, hl⟩ | ⟨hne, e⟩
    · rcases h with h | ⟨t', v, h1, h2, h3⟩
      · rw [h] at e1; cases e1
      · rw [h1] at e1; cases e1
    · rw [List.getElem?_set_ne (Ne.symm hne)]; exact E.inst j c fs e
  · rcases get_set e with ⟨rfl, e1, hl⟩ | ⟨hne, e⟩
    · rcases h with h | ⟨t', v, h1, h2, h3⟩
      · rw [h] at e1; cases e1
      · rw [h1] at e1; cases e1
    · rw [List.getElem?_set_ne (Ne.symm hne)]; exact E.exc j c e
theorem RepE.wipe (E : RepE d G r σ H) : ∀ vs : List Nat, RepE d G (wipeE r vs) (L2.wipe σ vs) H
  | [] => E
  | _ :: vs => (RepE.wipe E vs).put (.inl rfl)
end
/-- what may be changed through the frame's names was made in the frame -/
def RepO (H0 : Hp) (r : Env) (σ : L2.St) : Prop := ∀ (i : Nat) a, σ[i]? = some (some (V.ref a)) → ((∃ xs, r[i]? = some (Slot.own xs)) ∨ ∃ c fs, r[i]? = some (Slot.inst c fs)) → H0 a = none
theorem RepO.put {H0 : Hp} {r : Env} {σ : L2.St} (O : RepO H0 r σ) {i : Nat} {sl : Slot} {o : Option V} (h : (∀ xs, sl ≠ .own xs) ∧ ∀ c fs, sl ≠ .inst c fs) : RepO H0 (r.set i sl) (σ.set i o) := by
  intro j a e q
  rcases q with ⟨xs, q⟩ | ⟨c, fs, q⟩
  · rcases get_set q with ⟨_, q2, _⟩ | ⟨hne, q2⟩
    · exact absurd q2 (h.1 xs)
    · rw [List.getElem?_set_ne (Ne.symm hne)] at e
      exact O j a e (.inl ⟨xs, q2⟩)
  · rcases get_set q with ⟨_, q2, _⟩ | ⟨hne, q2⟩
    · exact absurd q2 (h.2 c fs)
    · rw [List.getElem?_set_ne (Ne.symm hne)] at e
      exact O j a e (.inr ⟨c, fs, q2⟩)
/-! ### wiping -/
theorem wipe_in {σ : L2.St} {j : Nat} : ∀ {vs : List Nat}, j ∈ vs → (L2.wipe σ vs)[j]? = σ[j]?.map fun _ => none
  | v :: vs, h => by
    unfold L2.wipe
    by_cases e : v = j
    · subst e
      by_cases hl : v < σ.length
      · rw [List.getElem?_set_self (by rw [wipe_length]; exact hl), List.getElem?_eq_getElem hl]; rfl
      · rw [List.getElem?_eq_none (by rw [List.length_set, wipe_length]; omega), List.getElem?_eq_none (by omega)]; rfl
    · rw [List.getElem?_set_ne e]
      rcases List.mem_cons.mp h with q | q
      · exact absurd q.symm e
      · exact wipe_in q
theorem wipe_eq {σ σ' : L2.St} {vs : List Nat} (hl : σ'.length = σ.length) (h : ∀ j, j ∉ vs → σ'[j]? = σ[j]?) : L2.wipe σ' vs = L2.wipe σ vs := by
  refine List.ext_getElem? fun j => ?_
  by_cases m : j ∈ vs
  · rw [wipe_in m, wipe_in m]
    by_cases q : j < σ.length
    · rw [List.getElem?_eq_getElem q, List.getElem?_eq_getElem (by omega)]; rfl
    · rw [List.getElem?_eq_none (by omega), List.getElem?_eq_none (by omega)]
  · rw [wipe_out m, wipe_out m]; exact h j m
theorem wipe_set {σ : L2.St} {vs : List Nat} {i : Nat} {o : Option V} (h : i ∈ vs) : L2.wipe (σ.set i o) vs = L2.wipe σ vs :=
  wipe_eq (List.length_set ..) fun j hj => List.getElem?_set_ne fun e => hj (by rw [← e]; exact h)
theorem wipe_wipe {σ : L2.St} {vs : List Nat} : L2.wipe (L2.wipe σ vs) vs = L2.wipe σ vs :=
  wipe_eq (wipe_length ..) fun j hj => wipe_out hj
/-! ### targets -/
def gNames : List Nat → TGs
  | [] => gNil
  | i :: is => gCons (gName i) (gNames is)
def tBind (K : PySem.W.Frag) : Tg → TG
  | .n i => gName i
  | .t is => gTup K is.length (gNames is)
section
variable {d : D} {G : Gh} {H : Hp}
theorem names_rep : ∀ {is : List Nat} {xs : List T} {us : List V} {r r' : Env} {σ : L2.St} {Q : L2.St → Hp → Prop}, RepE d G r σ H → RepAll d G xs us → bindTs is xs r = some r' →
    (∀ σ', RepE d G r' σ' H → (∀ vs : List Nat, (∀ i ∈ is, i ∈ vs) → L2.wipe σ' vs = L2.wipe σ vs) → (∀ H0, RepO H0 r σ → RepO H0 r' σ') → Q σ' H) → is.length = us.length ∧ gNames is us σ H Q
  | [], [], us, r, r', σ, Q, E, ra, e, k => by
    cases us with
    | cons _ _ => exact ra.elim
    | nil =>
      have e' : r = r' := Option.some.inj e
      subst e'
      exact ⟨rfl, rfl, k σ E (fun _ _ => rfl) fun _ O => O⟩
  | [], _ :: _, _, _, _, _, _, _, _, e, _ => by simp [bindTs] at e
  | _ :: _, [], _, _, _, _, _, _, _, e, _ => by simp [bindTs] at e
  | i :: is, x :: xs, us, r, r', σ, Q, E, ra, e, k => by
    cases us with
    | nil => exact ra.elim
    | cons u us =>
      have e' : bindTs is xs (r.set i (.val x)) = some r' := e
      obtain ⟨h1, h2⟩ := names_rep (us := us) (Q := Q) (E.put (i := i) (.inr ⟨x, u, rfl, rfl, ra.1⟩)) ra.2 e' fun σ' E' w wo => k σ' E' (fun vs hv => by
        rw [w vs fun j hj => hv j (List.mem_cons_of_mem _ hj), wipe_set (hv i List.mem_cons_self)]) fun H0 O => wo H0 (O.put ⟨fun _ z => (nomatch z), fun _ _ z => (nomatch z)⟩)
      exact ⟨by simp [h1], u, us, rfl, h2⟩
theorem bind_rep {K : PySem.W.Frag} (hK : d.K = K) {tg : Tg} {t : T} {v : V} {r r' : Env} {S : Store} {σ : L2.St} {Q : L2.St → Hp → Prop} (R : RepS d G S H) (E : RepE d G r σ H) (rv : RepV d G t v) (e : bindT tg t r = some r')
    (k : ∀ σ', RepE d G r' σ' H → (∀ vs : List Nat, (∀ i ∈ tg.slots, i ∈ vs) → L2.wipe σ' vs = L2.wipe σ vs) → (∀ H0, RepO H0 r σ → RepO H0 r' σ') → Q σ' H) : tBind K tg v σ H Q := by
  cases tg with
  | n i =>
    have e' : r.set i (.val t) = r' := Option.some.inj e
    subst e'
    exact k _ (E.put (.inr ⟨t, v, rfl, rfl, rv⟩)) (fun vs hv => wipe_set (hv i (List.mem_singleton.mpr rfl))) fun H0 O => O.put ⟨fun _ z => (nomatch z), fun _ _ z => (nomatch z)⟩
  | t is =>
    cases t <;> simp only [bindT] at e <;> try contradiction
    rename_i xs
    obtain ⟨a, us, rfl, q, z, ra⟩ := rv
    obtain ⟨h1, h2⟩ := names_rep (Q := Q) E ra e k
    exact ⟨a, us, rfl, hK ▸ R.sqT q, h1.symm, h2⟩
end
/-! ### a thing of one's own, poked -/
theorem Step.offI {G G' : Gh} {H H' : Hp} (s : Step G G' H H') {a : Addr} {o : HO} (h : H a = some o) (k : G.I a = Option.none) : G'.I a = Option.none := by
  cases q : G'.I a with
  | none => rfl
  | some u =>
    have := s.new a k (by rw [q]; simp)
    rw [h] at this; cases this
theorem Step.offM {G G' : Gh} {H H' : Hp} (s : Step G G' H H') {a : Addr} {o : HO} (h : H a = some o) (k : a ∉ G.mu) : a ∉ G'.mu := fun q => by
  have := s.mu a q k
  rw [h] at this; cases this
theorem RepS.poke {d : D} {G : Gh} {S : Store} {H : Hp} (R : RepS d G S H) {a : Addr} {o : HO} (hI : G.I a = none) (hm : a ∉ G.mu) : RepS d G S (upd H a o) := by
  refine ⟨fun b u e => ?_, R.len, fun n xs e => ?_, R.inj, R.off⟩
  · rw [upd_ne (fun z => by rw [z, hI] at e; cases e)]; exact R.imm b u e
  · obtain ⟨b, vs, h1, h2, z, h3⟩ := R.cell n xs e
    exact ⟨b, vs, h1, by rw [upd_ne (fun q => hm (by rw [← q]; exact List.mem_of_getElem? h1))]; exact h2, z, h3⟩
theorem Step.poke {G G' : Gh} {H H' : Hp} (s : Step G G' H H') {a : Addr} {o : HO} (h : H a = Option.none) : Step G G' H (upd H' a o) := by
  refine ⟨s.le, s.new, s.mu, fun b u e hb => ?_, fun b hb => ?_⟩
  · rw [upd_ne (fun z => by rw [z, h] at e; cases e)]; exact s.keep b u e hb
  · by_cases q : b = a
    · rw [q, upd_same]; simp
    · rw [upd_ne q]; exact s.there b hb
/-! ### comprehensions -/
abbrev W0 : WX := fun _ _ _ _ => False
def compF (tg : Tg) (mt : Env → Store → Res Bool) (me : Env → Store → Res T) (r : Env) : T → Store → Res (Option T) := fun x S => match bindT tg x (wipeE r tg.slots) with
  | some r' => (mt r' S).bind fun b S => if b = true then (me r' S).bind fun y S => .ok (some y) S else .ok none S
  | none => .bad
def compM (tg : Tg) (mi : Env → Store → Res (T × List T)) (mt : Env → Store → Res Bool) (me : Env → Store → Res T) : Env → Store → Res T := fun r S => (mi r S).bind fun p S =>
  (compLoop (still p.1 p.2) (compF tg mt me r) p.2 S).bind fun ys S => .ok (.lst ys) S
theorem still_itM {x : Res T} {p : T × List T} {S : Store} (h : itM x = .ok p S) : Still p.1 p.2 S := by
  unfold itM at h
  cases x with
  | ok c S' =>
    simp only [Res.bind] at h
    cases e : (look S' c).items with
    | none => rw [e] at h; cases h
    | some xs =>
      rw [e] at h
      cases h
      rintro n rfl
      unfold look at e
      simp only at e
      cases q : S[n]? with
      | none => rw [q] at e; simp [T.items] at e
      | some u =>
        cases u with
        | lst ys =>
          rw [q] at e
          simp only [T.items, Option.some.injEq] at e
          rw [e]
  | _ => simp only [Res.bind] at h; cases h
section
variable {X : Cx} {d : D} {W : WX} {tgE itE elt : Expr} {ifs : List Expr} {scope : Scope} {pos : Pos} {tg : Tg} {mi : Env → Store → Res (T × List T)} {mt : Env → Store → Res Bool} {me : Env → Store → Res T}
/-- one turn of a comprehension -/
theorem comp_turn {σ : L2.St} {H : Hp} {Q : VK} {G G1 : Gh} {r : Env} {p : T × List T} {J : It} {H1 : Hp} {Dd : Addr} (hK : d.K = X.K) (RE : RepE d G r σ H) (s1 : Step G G1 H H1) (wk : Walked d (fun G' H' => Step G1 G' H1 H') p J) (hD : H1 Dd = none)
    (Pv : Nat → Hp → Prop) (hPv : Pv = fun i H' => ∃ G' S' acc ys0, Step G1 G' H1 H' ∧ RepS d G' S' H' ∧ Still p.1 p.2 S' ∧ H' Dd = some (.lst acc) ∧ acc.length ≤ i ∧ RepAll d G' ys0 acc ∧ G'.I Dd = none ∧ Dd ∉ G'.mu ∧
      Post d W σ (RN d r σ H) G H Q ((compLoop (still p.1 p.2) (compF tg mt me r) (p.2.drop i) S').bind fun ys S => .ok (.lst (ys0 ++ ys)) S)) {i : Nat} {H' : Hp} (hp : Pv i H') (hi : i < p.2.length) :
    J.go i H' ∧ ∀ x H'', J.yld i H' x H'' → tBind X.K tg x (L2.wipe σ tg.slots) H'' fun σ2 H2 => L2.wipe σ2 tg.slots = L2.wipe σ tg.slots ∧ tG d W0 RB mt σ2 H2 fun b H3 =>
      if b = true then tE d W0 me σ2 H3 fun y H4 => ∃ acc, H4 Dd = some (.lst acc) ∧ acc.length < sizeLine ∧ Pv (i + 1) (upd H4 Dd (.lst (acc ++ [y]))) else Pv (i + 1) H3 := by
  rw [hPv] at hp ⊢
  obtain ⟨G', S', acc, ys0, s', R', st, hA, hz, ra, hI, hm, q⟩ := hp
  refine ⟨wk.go G' S' H' s' R' st i hi, fun x H'' y => ?_⟩
  obtain ⟨t, G2, ht, s2, R2, rv⟩ := wk.yld G' S' H' s' R' st i x H'' hi y
  have E2 : RepE d G2 (wipeE r tg.slots) (L2.wipe σ tg.slots) H'' := RepE.wipe (((RE.step s1).step s').step s2) _
  have ed : p.2.drop i = t :: p.2.drop (i + 1) := by
    rw [List.drop_eq_getElem_cons hi]
    rw [List.getElem?_eq_getElem hi] at ht
    rw [Option.some.inj ht]
  rw [ed] at q
  unfold compLoop at q
  cases eb : bindT tg t (wipeE r tg.slots) with
  | none =>
    have ef : compF tg mt me r t S' = .bad := by unfold compF; rw [eb]
    rw [ef] at q; exact q.elim
  | some r' =>
    have ef : compF tg mt me r t S' = (mt r' S').bind fun b S => if b = true then (me r' S).bind fun y S => .ok (some y) S else .ok none S := by unfold compF; rw [eb]
    rw [ef] at q
    refine bind_rep hK R2 E2 rv eb fun σ2 E3 hw _ => ⟨by rw [hw tg.slots fun _ h => h, wipe_wipe], G2, r', S', R2, E3, ?_⟩
    cases e1 : mt r' S' with
    | bad => rw [e1] at q; exact q.elim
    | exn c S3 => rw [e1] at q; exact q.elim
    | ok b S3 =>
      rw [e1] at q
      intro G3 b' H3 s3 R3 rb
      have rb' : b' = b := rb
      subst rb'
      cases b' with
      | false =>
        have q : Post d W σ (RN d r σ H) G H Q ((if still p.1 p.2 S3 = true then (compLoop (still p.1 p.2) (compF tg mt me r) (p.2.drop (i + 1)) S3).bind fun ys S'' => .ok ys S'' else .bad).bind fun ys S => .ok (.lst (ys0 ++ ys)) S) := q
        rw [if_neg Bool.false_ne_true]
        split at q <;> try exact q.elim
        rename_i hst
        have st3 := s2.trans s3
        refine ⟨G3, S3, acc, ys0, s'.trans st3, R3, still_of hst, st3.keep _ _ hA hm, by omega, RepAll.le st3.le _ ra, st3.offI hA hI, st3.offM hA hm, ?_⟩
        revert q
        cases compLoop (still p.1 p.2) (compF tg mt me r) (p.2.drop (i + 1)) S3 <;> exact fun q => q
      | true =>
        rw [if_pos rfl]
        have q : Post d W σ (RN d r σ H) G H Q ((match (me r' S3).bind fun y S => .ok (some y) S with
          | .ok o S'' => if still p.1 p.2 S'' = true then (compLoop (still p.1 p.2) (compF tg mt me r) (p.2.drop (i + 1)) S'').bind fun ys S'' => .ok (match o with
            | some y => y :: ys
            | none => ys) S'' else .bad
          | _ => .bad).bind fun ys S => .ok (.lst (ys0 ++ ys)) S) := q
        refine ⟨G3, r', S3, R3, E3.step s3, ?_⟩
        cases e2 : me r' S3 with
        | bad => rw [e2] at q; exact q.elim
        | exn c S4 => rw [e2] at q; exact q.elim
        | ok y S4 =>
          rw [e2] at q
          have q : Post d W σ (RN d r σ H) G H Q ((if still p.1 p.2 S4 = true then (compLoop (still p.1 p.2) (compF tg mt me r) (p.2.drop (i + 1)) S4).bind fun ys S'' => .ok (y :: ys) S'' else .bad).bind fun ys S => .ok (.lst (ys0 ++ ys)) S) := q
          intro G4 yv H4 s4 R4 ry
          split at q <;> try exact q.elim
          rename_i hst
          have st4 := (s2.trans s3).trans s4
          have sm := wk.small
          have hI4 := st4.offI hA hI
          have hm4 := st4.offM hA hm
          refine ⟨acc, st4.keep _ _ hA hm, by omega, G4, S4, acc ++ [yv], ys0 ++ [y], (s'.trans st4).poke hD, R4.poke hI4 hm4, still_of hst, upd_same, by rw [List.length_append]; simp; omega, (RepAll.le st4.le _ ra).append ⟨ry, trivial⟩, hI4, hm4, ?_⟩
          revert q
          cases compLoop (still p.1 p.2) (compF tg mt me r) (p.2.drop (i + 1)) S4 <;> intro q
          · rename_i zs S5
            have e3 : (ys0 ++ [y]) ++ zs = ys0 ++ (y :: zs) := by simp
            show Post d W σ (RN d r σ H) G H Q (.ok (.lst ((ys0 ++ [y]) ++ zs)) S5)
            rw [e3]; exact q
          · exact q
          · exact q
theorem comp_imp (hK : d.K = X.K) (hmi : ∀ r S p S', mi r S = .ok p S' → Still p.1 p.2 S') {σ : L2.St} {H : Hp} {Q : VK} (hw : tN d W (compM tg mi mt me) σ H Q) :
    tLc (tIt d W mi) (tBind X.K tg) (tG d W0 RB mt) (tE d W0 me) tg.slots σ H Q := by
  obtain ⟨G, r, S, RS, RE, q⟩ := hw
  refine ⟨G, r, S, RS, RE, Post.bind0 q fun p S1 e1 q1 G1 J H1 s1 R1 wk => fun Dd hD => ?_⟩
  obtain ⟨Pv, hPv⟩ : ∃ Pv : Nat → Hp → Prop, Pv = fun i H' => ∃ G' S' acc ys0, Step G1 G' H1 H' ∧ RepS d G' S' H' ∧ Still p.1 p.2 S' ∧ H' Dd = some (.lst acc) ∧ acc.length ≤ i ∧ RepAll d G' ys0 acc ∧ G'.I Dd = none ∧ Dd ∉ G'.mu ∧
      Post d W σ (RN d r σ H) G H Q ((compLoop (still p.1 p.2) (compF tg mt me r) (p.2.drop i) S').bind fun ys S => .ok (.lst (ys0 ++ ys)) S) := ⟨_, rfl⟩
  have hI1 : G1.I Dd = none := by
    cases k : G1.I Dd with
    | none => rfl
    | some o =>
      have := R1.imm _ _ k
      rw [hD] at this; cases this
  have hm1 : Dd ∉ G1.mu := fun k => by
    obtain ⟨vs, e⟩ := R1.le_cell k
    rw [hD] at e; cases e
  refine ⟨fun i m H' => m = p.2.length - i ∧ i ≤ p.2.length ∧ Pv i H', ⟨p.2.length, by simp, Nat.zero_le _, ?_⟩, ?_⟩
  · rw [hPv]
    exact ⟨G1, S1, [], [], Step.lay hD, R1.lay hD, hmi _ _ _ _ e1, upd_same, Nat.le_refl _, trivial, hI1, hm1, q1⟩
  · rintro i m H' ⟨rfl, hi', hp⟩
    by_cases hlt : i < p.2.length
    · obtain ⟨h1, h2⟩ := comp_turn (mt := mt) (me := me) hK RE s1 wk hD Pv hPv hp hlt
      exact .inr ⟨h1, Pv (i + 1), fun H'' h => ⟨p.2.length - (i + 1), by omega, rfl, hlt, h⟩, h2⟩
    · have ei : i = p.2.length := by omega
      subst ei
      rw [hPv] at hp
      obtain ⟨G', S', acc, ys0, s', R', st, hA, hz, ra, hI, hm, q2⟩ := hp
      refine .inl ⟨wk.stop G' S' H' s' R' st, ?_⟩
      rw [List.drop_length] at q2
      have sm := wk.small
      exact q2 G' (.ref Dd) H' (s1.trans s') R' ⟨_, rfl, Dd, acc, rfl, hA, by omega, by rw [List.append_nil]; exact ra, hI, hm, s1.none hD⟩
theorem s_compM (hK : d.K = X.K) (hc : X.calm = true) (hN : X.N.Nodup) {own : List (PySem.Str × Nat)} (ho : own.map (·.2) = tg.slots) (hmi : ∀ r S p S', mi r S = .ok p S' → Still p.1 p.2 S')
    (hi : PI X tgE itE (tIt d W mi)) (ok : BlkOk X.N X.env.scope scope own)
    (hg : ∀ (s : Shared) (H : Hp) (C : Addr) (cl : List (PySem.Str × Addr)) (fp : List Addr), PG (X.blk s H scope (compEnvC scope cl C X.env) fp) tgE (tBind X.K tg))
    (ht : ∀ (s : Shared) (H : Hp) (C : Addr) (cl : List (PySem.Str × Addr)) (fp : List Addr), PTs (X.blk s H scope (compEnvC scope cl C X.env) fp) ifs (tG d W0 RB mt))
    (he : ∀ (s : Shared) (H : Hp) (C : Addr) (cl : List (PySem.Str × Addr)) (fp : List Addr), PE (X.blk s H scope (compEnvC scope cl C X.env) fp) elt (tE d W0 me)) (hs : ∀ x, foldedSetIterable itE X.env x = pure x) :
    PE X (.ListComp elt [⟨tgE, itE, ifs, 0⟩] scope pos) (tN d W (compM tg mi mt me)) := by
  refine PE_imp (pe_lc hc hN hi ok hg ht he hs) fun σ H Q hw => ?_
  rw [ho]
  exact comp_imp hK hmi hw
end
end Hf
end

section
set_option Elab.async false
set_option linter.all false
set_option maxRecDepth 100000
/-! HfS11: statements by trees. -/
namespace Hf
open PySem PySem.Spec PyProof.Rows L2
/-- from the frame's start (G0, H0) on, knowing Gb -/
structure Stp (Gb G0 G : Gh) (H0 H : Hp) : Prop where
  le : Le Gb G
  s : Step G0 G H0 H
theorem Stp.trans {Gb G0 G G' : Gh} {H0 H H' : Hp} (a : Stp Gb G0 G H0 H) (b : Step G G' H H') : Stp Gb G0 G' H0 H' := ⟨a.le.trans b.le, a.s.trans b⟩
theorem Stp.poke {Gb G0 G : Gh} {H0 H : Hp} (a : Stp Gb G0 G H0 H) {b : Addr} {o : HO} (h : H0 b = none) : Stp Gb G0 G H0 (upd H b o) := ⟨a.le, a.s.poke h⟩
theorem Stp.none {Gb G0 G : Gh} {H0 H : Hp} (a : Stp Gb G0 G H0 H) {p : Addr} (h : H p = Option.none) : H0 p = Option.none := a.s.none h
section
variable (d : D) (W : WX) (Gb G0 : Gh) (H0 : Hp)
/-- what is wanted behind a statement -/
def PostS (D : Ends) : SRes → Prop
  | .nx r' S' => ∀ G' σ' H', Stp Gb G0 G' H0 H' → RepS d G' S' H' → RepE d G' r' σ' H' → RepO H0 r' σ' → D.nx σ' H'
  | .ret t S' => ∀ G' v H', Stp Gb G0 G' H0 H' → RepS d G' S' H' → RepV d G' t v → D.rt v H'
  | .brk r' S' => ∀ G' σ' H', Stp Gb G0 G' H0 H' → RepS d G' S' H' → RepE d G' r' σ' H' → RepO H0 r' σ' → D.bk σ' H'
  | .cnt r' S' => ∀ G' σ' H', Stp Gb G0 G' H0 H' → RepS d G' S' H' → RepE d G' r' σ' H' → RepO H0 r' σ' → D.ct σ' H'
  | .exn c r' S' => ∀ x G' σ' H', d.xa c = some x → Stp Gb G0 G' H0 H' → RepS d G' S' H' → RepE d G' r' σ' H' → RepO H0 r' σ' → W (.ref x) none σ' H'
  | .bad => False
def tS (m : Env → Store → SRes) : TS := fun D σ H => ∃ Gb G0 H0 G r S, Stp Gb G0 G H0 H ∧ RepS d G S H ∧ RepE d G r σ H ∧ RepO H0 r σ ∧ PostS d W Gb G0 H0 D (m r S)
end
section
variable {d : D} {W : WX} {Gb G0 : Gh} {H0 : Hp} {D : Ends} {G : Gh} {r : Env} {S : Store} {σ : L2.St} {H : Hp}
theorem toS_post {α β : Type} {R : Gh → Hp → α → β → Prop} {Q : β → Hp → Prop} {x : Res α} {k : α → Store → SRes} (h : PostS d W Gb G0 H0 D (x.toS r k)) (s0 : Stp Gb G0 G H0 H) (E : RepE d G r σ H) (O : RepO H0 r σ)
    (hk : ∀ a S1 G1 b H1, Step G G1 H H1 → RepS d G1 S1 H1 → R G1 H1 a b → PostS d W Gb G0 H0 D (k a S1) → Q b H1) : Post d W σ R G H Q x := by
  cases x with
  | ok a S1 => exact fun G1 b H1 s1 R1 rv => hk a S1 G1 b H1 s1 R1 rv h
  | exn c S1 => exact fun x G1 H1 e s1 R1 => h x G1 σ H1 e (s0.trans s1) R1 (E.step s1) O
  | bad => exact h
end
section
variable {X : Cx} {d : D} {W : WX} {tgE e c : Expr} {pos : Pos} {tg : Tg} {m me : Env → Store → Res T} {m1 m2 : Env → Store → SRes}
/-! ### suites -/
def seqM (m1 m2 : Env → Store → SRes) : Env → Store → SRes := fun r S => match m1 r S with
  | .nx r' S' => m2 r' S'
  | x => x
theorem s_snil : PSs X [] (tS d W fun r S => .nx r S) := PSs_imp pss_nil fun D σ H ⟨Gb, G0, H0, G, r, S, s0, R, E, O, q⟩ => q G σ H s0 R E O
theorem s_scons {st : Stmt} {rest : List Stmt} (h1 : PS X st (tS d W m1)) (h2 : PSs X rest (tS d W m2)) : PSs X (st :: rest) (tS d W (seqM m1 m2)) := by
  refine PSs_imp (pss_cons h1 h2) fun D σ H ⟨Gb, G0, H0, G, r, S, s0, R, E, O, q⟩ => ⟨Gb, G0, H0, G, r, S, s0, R, E, O, ?_⟩
  unfold seqM at q
  cases e1 : m1 r S with
  | nx r' S' =>
    rw [e1] at q
    exact fun G' σ' H' s1 R1 E1 O1 => ⟨Gb, G0, H0, G', r', S', s1, R1, E1, O1, q⟩
  | ret t S' => rw [e1] at q; exact q
  | brk r' S' => rw [e1] at q; exact q
  | cnt r' S' => rw [e1] at q; exact q
  | exn c r' S' => rw [e1] at q; exact q
  | bad => rw [e1] at q; exact q
theorem s_pass : PS X (.Pass pos) (tS d W fun r S => .nx r S) := PS_imp ps_pass fun D σ H ⟨Gb, G0, H0, G, r, S, s0, R, E, O, q⟩ => q G σ H s0 R E O
theorem s_brk : PS X (.Break pos) (tS d W fun r S => .brk r S) := PS_imp ps_break fun D σ H ⟨Gb, G0, H0, G, r, S, s0, R, E, O, q⟩ => q G σ H s0 R E O
theorem s_cnt : PS X (.Continue pos) (tS d W fun r S => .cnt r S) := PS_imp ps_continue fun D σ H ⟨Gb, G0, H0, G, r, S, s0, R, E, O, q⟩ => q G σ H s0 R E O
/-! ### name = value -/
def asgM (tg : Tg) (m : Env → Store → Res T) : Env → Store → SRes := fun r S => (m r S).toS r fun t S => match bindT tg t r with
  | some r' => .nx r' S
  | none => .bad
def ownM (i : Nat) (m : Env → Store → Res T) : Env → Store → SRes := fun r S => (m r S).toS r fun t S => match t with
  | .lst xs => .nx (r.set i (.own xs)) S
  | _ => .bad
theorem asg_imp (hK : d.K = X.K) {D : Ends} {σ : L2.St} {H : Hp} (h : tS d W (asgM tg m) D σ H) : tAsg (tE d W m) (tBind X.K tg) D σ H := by
  obtain ⟨Gb, G0, H0, G, r, S, s0, R, E, O, q⟩ := h
  refine ⟨G, r, S, R, E, toS_post q s0 E O fun t S1 G1 v H1 s1 R1 rv q1 => ?_⟩
  cases eb : bindT tg t r with
  | none => rw [eb] at q1; exact q1.elim
  | some r' =>
    rw [eb] at q1
    exact bind_rep hK R1 (E.step s1) rv eb fun σ' E' _ ho => q1 G1 σ' H1 (s0.trans s1) R1 E' (ho H0 O)
theorem RepE.putOwn {G : Gh} {r : Env} {σ : L2.St} {H : Hp} (E : RepE d G r σ H) {i : Nat} {a : Addr} {xs : List T} {vs : List V} (h1 : H a = some (.lst vs)) (z : vs.length ≤ sizeLine) (ra : RepAll d G xs vs) (h2 : G.I a = none) (h3 : a ∉ G.mu)
    (hne : ∀ (j : Nat) ys, r[j]? = some (Slot.own ys) → σ[j]? ≠ some (some (V.ref a))) : RepE d G (r.set i (.own xs)) (σ.set i (some (.ref a))) H := by
  have nov : ∀ {j : Nat} {sl : Slot}, (∀ ys, sl ≠ .own ys) → (r.set i (.own xs))[j]? = some sl → j ≠ i ∧ r[j]? = some sl := fun {j sl} hn e => by
    rcases get_set e with ⟨_, e1, _⟩ | q
    · exact absurd e1.symm (hn xs)
    · exact q
  refine ⟨by rw [List.length_set, List.length_set]; exact E.len, fun j t e => ?_, fun j ys e => ?_, fun j k ys zs b e1 e2 e3 e4 => ?_, fun j c fs e => ?_, fun j c e => ?_⟩
  · obtain ⟨hne, e⟩ := nov (by intro _ z; cases z) e
    rw [List.getElem?_set_ne (Ne.symm hne)]; exact E.slot j t e
  · rcases get_set e with ⟨rfl, e1, hl⟩ | ⟨hn, e⟩
    · cases e1
      rw [E.len] at hl
      exact ⟨a, vs, List.getElem?_set_self hl, h1, z, ra, h2, h3⟩
    · rw [List.getElem?_set_ne (Ne.symm hn)]; exact E.own j ys e
  · rcases get_set e1 with ⟨rfl, q1, hl1⟩ | ⟨hn1, q1⟩
    · rcases get_set e2 with ⟨rfl, q2, hl2⟩ | ⟨hn2, q2⟩
      · rfl
      · rw [List.getElem?_set_self (by rw [← E.len]; exact hl1)] at e3
        cases e3
        rw [List.getElem?_set_ne (Ne.symm hn2)] at e4
        exact absurd e4 (hne k zs q2)
    · rw [List.getElem?_set_ne (Ne.symm hn1)] at e3
      rcases get_set e2 with ⟨rfl, q2, hl2⟩ | ⟨hn2, q2⟩
      · rw [List.getElem?_set_self (by rw [← E.len]; exact hl2)] at e4
        cases e4
        exact absurd e3 (hne j ys q1)
      · rw [List.getElem?_set_ne (Ne.symm hn2)] at e4
        exact E.apart j k ys zs b q1 q2 e3 e4
  · obtain ⟨hne, e⟩ := nov (by intro _ z; cases z) e
    rw [List.getElem?_set_ne (Ne.symm hne)]; exact E.inst j c fs e
  · obtain ⟨hne, e⟩ := nov (by intro _ z; cases z) e
    rw [List.getElem?_set_ne (Ne.symm hne)]; exact E.exc j c e
theorem RepO.putOwn {H0 : Hp} {r : Env} {σ : L2.St} (O : RepO H0 r σ) (hl : r.length = σ.length) {i : Nat} {a : Addr} {xs : List T} (h : H0 a = none) : RepO H0 (r.set i (.own xs)) (σ.set i (some (.ref a))) := by
  intro j b e q
  by_cases hj : i = j
  · subst hj
    by_cases hi : i < σ.length
    · rw [List.getElem?_set_self hi] at e; cases e; exact h
    · rw [List.getElem?_eq_none (by simpa using hi)] at e; cases e
  · rw [List.getElem?_set_ne hj] at e q
    rcases q with ⟨ys, q⟩ | ⟨c, fs, q⟩
    · exact O j b e (.inl ⟨ys, q⟩)
    · exact O j b e (.inr ⟨c, fs, q⟩)
theorem own_imp {i : Nat} {D : Ends} {σ : L2.St} {H : Hp} (h : tS d W (ownM i m) D σ H) : tAsg (tN d W m) (gName i) D σ H := by
  obtain ⟨Gb, G0, H0, G, r, S, s0, R, E, O, q⟩ := h
  refine ⟨G, r, S, R, E, toS_post q s0 E O fun t S1 G1 v H1 s1 R1 rv q1 => ?_⟩
  obtain ⟨xs, rfl, a, vs, rfl, h1, z, ra, h2, h3, h4⟩ := rv
  have E1 := E.step s1
  refine q1 G1 (σ.set i (some (.ref a))) H1 (s0.trans s1) R1 (E1.putOwn h1 z ra h2 h3 fun j ys e1 e2 => ?_) (O.putOwn E.len (s0.none h4))
  obtain ⟨b, ws, k1, k2, _⟩ := E.own j ys e1
  rw [e2] at k1; cases k1
  rw [h4] at k2; cases k2
theorem s_asg (hK : d.K = X.K) (he : PE X e (tE d W m)) (hg : PG X tgE (tBind X.K tg)) (hs : swapsWithSole [tgE] e pos.line X.env = pure false) (hw : swappedStores [tgE] e X.env = pure none)
    (h1 : (assignEach [tgE] X.env).map (·.2) = [assign tgE X.env]) : PS X (.Assign [tgE] e pos) (tS d W (asgM tg m)) := PS_imp (ps_asg he hg hs hw h1) fun D σ H h => asg_imp hK h
theorem s_own {i : Nat} {x : PySem.Str} {pos' : Pos} (hN : X.N.Nodup) (hi : X.N[i]? = some x) (hx : Loc X.env.scope x) (he : PE X e (tN d W m)) (hs : swapsWith e (some (.Name x pos')) pos.line X.env = pure false) (hf : X.fn x = true ∨ X.env.scope.names.lookup x = some .local) :
    PS X (.Assign [.Name x pos'] e pos) (tS d W (ownM i m)) := PS_imp (ps_set hN hi hx he hs hf) fun D σ H h => own_imp h
/-! ### a value dropped, return, if -/
def exM (m : Env → Store → Res T) : Env → Store → SRes := fun r S => (m r S).toS r fun _ S => .nx r S
def retM (m : Env → Store → Res T) : Env → Store → SRes := fun r S => (m r S).toS r fun t S => .ret t S
def ifM (mc : Env → Store → Res Bool) (m1 m2 : Env → Store → SRes) : Env → Store → SRes := fun r S => (mc r S).toS r fun b S => if b = true then m1 r S else m2 r S
theorem s_ex (he : PE X e (tE d W m)) (hs : swapsWith e none pos.line X.env = pure false) : PS X (.Expr e pos) (tS d W (exM m)) :=
  PS_imp (ps_expr he hs) fun D σ H ⟨Gb, G0, H0, G, r, S, s0, R, E, O, q⟩ => ⟨G, r, S, R, E, toS_post q s0 E O fun t S1 G1 v H1 s1 R1 rv q1 => q1 G1 σ H1 (s0.trans s1) R1 (E.step s1) O⟩
theorem s_ret (he : PE X e (tE d W m)) : PS X (.Return (some e) pos) (tS d W (retM m)) :=
  PS_imp (ps_ret he) fun D σ H ⟨Gb, G0, H0, G, r, S, s0, R, E, O, q⟩ => ⟨G, r, S, R, E, toS_post q s0 E O fun t S1 G1 v H1 s1 R1 rv q1 => q1 G1 v H1 (s0.trans s1) R1 rv⟩
theorem s_retN : PS X (.Return none pos) (tS d W fun r S => .ret .non S) :=
  PS_imp ps_retN fun D σ H ⟨Gb, G0, H0, G, r, S, s0, R, E, O, q⟩ => q G .non H s0 R rfl
theorem s_if {mc : Env → Store → Res Bool} {a b : List Stmt} (hc : PT X c (tG d W RB mc)) (ha : PSs X a (tS d W m1)) (hb : PSs X b (tS d W m2)) : PS X (.If c a b pos) (tS d W (ifM mc m1 m2)) := by
  refine PS_imp (ps_if hc ha hb) fun D σ H ⟨Gb, G0, H0, G, r, S, s0, R, E, O, q⟩ => ⟨G, r, S, R, E, toS_post q s0 E O fun b S1 G1 b' H1 s1 R1 rv q1 => ?_⟩
  have rv : b' = b := rv
  subst rv
  cases b' with
  | true => exact ⟨Gb, G0, H0, G1, r, S1, s0.trans s1, R1, E.step s1, O, q1⟩
  | false => exact ⟨Gb, G0, H0, G1, r, S1, s0.trans s1, R1, E.step s1, O, q1⟩
end
/-! ### own lists and cells written -/
section
variable {d : D} {Gb G0 : Gh} {H0 : Hp} {G : Gh} {r : Env} {S : Store} {σ : L2.St} {H : Hp}
theorem RepE.pokeL (E : RepE d G r σ H) {i : Nat} {a : Addr} {xs ys : List T} {ws : List V} (hr : r[i]? = some (.own xs)) (hs : σ[i]? = some (some (V.ref a))) (z : ws.length ≤ sizeLine) (ra : RepAll d G ys ws) : RepE d G (r.set i (.own ys)) σ (upd H a (.lst ws)) := by
  obtain ⟨a', vs, k1, k2, k3, k4, k5, k6⟩ := E.own i xs hr
  rw [hs] at k1; cases k1
  have nov : ∀ {j : Nat} {sl : Slot}, (∀ ys, sl ≠ .own ys) → (r.set i (.own ys))[j]? = some sl → r[j]? = some sl := fun {j sl} hn e => by
    rcases get_set e with ⟨_, e1, _⟩ | q
    · exact absurd e1.symm (hn ys)
    · exact q.2
  have ov : ∀ {j : Nat} {zs : List T}, (r.set i (.own ys))[j]? = some (.own zs) → ∃ us, r[j]? = some (.own us) := fun {j zs} e => by
    rcases get_set e with ⟨rfl, e1, _⟩ | q
    · exact ⟨xs, hr⟩
    · exact ⟨zs, q.2⟩
  refine ⟨by rw [List.length_set]; exact E.len, fun j t e => E.slot j t (nov (by intro _ z; cases z) e), fun j zs e => ?_, fun j k us zs b e1 e2 e3 e4 => ?_, fun j c fs e => ?_, fun j c e => E.exc j c (nov (by intro _ z; cases z) e)⟩
  · rcases get_set e with ⟨rfl, e1, hl⟩ | ⟨hn, e⟩
    · cases e1
      exact ⟨a, ws, hs, upd_same, z, ra, k5, k6⟩
    · obtain ⟨b, us, h1, h2, h3⟩ := E.own j zs e
      refine ⟨b, us, h1, ?_, h3⟩
      rw [upd_ne (fun q => hn (E.apart j i zs xs a e hr (by rw [← q]; exact h1) hs))]; exact h2
  · obtain ⟨us', q1⟩ := ov e1
    obtain ⟨zs', q2⟩ := ov e2
    exact E.apart j k us' zs' b q1 q2 e3 e4
  · obtain ⟨b, C, dx, fw, h1, h2, h3, h4, h5⟩ := E.inst j c fs (nov (by intro _ z; cases z) e)
    refine ⟨b, C, dx, fw, h1, h2, ?_, ?_, h5⟩
    · rw [upd_ne (fun q => by rw [q, k2] at h3; cases h3)]; exact h3
    · rw [upd_ne (fun q => by rw [q, k2] at h4; cases h4)]; exact h4
theorem RepO.poke (O : RepO H0 r σ) {i : Nat} {xs ys : List T} (hr : r[i]? = some (.own xs)) : RepO H0 (r.set i (.own ys)) σ := by
  intro j b e q
  rcases q with ⟨zs, q⟩ | ⟨c, fs, q⟩
  · rcases get_set q with ⟨rfl, e1, _⟩ | q
    · exact O j b e (.inl ⟨xs, hr⟩)
    · exact O j b e (.inl ⟨zs, q.2⟩)
  · rcases get_set q with ⟨rfl, e1, _⟩ | q
    · cases e1
    · exact O j b e (.inr ⟨c, fs, q.2⟩)
theorem RepE.pokeC (E : RepE d G r σ H) {a : Addr} {o : HO} (h : a ∈ G.mu) : RepE d G r σ (upd H a o) := by
  refine ⟨E.len, E.slot, fun j zs e => ?_, E.apart, fun j c fs e => ?_, E.exc⟩
  · obtain ⟨b, us, h1, h2, z, h3, h4, h5⟩ := E.own j zs e
    exact ⟨b, us, h1, by rw [upd_ne (fun q => h5 (by rw [q]; exact h))]; exact h2, z, h3, h4, h5⟩
  · obtain ⟨b, C, dx, fw, h1, h2, h3, h4, h5, h6, h7, h8, h9⟩ := E.inst j c fs e
    exact ⟨b, C, dx, fw, h1, h2, by rw [upd_ne (fun q => h8 (by rw [q]; exact h))]; exact h3, by rw [upd_ne (fun q => h9 (by rw [q]; exact h))]; exact h4, h5, h6, h7, h8, h9⟩
theorem RepS.setCell (R : RepS d G S H) {n : Nat} {a : Addr} {ys : List T} {ws : List V} (hm : G.mu[n]? = some a) (z : ws.length ≤ sizeLine) (ra : RepAll d G ys ws) : RepS d G (S.set n (.lst ys)) (upd H a (.lst ws)) := by
  have ha : a ∈ G.mu := List.mem_of_getElem? hm
  refine ⟨fun b u e => ?_, by rw [List.length_set]; exact R.len, fun j xs e => ?_, R.inj, R.off⟩
  · rw [upd_ne (fun q => by rw [q, R.off a ha] at e; cases e)]; exact R.imm b u e
  · rcases get_set e with ⟨rfl, e1, hl⟩ | ⟨hn, e⟩
    · cases e1
      exact ⟨a, ws, hm, upd_same, z, ra⟩
    · obtain ⟨b, vs, h1, h2, z2, h3⟩ := R.cell j xs e
      refine ⟨b, vs, h1, ?_, z2, h3⟩
      rw [upd_ne (fun q => hn ?_)]; exact h2
      subst q
      have l1 := (List.getElem?_eq_some_iff.mp h1).1
      have l2 := (List.getElem?_eq_some_iff.mp hm).1
      have e1 := (List.getElem?_eq_some_iff.mp h1).2
      have e2 := (List.getElem?_eq_some_iff.mp hm).2
      exact (List.getElem_inj R.inj).mp (e1.trans e2.symm)
theorem Step.pokeC (s : Step G0 G H0 H) {a : Addr} {o : HO} (h : a ∈ G.mu) : Step G0 G H0 (upd H a o) := by
  refine ⟨s.le, s.new, s.mu, fun b u e hb => ?_, fun b hb => ?_⟩
  · rw [upd_ne (fun q => by rw [q] at e hb; rw [s.mu a h hb] at e; cases e)]; exact s.keep b u e hb
  · by_cases q : b = a
    · rw [q, upd_same]; simp
    · rw [upd_ne q]; exact s.there b hb
theorem Stp.pokeC (s : Stp Gb G0 G H0 H) {a : Addr} {o : HO} (h : a ∈ G.mu) : Stp Gb G0 G H0 (upd H a o) := ⟨s.le, s.s.pokeC h⟩
end
end Hf
end

section
set_option Elab.async false
set_option linter.all false
set_option maxRecDepth 100000
/-! HfS12: append, extend, items set, for, by trees. -/
namespace Hf
open PySem PySem.Spec PyProof.Rows L2
theorem ixN_eq' (n : Nat) (i : Int) : Hf.ixN n i = L2.ixN n i := rfl
section
variable {X : Cx} {d : D} {W : WX} {tgE itE o e c : Expr} {pos apos cpos p : Pos} {tg : Tg} {m me mk ma : Env → Store → Res T} {m1 m2 : Env → Store → SRes} {x : PySem.Str}
/-! ### append -/
def pushM (i : Nat) (me : Env → Store → Res T) : Env → Store → SRes := fun r S => match ownAt r i with
  | some xs => (me r S).toS r fun t S => if xs.length < sizeLim then .nx (r.set i (.own (xs ++ [t]))) S else .bad
  | none => .bad
theorem ownAt_some {r : Env} {i : Nat} {xs : List T} (h : ownAt r i = some xs) : r[i]? = some (.own xs) := by
  unfold ownAt at h
  split at h
  · rename_i ys e
    cases h; exact e
  · cases h
theorem own_at {G : Gh} {r : Env} {σ : L2.St} {H : Hp} {i : Nat} {a : Addr} {xs : List T} (E : RepE d G r σ H) (hr : r[i]? = some (.own xs)) (hs : σ[i]? = some (some (V.ref a))) : ∃ vs, H a = some (.lst vs) ∧ vs.length ≤ sizeLine ∧ RepAll d G xs vs ∧ G.I a = none ∧ a ∉ G.mu := by
  obtain ⟨b, vs, k1, k2, k3⟩ := E.own i xs hr
  rw [hs] at k1; cases k1
  exact ⟨vs, k2, k3⟩
theorem pa1 {te : TE} (he : PE X e te) (hst : starEach [e] X.env = (false, eval e X.env) :: starEach [] X.env) : PA X [e] (fun σ H Q => te σ H fun v H1 => Q [v] H1) := PA_imp (pa_cons he pa_nil hst) fun σ H Q h => h
def Few (e : Expr) (env : PySem.Env) (cpos : Pos) : Prop := ((backTo cpos (starEach [e] env)).all (fun x => !x.1) && (backToKw cpos (keywordEach [] env)).all (fun x => x.1.isSome)
      && decide ([e].length + ([] : List Keyword).length + (if ([] : List Keyword).isEmpty then 0 else 1) < 30)) = true
theorem s_push {i : Nat} (hN : X.N[i]? = some x) (hv : Vis X.env.scope x) (hd : (x == ("__debug__" : PySem.Str)) = false) (hcd : (x == ("__classdict__" : PySem.Str)) = false) (he : PE X e (tE d W me))
    (hst : starEach [e] X.env = (false, eval e X.env) :: starEach [] X.env) (hfew : Few e X.env cpos) (hline : (apos.endLine == cpos.line) = true) (hsw : swapsWith (.Call (.Attribute (.Name x p) "append" apos) [e] [] cpos) none pos.line X.env = pure false) :
    PS X (.Expr (.Call (.Attribute (.Name x p) "append" apos) [e] [] cpos) pos) (tS d W (pushM i me)) := by
  refine PS_imp (ps_expr (pe_bm F.plainAttrs_list F.slot_list_append F.type_list_append mt_append (pe_var hN hv hd hcd) (pa1 he hst) rfl hfew hline hst rfl) hsw) fun D σ H ⟨Gb, G0, H0, G, r, S, s0, R, E, O, q⟩ => ?_
  unfold pushM at q
  cases eo : ownAt r i with
  | none => rw [eo] at q; exact q.elim
  | some xs =>
    rw [eo] at q
    have hr := ownAt_some eo
    obtain ⟨a, vs, hs, h1, hz, ra, h2, h3⟩ := E.own i xs hr
    refine ⟨.ref a, hs, .inl ⟨rfl, vs, .inl (.inl h1)⟩, G, r, S, R, E, toS_post q s0 E O fun t S1 G1 v H1 s1 R1 rv q1 => ?_⟩
    have E1 := E.step s1
    obtain ⟨us, k1, kz, ka, k2, k3⟩ := own_at E1 hr hs
    split at q1 <;> try exact q1.elim
    rename_i hl
    rw [lim_eq] at hl
    have hul := ka.length
    have hz2 : us.length < sizeLine := by omega
    have hz3 : (us ++ [v]).length ≤ sizeLine := by rw [List.length_append]; simp; omega
    exact ⟨a, us, v, rfl, rfl, k1, hz2, q1 G1 σ _ ((s0.trans s1).poke (O i a hs (.inl ⟨xs, hr⟩))) (R1.poke k2 k3) (E1.pokeL hr hs hz3 (ka.append ⟨rv, trivial⟩)) (O.poke hr)⟩
/-! ### extend -/
def extM (i : Nat) (me : Env → Store → Res T) : Env → Store → SRes := fun r S => match ownAt r i with
  | some xs => (me r S).toS r fun t S => (match t with
    | .lst ys => if xs.length + ys.length ≤ sizeLim then .nx (r.set i (.own (xs ++ ys))) S else .bad
    | _ => .bad)
  | none => .bad
theorem s_ext {i : Nat} (hN : X.N[i]? = some x) (hv : Vis X.env.scope x) (hd : (x == ("__debug__" : PySem.Str)) = false) (hcd : (x == ("__classdict__" : PySem.Str)) = false) (he : PE X e (tN d W me))
    (hst : starEach [e] X.env = (false, eval e X.env) :: starEach [] X.env) (hfew : Few e X.env cpos) (hline : (apos.endLine == cpos.line) = true) (hsw : swapsWith (.Call (.Attribute (.Name x p) "extend" apos) [e] [] cpos) none pos.line X.env = pure false) :
    PS X (.Expr (.Call (.Attribute (.Name x p) "extend" apos) [e] [] cpos) pos) (tS d W (extM i me)) := by
  refine PS_imp (ps_expr (pe_bm F.plainAttrs_list F.slot_list_extend F.type_list_extend mt_extend (pe_var hN hv hd hcd) (pa1 he hst) rfl hfew hline hst rfl) hsw) fun D σ H ⟨Gb, G0, H0, G, r, S, s0, R, E, O, q⟩ => ?_
  unfold extM at q
  cases eo : ownAt r i with
  | none => rw [eo] at q; exact q.elim
  | some xs =>
    rw [eo] at q
    have hr := ownAt_some eo
    obtain ⟨a, vs, hs, h1, hz, ra, h2, h3⟩ := E.own i xs hr
    refine ⟨.ref a, hs, .inl ⟨rfl, vs, .inl (.inl h1)⟩, G, r, S, R, E, toS_post q s0 E O fun t S1 G1 v H1 s1 R1 rv q1 => ?_⟩
    have E1 := E.step s1
    obtain ⟨us, k1, kz, ka, k2, k3⟩ := own_at E1 hr hs
    obtain ⟨ys, rfl, b, ws, rfl, j1, jz, ja, j2, j3, j4⟩ := rv
    have q1 : PostS d W Gb G0 H0 D (if xs.length + ys.length ≤ sizeLim then .nx (r.set i (.own (xs ++ ys))) S1 else .bad) := q1
    split at q1 <;> try exact q1.elim
    rename_i hl
    rw [lim_eq] at hl
    have hul := ka.length
    have hwl := ja.length
    have hz2 : us.length + ws.length ≤ sizeLine := by omega
    have hz3 : (us ++ ws).length ≤ sizeLine := by rw [List.length_append]; exact hz2
    exact ⟨a, b, us, ws, rfl, rfl, k1, j1, hz2, q1 G1 σ _ ((s0.trans s1).poke (O i a hs (.inl ⟨xs, hr⟩))) (R1.poke k2 k3) (E1.pokeL hr hs hz3 (ka.append ja)) (O.poke hr)⟩
/-! ### items set -/
def setiM (i : Nat) (mk me : Env → Store → Res T) : Env → Store → SRes := fun r S => (me r S).toS r fun t S => match ownAt r i with
  | some xs => (mk r S).toS r fun y S => (match y with
    | .int z => (match Hf.ixN xs.length z with
      | some j => .nx (r.set i (.own (xs.set j t))) S
      | none => .bad)
    | _ => .bad)
  | none => .bad
/-- a plain store by subscript -/
def PlainSet (o k : Expr) (p : Pos) : Prop := ∀ env v, assign (.Subscript o k p) env v = (do
      let ov ← holding [v] (eval o env)
      let iv ← holding [v, ov] (eval k env)
      standAt p
      holding [v, ov, iv] (setItem ov iv v)
      release [v, ov, iv] [])
theorem pg_subI {k : Expr} {to ti : TE} {t : TSet} (ho : PE X o to) (hi : PE X k ti) (hs : PSet X t) (ha : ∀ v, assign (.Subscript o k pos) X.env v = (do
      let ov ← holding [v] (eval o X.env)
      let iv ← holding [v, ov] (eval k X.env)
      standAt pos
      holding [v, ov, iv] (setItem ov iv v)
      release [v, ov, iv] [])) : PG X (.Subscript o k pos) (gSub to ti t) := pg_sub ho hi hs ha
theorem s_seti {i : Nat} {k : Expr} {tp : Pos} (hN : X.N[i]? = some x) (hv : Vis X.env.scope x) (hd : (x == ("__debug__" : PySem.Str)) = false) (hcd : (x == ("__classdict__" : PySem.Str)) = false) (he : PE X e (tE d W me)) (hk : PE X k (tE d W mk))
    (hps : PlainSet (.Name x p) k tp) (hs : swapsWithSole [.Subscript (.Name x p) k tp] e pos.line X.env = pure false) (hw : swappedStores [.Subscript (.Name x p) k tp] e X.env = pure none) :
    PS X (.Assign [.Subscript (.Name x p) k tp] e pos) (tS d W (setiM i mk me)) := by
  refine PS_imp (ps_asg he (pg_subI (pe_var hN hv hd hcd) hk set_list (hps X.env)) hs hw rfl) fun D σ H ⟨Gb, G0, H0, G, r, S, s0, R, E, O, q⟩ => ?_
  refine ⟨G, r, S, R, E, toS_post q s0 E O fun t S1 G1 v H1 s1 R1 rv q1 => ?_⟩
  cases eo : ownAt r i with
  | none => rw [eo] at q1; exact q1.elim
  | some xs =>
    rw [eo] at q1
    have hr := ownAt_some eo
    have E1 := E.step s1
    obtain ⟨a, vs, hsi, h1, hz, ra, h2, h3⟩ := E1.own i xs hr
    refine ⟨.ref a, hsi, G1, r, S1, R1, E1, toS_post q1 (s0.trans s1) E1 O fun y S2 G2 w H2 s2 R2 rw' q2 => ?_⟩
    have E2 := E1.step s2
    obtain ⟨us, k1, kz, ka, k2, k3⟩ := own_at E2 hr hsi
    cases y <;> try exact q2.elim
    cases rw'
    rename_i z
    have q2 : PostS d W Gb G0 H0 D (match Hf.ixN xs.length z with
      | some j => .nx (r.set i (.own (xs.set j t))) S2
      | none => .bad) := q2
    cases ej : Hf.ixN xs.length z with
    | none => rw [ej] at q2; exact q2.elim
    | some j =>
      rw [ej] at q2
      have hul := ka.length
      rw [ixN_eq', hul] at ej
      have hz3 : (us.set j v).length ≤ sizeLine := by rw [List.length_set]; exact kz
      exact ⟨a, us, z, j, rfl, rfl, k1, ej, q2 G2 σ _ (((s0.trans s1).trans s2).poke (O i a hsi (.inl ⟨xs, hr⟩))) (R2.poke k2 k3) (E2.pokeL hr hsi hz3 (RepAll.set (RepV.le s2.le t rv) j ka)) (O.poke hr)⟩
def setcM (ma mk me : Env → Store → Res T) : Env → Store → SRes := fun r S => (me r S).toS r fun t S => (ma r S).toS r fun x S => (mk r S).toS r fun y S => match x, y with
    | .ref n, .int z => (match S[n]? with
      | some (.lst xs) => (match Hf.ixN xs.length z with
        | some j => .nx r (S.set n (.lst (xs.set j t)))
        | none => .bad)
      | _ => .bad)
    | _, _ => .bad
theorem s_setc {k : Expr} {tp : Pos} (ho : PE X o (tE d W ma)) (he : PE X e (tE d W me)) (hk : PE X k (tE d W mk))
    (hps : PlainSet o k tp) (hs : swapsWithSole [.Subscript o k tp] e pos.line X.env = pure false) (hw : swappedStores [.Subscript o k tp] e X.env = pure none) :
    PS X (.Assign [.Subscript o k tp] e pos) (tS d W (setcM ma mk me)) := by
  refine PS_imp (ps_asg he (pg_subI ho hk set_list (hps X.env)) hs hw rfl) fun D σ H ⟨Gb, G0, H0, G, r, S, s0, R, E, O, q⟩ => ?_
  refine ⟨G, r, S, R, E, toS_post q s0 E O fun t S1 G1 v H1 s1 R1 rv q1 => ?_⟩
  have E1 := E.step s1
  refine ⟨G1, r, S1, R1, E1, toS_post q1 (s0.trans s1) E1 O fun x S2 G2 u H2 s2 R2 ru q2 => ?_⟩
  have E2 := E1.step s2
  refine ⟨G2, r, S2, R2, E2, toS_post q2 ((s0.trans s1).trans s2) E2 O fun y S3 G3 w H3 s3 R3 rw' q3 => ?_⟩
  have E3 := E2.step s3
  have s03 := ((s0.trans s1).trans s2).trans s3
  cases x <;> try exact q3.elim
  cases y <;> try exact q3.elim
  cases rw'
  rename_i n z
  have q3 : PostS d W Gb G0 H0 D (match S3[n]? with
      | some (.lst xs) => (match Hf.ixN xs.length z with
        | some j => .nx r (S3.set n (.lst (xs.set j t)))
        | none => .bad)
      | _ => .bad) := q3
  obtain ⟨a, rfl, hm⟩ := ru
  have hm3 := s3.le.mu_get hm
  cases ec : S3[n]? with
  | none => rw [ec] at q3; exact q3.elim
  | some cl =>
    cases cl with
    | lst xs =>
      rw [ec] at q3
      obtain ⟨b, vs, k1, k2, kz, ka⟩ := R3.cell n xs ec
      rw [hm3] at k1; cases k1
      have q3 : PostS d W Gb G0 H0 D (match Hf.ixN xs.length z with
        | some j => .nx r (S3.set n (.lst (xs.set j t)))
        | none => .bad) := q3
      cases ej : Hf.ixN xs.length z with
      | none => rw [ej] at q3; exact q3.elim
      | some j =>
        rw [ej] at q3
        have hul := ka.length
        rw [ixN_eq', hul] at ej
        have hz3 : (vs.set j v).length ≤ sizeLine := by rw [List.length_set]; exact kz
        have ha : a ∈ G3.mu := List.mem_of_getElem? hm3
        exact ⟨a, vs, z, j, rfl, rfl, k2, ej, q3 G3 σ _ (s03.pokeC ha) (R3.setCell hm3 hz3 (RepAll.set (RepV.le (s2.trans s3).le t rv) j ka)) (E3.pokeC ha) O⟩
def pushcM (ma me : Env → Store → Res T) : Env → Store → SRes := fun r S => (ma r S).toS r fun x S => match x with
    | .ref n => (me r S).toS r fun t S => (match S[n]? with
      | some (.lst xs) => if xs.length < sizeLim then .nx r (S.set n (.lst (xs ++ [t]))) else .bad
      | _ => .bad)
    | _ => .bad
theorem s_pushc (ho : PE X o (tE d W ma)) (he : PE X e (tE d W me)) (hbase : attributeBase o "append" X.env (eval o X.env) = eval o X.env)
    (hst : starEach [e] X.env = (false, eval e X.env) :: starEach [] X.env) (hfew : Few e X.env cpos) (hline : (apos.endLine == cpos.line) = true) (hsw : swapsWith (.Call (.Attribute o "append" apos) [e] [] cpos) none pos.line X.env = pure false) :
    PS X (.Expr (.Call (.Attribute o "append" apos) [e] [] cpos) pos) (tS d W (pushcM ma me)) := by
  refine PS_imp (ps_expr (pe_bm F.plainAttrs_list F.slot_list_append F.type_list_append mt_append ho (pa1 he hst) hbase hfew hline hst rfl) hsw) fun D σ H ⟨Gb, G0, H0, G, r, S, s0, R, E, O, q⟩ => ?_
  refine ⟨G, r, S, R, E, toS_post q s0 E O fun x S1 G1 u H1 s1 R1 ru q1 => ?_⟩
  have E1 := E.step s1
  cases x <;> try exact q1.elim
  rename_i n
  have q1 : PostS d W Gb G0 H0 D ((me r S1).toS r fun t S => match S[n]? with
      | some (.lst xs) => if xs.length < sizeLim then .nx r (S.set n (.lst (xs ++ [t]))) else .bad
      | _ => .bad) := q1
  obtain ⟨a, rfl, hm⟩ := ru
  obtain ⟨vs0, hv0⟩ := R1.le_cell (List.mem_of_getElem? hm)
  refine ⟨.inl ⟨rfl, vs0, .inl (.inl hv0)⟩, G1, r, S1, R1, E1, toS_post q1 (s0.trans s1) E1 O fun t S2 G2 v H2 s2 R2 rv q2 => ?_⟩
  have E2 := E1.step s2
  have hm2 := s2.le.mu_get hm
  have s02 := (s0.trans s1).trans s2
  cases ec : S2[n]? with
  | none => rw [ec] at q2; exact q2.elim
  | some cl =>
    cases cl with
    | lst xs =>
      rw [ec] at q2
      obtain ⟨b, vs, k1, k2, kz, ka⟩ := R2.cell n xs ec
      rw [hm2] at k1; cases k1
      have q2 : PostS d W Gb G0 H0 D (if xs.length < sizeLim then .nx r (S2.set n (.lst (xs ++ [t]))) else .bad) := q2
      split at q2 <;> try exact q2.elim
      rename_i hl
      rw [lim_eq] at hl
      have hul := ka.length
      have hz2 : vs.length < sizeLine := by omega
      have hz3 : (vs ++ [v]).length ≤ sizeLine := by rw [List.length_append]; simp; omega
      have ha : a ∈ G2.mu := List.mem_of_getElem? hm2
      exact ⟨a, vs, v, rfl, rfl, k2, hz2, q2 G2 σ _ (s02.pokeC ha) (R2.setCell hm2 hz3 (ka.append ⟨rv, trivial⟩)) (E2.pokeC ha) O⟩
/-! ### an own list frozen: nothing runs -/
def frzM (i : Nat) : Env → Store → SRes := fun r S => match ownAt r i with
    | some xs => .nx (r.set i (.val (.lst xs))) S
    | none => .nx r S
theorem frz_imp {i : Nat} {D : Ends} {σ : L2.St} {H : Hp} (h : tS d W (seqM (frzM i) m1) D σ H) : tS d W m1 D σ H := by
  obtain ⟨Gb, G0, H0, G, r, S, s0, R, E, O, q⟩ := h
  unfold seqM frzM at q
  cases eo : ownAt r i with
  | none => rw [eo] at q; exact ⟨Gb, G0, H0, G, r, S, s0, R, E, O, q⟩
  | some xs =>
    rw [eo] at q
    have hr := ownAt_some eo
    obtain ⟨a, vs, hs, h1, hz, ra, h2, h3⟩ := E.own i xs hr
    obtain ⟨s1, R1, rv⟩ := freeze s0.s R h1 hz ra h2 h3 (O i a hs (.inl ⟨xs, hr⟩))
    have le : Le G (G.add a (.lst vs)) := ⟨fun b o e => by
      show upd G.I a _ b = _
      rw [upd_ne (fun q => by rw [q, h2] at e; cases e)]; exact e, [], by simp [Gh.add]⟩
    have nov : ∀ {j : Nat} {sl : Slot}, (∀ t, sl ≠ .val t) → (r.set i (.val (.lst xs)))[j]? = some sl → j ≠ i ∧ r[j]? = some sl := fun {j sl} hn e => by
      rcases get_set e with ⟨_, e1, _⟩ | q
      · exact absurd e1.symm (hn _)
      · exact q
    have offI : ∀ {b : Addr}, b ≠ a → G.I b = none → (G.add a (.lst vs)).I b = none := fun {b} hb hn => by
      show upd G.I a _ b = none
      rw [upd_ne hb]; exact hn
    refine ⟨Gb, G0, H0, _, _, S, ⟨s0.le.trans le, s1⟩, R1, ⟨by rw [List.length_set]; exact E.len, fun j t e => ?_, fun j ys e => ?_, fun j k ys zs b e1 e2 e3 e4 => ?_, fun j c fs e => ?_, fun j c e => E.exc j c (nov (by intro _ z; cases z) e).2⟩, fun j b e q => ?_, q⟩
    · rcases get_set e with ⟨rfl, e1, hl⟩ | ⟨hn, e⟩
      · cases e1
        exact ⟨_, hs, rv⟩
      · obtain ⟨v, k1, k2⟩ := E.slot j t e
        exact ⟨v, k1, RepV.le le t k2⟩
    · obtain ⟨hn, e⟩ := nov (by intro _ z; cases z) e
      obtain ⟨b, ws, k1, k2, kz, k3, k4, k5⟩ := E.own j ys e
      exact ⟨b, ws, k1, k2, kz, RepAll.le le ys k3, offI (fun q => hn (E.apart j i ys xs a e hr (by rw [← q]; exact k1) hs)) k4, k5⟩
    · obtain ⟨_, e1⟩ := nov (by intro _ z; cases z) e1
      obtain ⟨_, e2⟩ := nov (by intro _ z; cases z) e2
      exact E.apart j k ys zs b e1 e2 e3 e4
    · obtain ⟨hn, e⟩ := nov (by intro _ z; cases z) e
      obtain ⟨b, C, dx, fw, k1, k2, k3, k4, k5, k6, k7, k8, k9⟩ := E.inst j c fs e
      exact ⟨b, C, dx, fw, k1, k2, k3, k4, RepFs.le le fs k5, offI (fun q => by rw [q, h1] at k3; cases k3) k6, offI (fun q => by rw [q, h1] at k4; cases k4) k7, k8, k9⟩
    · rcases q with ⟨ys, q⟩ | ⟨c, fs, q⟩
      · exact O j b e (.inl ⟨ys, (nov (by intro _ z; cases z) q).2⟩)
      · exact O j b e (.inr ⟨c, fs, (nov (by intro _ z; cases z) q).2⟩)
theorem s_frz {i : Nat} {sts : List Stmt} (h : PSs X sts (tS d W m1)) : PSs X sts (tS d W (seqM (frzM i) m1)) := PSs_imp h fun D σ H => frz_imp
/-! ### for -/
def loopM (tg : Tg) (mi : Env → Store → Res (T × List T)) (mb : Env → Store → SRes) : Env → Store → SRes := fun r S => (mi r S).toS r fun p S =>
  forLoop (still p.1 p.2) (fun x r S => match bindT tg x r with
      | some r' => mb r' S
      | none => .bad) p.2 r S
theorem s_loop {mi : Env → Store → Res (T × List T)} {body : List Stmt} (hK : d.K = X.K) (hmi : ∀ r S p S', mi r S = .ok p S' → Still p.1 p.2 S') (hp : PassesOwn (model X.prog X.w) X.A X.env X.xe) (hc : X.calm = true) (hi : PI X tgE itE (tItE d W mi)) (hg : PG X tgE (tBind X.K tg)) (hb : PSs X body (tS d W m1))
    (hs : ∀ x, foldedSetIterable itE X.env x = pure x) : PS X (.For tgE itE body [] pos) (tS d W (loopM tg mi m1)) := by
  refine PS_imp (ps_for hp hc hi hg hb hs) fun D σ H ⟨Gb, G0, H0, G, r, S, s0, R, E, O, q⟩ => ?_
  have hst : ∀ p S', mi r S = .ok p S' → Still p.1 p.2 S' := fun p S' => hmi r S p S'
  refine ⟨G, r, S, R, E, ?_⟩
  unfold loopM at q
  cases ei : mi r S with
  | bad => rw [ei] at q; exact q.elim
  | exn c S1 => rw [ei] at q; exact fun x G1 H1 e s1 R1 => q x G1 σ H1 e (s0.trans s1) R1 (E.step s1) O
  | ok p S1 =>
    rw [ei] at q
    have hst1 := hst p S1 ei
    intro G1 J H1 s1 R1 wk
    obtain ⟨Fb, hF⟩ : ∃ Fb : T → Env → Store → SRes, Fb = fun x r S => match bindT tg x r with
      | some r' => m1 r' S
      | none => .bad := ⟨_, rfl⟩
    have q : PostS d W Gb G0 H0 D (forLoop (still p.1 p.2) Fb p.2 r S1) := by rw [hF]; exact q
    refine ⟨fun i m σ' H' => m = p.2.length - i ∧ i ≤ p.2.length ∧ ∃ G' r' S', Stp Gb G0 G' H0 H' ∧ Le G1 G' ∧ RepS d G' S' H' ∧ RepE d G' r' σ' H' ∧ RepO H0 r' σ' ∧ Still p.1 p.2 S' ∧ PostS d W Gb G0 H0 D (forLoop (still p.1 p.2) Fb (p.2.drop i) r' S'), ⟨p.2.length, by simp, Nat.zero_le _, G1, r, S1, s0.trans s1, Le.refl _, R1, E.step s1, O, hst1, q⟩, ?_⟩
    rintro i m σ' H' ⟨rfl, hi', G', r', S', s', le', R', E', O', st', q'⟩
    by_cases hlt : i < p.2.length
    · refine .inr ⟨wk.go G' S' H' le' R' st' i hlt, fun σ3 H3 => ∃ G3 r3 S3, Stp Gb G0 G3 H0 H3 ∧ Le G1 G3 ∧ RepS d G3 S3 H3 ∧ RepE d G3 r3 σ3 H3 ∧ RepO H0 r3 σ3 ∧ Still p.1 p.2 S3 ∧ PostS d W Gb G0 H0 D (forLoop (still p.1 p.2) Fb (p.2.drop (i + 1)) r3 S3), fun σ3 H3 h => ⟨p.2.length - (i + 1), by omega, rfl, hlt, h⟩, fun x H'' y => ?_⟩
      obtain ⟨t, G2, ht, s2, R2, rv⟩ := wk.yld G' S' H' le' R' st' i x H'' hlt y
      have ed : p.2.drop i = t :: p.2.drop (i + 1) := by
        rw [List.drop_eq_getElem_cons hlt]
        rw [List.getElem?_eq_getElem hlt] at ht
        rw [Option.some.inj ht]
      rw [ed] at q'
      unfold forLoop at q'
      rw [hF] at q'
      cases eb : bindT tg t r' with
      | none => simp only [eb] at q'; exact q'.elim
      | some r2 =>
        simp only [eb] at q'
        rw [← hF] at q'
        have s2' := s'.trans s2
        refine bind_rep hK R2 (E'.step s2) rv eb fun σ2 E2 _ ho => ⟨G2, G0, H0, G2, r2, S', ⟨Le.refl _, s2'.s⟩, R2, E2, ho H0 O', ?_⟩
        have l12 := le'.trans s2.le
        cases em : m1 r2 S' with
        | bad => rw [em] at q'; exact q'.elim
        | ret t' S3 => rw [em] at q'; exact fun G3 v H3 s3 R3 rv3 => q' G3 v H3 ⟨s2'.le.trans s3.le, s3.s⟩ R3 rv3
        | exn c' r3 S3 => rw [em] at q'; exact fun x3 G3 σ3 H3 e3 s3 R3 E3 O3 => q' x3 G3 σ3 H3 e3 ⟨s2'.le.trans s3.le, s3.s⟩ R3 E3 O3
        | brk r3 S3 => rw [em] at q'; exact fun G3 σ3 H3 s3 R3 E3 O3 => q' G3 σ3 H3 ⟨s2'.le.trans s3.le, s3.s⟩ R3 E3 O3
        | nx r3 S3 =>
          rw [em] at q'
          intro G3 σ3 H3 s3 R3 E3 O3
          have q' : PostS d W Gb G0 H0 D (if still p.1 p.2 S3 = true then forLoop (still p.1 p.2) Fb (p.2.drop (i + 1)) r3 S3 else .bad) := q'
          split at q' <;> try exact q'.elim
          rename_i hst3
          exact ⟨G3, r3, S3, ⟨s2'.le.trans s3.le, s3.s⟩, l12.trans s3.le, R3, E3, O3, still_of hst3, q'⟩
        | cnt r3 S3 =>
          rw [em] at q'
          intro G3 σ3 H3 s3 R3 E3 O3
          have q' : PostS d W Gb G0 H0 D (if still p.1 p.2 S3 = true then forLoop (still p.1 p.2) Fb (p.2.drop (i + 1)) r3 S3 else .bad) := q'
          split at q' <;> try exact q'.elim
          rename_i hst3
          exact ⟨G3, r3, S3, ⟨s2'.le.trans s3.le, s3.s⟩, l12.trans s3.le, R3, E3, O3, still_of hst3, q'⟩
    · have en : i = p.2.length := by omega
      subst en
      rw [List.drop_length] at q'
      exact .inl ⟨wk.stop G' S' H' le' R' st', q' G' σ' H' s' R' E' O'⟩
end
end Hf
end

section
set_option Elab.async false
set_option linter.all false
set_option maxRecDepth 100000
set_option maxHeartbeats 2000000
/-! HfS13: defs called; no guard of repr stands around. -/
namespace Hf
open PySem PySem.Spec PyProof.Rows L2
structure RoomG (k : Nat) (A : Around) : Prop where
  r : Room k A
  g : A.guards = some []
theorem RoomG.mono {j k : Nat} {A : Around} (r : RoomG k A) (h : j ≤ k) : RoomG j A := ⟨r.r.mono h, r.g⟩
structure FnG (P : Program) (w : World) (K : PySem.W.Frag) (mg : PySem.Str → Option Value) (base : Heap) (k : Nat) (f : Addr) (fd : FuncData) (ps : List PySem.Str) (sp : Sp) : Prop where
  len : ∀ vs H Q E, sp vs H Q E → vs.length = ps.length
  run : ∀ (A : Around) (outer : List PySem.Env) (s : Shared) (H : Hp) (args : Args) (us : List Value) (vs : List V) (Q : VK) (E : XK), RoomG k A → Env0 P w K mg base A outer s H → BindsTo s fd args (ps.zip us) → Vals vs us → sp vs H Q E →
    codeAny (model P w) A (.call (.ref f) args) (CR (L2.CX P w) outer P w H s Q E) s
theorem fn_ofG {P : Program} {w : World} {K : PySem.W.Frag} {mg : PySem.Str → Option Value} {base : Heap} {k : Nat} {f : Addr} {name qual : PySem.Str} {params : Arguments} {body : List Stmt} {scope : Scope} {dV kV doc pm cdv ct oc : Value} {an od : Option Addr}
    {osl : Array (Option Value)} {N ps : List PySem.Str} {sp : Sp} (lk : K.lookup f = some ⟨oc, od, .func (PySem.W.fnOf name qual params body scope dV kV doc pm an cdv ct), osl⟩) (hcd : PySem.W.codeIn K cdv qual = true) (SC : FnScope N ps scope)
    (len : ∀ vs H Q E, sp vs H Q E → vs.length = ps.length)
    (hbody : ∀ (A : Around) (outer : List PySem.Env) (s : Shared) (H : Hp) (vs : List V) (Q : VK) (E : XK), RoomG k (A.deeper (envOfC qual scope s.heap.objs.size f cdv)) → sp vs H Q E →
      ∃ t, PSs (cxOf (L2.CX P w) P w K mg base N qual scope f cdv A outer s H E) body t ∧ t { nx := fun _ H' => Q .non H', rt := Q } (L2.start N vs) H) :
    FnG P w K mg base (k + 1) f (PySem.W.fnOf name qual params body scope dV kV doc pm an cdv ct) ps sp := by
  refine ⟨len, fun A outer s H args us vs Q E hr e0 hb r hsp => ?_⟩
  have hl := len _ _ _ _ hsp
  have KX : K.In s.heap := e0.mod.kin.keeps fun b o e => (e0.bs b o e).1
  have lim : s.heap.NoLimit := e0.mod.nolimit.keeps fun b o e => (e0.bs b o e).1
  have hkind : ∀ y ∈ ps.zip us, scope.names.lookup y.1 = some .local ∨ (scope.names.lookup y.1 = some .cell ∧ ((cellsFrom (s.heap.objs.size + 1) scope.names []).lookup y.1).isSome = true) := fun ⟨n, v⟩ hy => by
    rcases SC.par n (List.of_mem_zip hy).1 with q | q
    · exact .inl q
    · exact .inr ⟨q, PySem.W.cellsFrom_some _ _ _ (.inl q)⟩
  refine codeAny_call_function hr.r.depth (KX _ _ lk) rfl SC.co SC.gen rfl (PySem.W.codeRec_of KX hcd) (hb _ _ _ _ ?_)
  refine wpAny_newFunctionEnv_cells SC.kind hkind fun env he s1 x => ?_
  subst he
  refine ⟨lim.keeps x.toInCall.keep, codeAny_func ?_⟩
  obtain ⟨t, ht, hq⟩ := hbody A outer s H vs Q E ⟨hr.r.deeper _, hr.g⟩ hsp
  have I : Inv (cxOf (L2.CX P w) P w K mg base N qual scope f cdv A outer s H E) [] (L2.start N vs) H s1 := inv_start SC hr.r.hd e0 hl r x
  refine wpAny_mono (ht.run [] s1 (L2.start N vs) H _ I hq) (fun fl s' hs => ?_) fun e s' hs => hs
  have fin : ∀ {σ' : L2.St} {H' : Hp} {v : V} {u : Value}, Inv (cxOf (L2.CX P w) P w K mg base N qual scope f cdv A outer s H E) [] σ' H' s' → RelV v u → Q v H' → CE outer P w H s Q u s' :=
    fun {σ' H' v u} J rv q => ⟨v, H', J.os, J.bare, J.base, J.hok, rv, q⟩
  cases fl with
  | ret u =>
    obtain ⟨v, σ', H', J, rv, q⟩ := hs
    exact fin J rv q
  | next =>
    obtain ⟨σ', H', J, q⟩ := hs
    exact fin (v := V.non) (u := Value.none) J rfl q
  | brk =>
    obtain ⟨_, _, _, q⟩ := hs
    exact False.elim q
  | cont =>
    obtain ⟨_, _, _, q⟩ := hs
    exact False.elim q
section
variable {X : Cx} {k : Nat} {f C : Addr} {fd : FuncData} {ps : List PySem.Str} {sp : Sp} {E : L2.St → XK} {x m : PySem.Str} {p pos apos : Pos} {e o : Expr} {es : List Expr} {ta : TE} {t : TA}
theorem run_fnG {pins : List (Addr × Obj)} {σ : L2.St} {H : Hp} {s : Shared} {Q : VK} {us : List Value} {vs : List V} (F : FnG X.prog X.w X.K X.mg X.base k f fd ps sp) (hr : RoomG k X.A) (hb : Binds X.K fd ps []) (hx : PassesAt (L2.CX X.prog X.w) X σ (E σ))
    (I : Inv X pins σ H s) (r : Vals vs us) (h : sp vs H Q (E σ)) : wpAny (model X.prog X.w) X.A (PySem.call (.ref f) us) (EP X pins σ Q) X.xe s := by
  have hl : us.length = ps.length := by rw [← r.length]; exact F.len _ _ _ _ h
  have b := hb s us I.kIn (by rw [List.append_nil]; exact hl)
  rw [List.append_nil] at b
  refine wpAny_call (codeAny_mono (F.run X.A X.stack s H ⟨us, []⟩ us vs Q (E σ) hr I.env0 b r h) fun r s' hq => ?_)
  cases r with
  | error e => exact hx pins H s e s' I hq
  | ok fl =>
    cases fl with
    | ret u => exact I.after hq
    | next => exact False.elim hq
    | brk => exact False.elim hq
    | cont => exact False.elim hq
/-- f(..) of a global def -/
theorem pe_callG (F : FnG X.prog X.w X.K X.mg X.base k f fd ps sp) (hr : RoomG k X.A) (hg : Gl X x) (hm : X.mg x = some (.ref f)) (hk : PySem.W.keepIn X.K (.ref f) = true) (hb : Binds X.K fd ps []) (hx : ∀ σ, PassesAt (L2.CX X.prog X.w) X σ (E σ))
    (ha : PA X (e :: es) t) (hdb : (x == ("__debug__" : PySem.Str)) = false) (he : starEach (e :: es) X.env = (false, eval e X.env) :: starEach es X.env) (hpl : (backTo pos (starEach es X.env)).any (·.1) = false) :
    PE X (.Call (.Name x p) (e :: es) [] pos) (tCallS sp E t) := by
  refine ⟨fun pins s σ H Q I h => ?_⟩
  refine wpAny_Call_Name_kw (ld_glob I hg hm ?_ hdb)
  refine PySem.W.callWith_K (h₀ := X.base) I.ok.mod.kin hk (thn (ha.run pos pins s σ H _ I h) fun us s1 ⟨vs, H1, I1, r, q⟩ => ⟨I1.kIn, ?_⟩) he hpl
  exact run_fnG F hr hb (hx σ) I1 r q
theorem pe_callG0 (F : FnG X.prog X.w X.K X.mg X.base k f fd ps sp) (hr : RoomG k X.A) (hg : Gl X x) (hm : X.mg x = some (.ref f)) (hk : PySem.W.keepIn X.K (.ref f) = true) (hb : Binds X.K fd ps []) (hx : ∀ σ, PassesAt (L2.CX X.prog X.w) X σ (E σ))
    (hdb : (x == ("__debug__" : PySem.Str)) = false) : PE X (.Call (.Name x p) [] [] pos) (tCallS sp E tNil) := by
  refine ⟨fun pins s σ H Q I h => ?_⟩
  refine wpAny_Call_Name_kw (ld_glob I hg hm ?_ hdb)
  exact PySem.W.callWith_K0 I.kIn hk (run_fnG (us := []) F hr hb (hx σ) I .nil h)
end
/-! ### a def's promise by trees -/
/-- what is wanted of a call -/
def PostC (d : D) (E : XK) (G : Gh) (H : Hp) (Q : VK) : Res T → Prop
  | .ok t S' => ∀ G' v H', Step G G' H H' → RepS d G' S' H' → RepV d G' t v → Q v H'
  | .exn c S' => ∀ x G' H', d.xa c = some x → Step G G' H H' → RepS d G' S' H' → E (.ref x) none H'
  | .bad => False
def spT (d : D) (n : Nat) (sem : List T → Store → Res T) : Sp := fun vs H Q E => vs.length = n ∧ ∃ G xs S, RepS d G S H ∧ RepAll d G xs vs ∧ PostC d E G H Q (sem xs S)
def callM (sem : List T → Store → Res T) (ms : Env → Store → Res (List T)) : Env → Store → Res T := fun r S => (ms r S).bind fun xs S => sem xs S
section
variable {X : Cx} {d : D} {W : WX} {k n : Nat} {f : Addr} {fd : FuncData} {ps : List PySem.Str} {sem : List T → Store → Res T} {x : PySem.Str} {p pos : Pos} {e : Expr} {es : List Expr} {ms : Env → Store → Res (List T)}
theorem call_imp {t : TA} {σ : L2.St} {H : Hp} {Q : VK} (hn : ∀ r S xs S', ms r S = .ok xs S' → xs.length = n) (ht : ∀ σ H Q, tAs d W ms σ H Q → t σ H Q) (h : tE d W (callM sem ms) σ H Q) : tCallS (spT d n sem) (WE W) t σ H Q := by
  obtain ⟨G, r, S, RS, RE, q⟩ := h
  refine ht _ _ _ ⟨G, r, S, RS, RE, ?_⟩
  unfold callM at q
  cases e1 : ms r S with
  | bad => rw [e1] at q; exact q.elim
  | exn c S1 => rw [e1] at q; exact q
  | ok xs S1 =>
    rw [e1] at q
    have q : Post d W σ (RV d r σ H) G H Q (sem xs S1) := q
    intro G1 vs H1 s1 R1 ra
    refine ⟨by rw [← ra.length]; exact hn r S xs S1 e1, G1, xs, S1, R1, ra, ?_⟩
    cases e2 : sem xs S1 with
    | bad => rw [e2] at q; exact q.elim
    | exn c S2 => rw [e2] at q; exact fun x G2 H2 ex s2 R2 => q x G2 H2 ex (s1.trans s2) R2
    | ok t' S2 => rw [e2] at q; exact fun G2 v H2 s2 R2 rv => q G2 v H2 (s1.trans s2) R2 rv
theorem s_call (hn : ∀ r S xs S', ms r S = .ok xs S' → xs.length = n) (F : FnG X.prog X.w X.K X.mg X.base k f fd ps (spT d n sem)) (hr : RoomG k X.A) (hg : Gl X x) (hm : X.mg x = some (.ref f)) (hk : PySem.W.keepIn X.K (.ref f) = true) (hb : Binds X.K fd ps []) (tk : Takes X W)
    (ha : PA X (e :: es) (tAs d W ms)) (hdb : (x == ("__debug__" : PySem.Str)) = false) (he : starEach (e :: es) X.env = (false, eval e X.env) :: starEach es X.env) (hpl : (backTo pos (starEach es X.env)).any (·.1) = false) :
    PE X (.Call (.Name x p) (e :: es) [] pos) (tE d W (callM sem ms)) :=
  PE_imp (pe_callG F hr hg hm hk hb (fun σ => passAt tk σ) ha hdb he hpl) fun σ H Q h => call_imp hn (fun _ _ _ h => h) h
theorem s_call0 (hn : n = 0) (F : FnG X.prog X.w X.K X.mg X.base k f fd ps (spT d n sem)) (hr : RoomG k X.A) (hg : Gl X x) (hm : X.mg x = some (.ref f)) (hk : PySem.W.keepIn X.K (.ref f) = true) (hb : Binds X.K fd ps []) (tk : Takes X W)
    (hdb : (x == ("__debug__" : PySem.Str)) = false) : PE X (.Call (.Name x p) [] [] pos) (tE d W (callM sem fun _ S => .ok [] S)) :=
  PE_imp (pe_callG0 F hr hg hm hk hb (fun σ => passAt tk σ) hdb) fun σ H Q h => call_imp (fun r S xs S' e => by cases e; exact hn.symm) (fun _ _ _ ⟨G, r, S, RS, RE, q⟩ => q G [] _ (Step.refl _ _) RS trivial) h
end
/-! ### a def's body -/
def runM (np ns : Nat) (mb : Env → Store → SRes) (xs : List T) (S : Store) : Res T := if xs.length = np then (mb (xs.map .val ++ List.replicate (ns - xs.length) .no) S).fin else .bad
theorem start_rep {d : D} {G : Gh} {H : Hp} {N : List PySem.Str} {xs : List T} {vs : List V} (ra : RepAll d G xs vs) (hN : vs.length ≤ N.length) : RepE d G (xs.map Slot.val ++ List.replicate (N.length - xs.length) .no) (L2.start N vs) H ∧ ∀ H0, RepO H0 (xs.map Slot.val ++ List.replicate (N.length - xs.length) .no) (L2.start N vs) := by
  have hl := ra.length
  have key : ∀ (i : Nat) sl, (xs.map Slot.val ++ List.replicate (N.length - xs.length) Slot.no)[i]? = some sl → sl = .no ∨ ∃ t, xs[i]? = some t ∧ sl = .val t := by
    intro i sl e
    by_cases hi : i < xs.length
    · rw [List.getElem?_append_left (by simpa using hi), List.getElem?_map] at e
      cases q : xs[i]? with
      | none => rw [q] at e; cases e
      | some t => rw [q] at e; cases e; exact .inr ⟨t, rfl, rfl⟩
    · rw [List.getElem?_append_right (by simpa using hi), List.getElem?_replicate] at e
      split at e
      · cases e; exact .inl rfl
      · cases e
  have nov : ∀ {i : Nat} {sl : Slot}, (∀ t, sl ≠ .val t) → sl ≠ .no → (xs.map Slot.val ++ List.replicate (N.length - xs.length) Slot.no)[i]? = some sl → False := fun {i sl} h1 h2 e => by
    rcases key i sl e with q | ⟨t, _, q⟩
    · exact h2 q
    · exact h1 t q
  refine ⟨⟨?_, fun i t e => ?_, fun i ys e => ?_, fun i j ys zs a e1 _ _ _ => ?_, fun i c fs e => ?_, fun i c e => ?_⟩, fun H0 i a _ h => ?_⟩
  · unfold L2.start
    rw [List.length_append, List.length_append, List.length_map, List.length_map, List.length_replicate, List.length_replicate]
    omega
  · rcases key i _ e with q | ⟨t', e1, q⟩
    · cases q
    · cases q
      obtain ⟨v, e2, rv⟩ := ra.get e1
      refine ⟨v, ?_, rv⟩
      unfold L2.start
      have hi := (List.getElem?_eq_some_iff.mp e2).1
      rw [List.getElem?_append_left (by simpa using hi), List.getElem?_map, e2]; rfl
  · exact (nov (by intro _ z; cases z) (by intro z; cases z) e).elim
  · exact (nov (by intro _ z; cases z) (by intro z; cases z) e1).elim
  · exact (nov (by intro _ z; cases z) (by intro z; cases z) e).elim
  · exact (nov (by intro _ z; cases z) (by intro z; cases z) e).elim
  · rcases h with ⟨ys, h⟩ | ⟨c, fs, h⟩
    · exact (nov (by intro _ z; cases z) (by intro z; cases z) h).elim
    · exact (nov (by intro _ z; cases z) (by intro z; cases z) h).elim
theorem fin_post {d : D} {E : XK} {G : Gh} {H : Hp} {Q : VK} {m : SRes} (h : PostC d E G H Q m.fin) : PostS d (fun cls dd _ H => E cls dd H) G G H { nx := fun _ H' => Q .non H', rt := Q } m := by
  cases m with
  | nx r S' => exact fun G' σ' H' s R _ _ => h G' .non H' s.s R rfl
  | ret t S' => exact fun G' v H' s R rv => h G' v H' s.s R rv
  | brk r S' => exact h.elim
  | cnt r S' => exact h.elim
  | exn c r S' => exact fun x G' σ' H' ex s R _ _ => h x G' H' ex s.s R
  | bad => exact h
/-- a def of the text keeps its promise, by its body -/
theorem fn_tree {P : Program} {w : World} {K : PySem.W.Frag} {mg : PySem.Str → Option Value} {base : Heap} {k : Nat} {f : Addr} {name qual : PySem.Str} {params : Arguments} {body : List Stmt} {scope : Scope} {dV kV doc pm cdv ct oc : Value} {an od : Option Addr}
    {osl : Array (Option Value)} {N ps : List PySem.Str} {d : D} {mb : Env → Store → SRes} (lk : K.lookup f = some ⟨oc, od, .func (PySem.W.fnOf name qual params body scope dV kV doc pm an cdv ct), osl⟩) (hcd : PySem.W.codeIn K cdv qual = true) (SC : FnScope N ps scope)
    (hbody : ∀ (X : Cx) (W : WX), X.prog = P → X.w = w → X.K = K → X.mg = mg → X.base = base → X.N = N → X.env.scope = scope → X.fn = (fun _ => true) → X.calm = true → X.env.frame = some X.env.locals → X.stack = X.env :: X.outer → RoomG k X.A → Takes X W → PassesOwn (model X.prog X.w) X.A X.env X.xe → PSs X body (tS d W mb)) :
    FnG P w K mg base (k + 1) f (PySem.W.fnOf name qual params body scope dV kV doc pm an cdv ct) ps (spT d ps.length (runM ps.length N.length mb)) := by
  refine fn_ofG lk hcd SC (fun vs H Q E h => h.1) fun A outer s H vs Q E hr hsp => ?_
  obtain ⟨hl, G, xs, S, R, ra, q⟩ := hsp
  have hpl : ps.length ≤ N.length := by have := congrArg List.length SC.pre; rw [List.length_take] at this; omega
  refine ⟨tS d (fun cls dd _ H => E cls dd H) mb, hbody (cxOf (L2.CX P w) P w K mg base N qual scope f cdv A outer s H E) _ rfl rfl rfl rfl rfl rfl rfl rfl rfl rfl rfl hr (takes_of rfl rfl rfl rfl) (passes_of rfl), ?_⟩
  have hxl : xs.length = ps.length := by rw [ra.length, hl]
  unfold runM at q
  rw [if_pos hxl] at q
  obtain ⟨E1, O1⟩ := start_rep (d := d) (H := H) (N := N) ra (by omega)
  exact ⟨G, G, H, G, _, S, ⟨Le.refl _, Step.refl _ _⟩, R, E1, O1 H, fin_post q⟩
end Hf
end

section
set_option Elab.async false
set_option linter.all false
set_option maxRecDepth 100000
set_option maxHeartbeats 4000000
/-! HfS14: raise, try .. except .. as .., isinstance of a caught error, by trees. -/
namespace Hf
open PySem PySem.Spec PyProof.Rows L2
/-! ### several clauses, each with its name or none -/
abbrev Clause := Value × Option Nat × (Addr → Value → Option Addr → TS)
def dropD (D : Ends) : Option Nat → Ends
  | none => D
  | some i => { nx := fun σ' H' => D.nx (σ'.set i none) H', rt := D.rt, bk := fun σ' H' => D.bk (σ'.set i none) H', ct := fun σ' H' => D.ct (σ'.set i none) H' }
def bindX (σ : L2.St) (a : Addr) : Option Nat → L2.St
  | none => σ
  | some i => σ.set i (some (.ref a))
/-- what the clauses wish of an exception of the body, one after the other -/
def wManyA (K : PySem.W.Frag) (Wout : WX) (D : Ends) : List Clause → WX
  | [] => Wout
  | (c, oi, ts) :: r => fun cls d σ H => ∃ b, PySem.W.exmOne K cls c = some b ∧ (b = true → ∀ a, H a = none → ts a cls d (dropD D oi) (bindX σ a oi) H) ∧ (b = false → wManyA K Wout D r cls d σ H)
inductive HdsA (X : Cx) : List ExceptHandler → List Clause → Prop
  | nil : HdsA X [] []
  | plain {x : PySem.Str} {c : Value} {ts : Addr → Value → Option Addr → TS} {b₀ : Stmt} {suite : List Stmt} {np pos' : Pos} {hds : List ExceptHandler} {l : List Clause} (hc : Names X x c)
      (hsu : ∀ (a : Addr) (oe : Obj) (cls : Value) (d : Option Addr) (pn : List (Addr × Obj)), Zc cls d oe → (∃ vs, oe.data = .fields vs) → PSs (X.suite a ((a, oe) :: pn)) (b₀ :: suite) (ts a cls d)) (r : HdsA X hds l) :
      HdsA X (.ExceptHandler (some (.Name x np)) none (b₀ :: suite) pos' :: hds) ((c, none, ts) :: l)
  | named {x n : PySem.Str} {i : Nat} {c : Value} {ts : Addr → Value → Option Addr → TS} {b₀ : Stmt} {suite : List Stmt} {np pos' : Pos} {hds : List ExceptHandler} {l : List Clause} (hi : X.N[i]? = some n) (hln : X.env.kindOf n = some .local) (hc : Names X x c)
      (hsu : ∀ (a : Addr) (oe : Obj) (cls : Value) (d : Option Addr) (pn : List (Addr × Obj)), Zc cls d oe → (∃ vs, oe.data = .fields vs) → PSs (X.suite a ((a, oe) :: pn)) (b₀ :: suite) (ts a cls d)) (r : HdsA X hds l) :
      HdsA X (.ExceptHandler (some (.Name x np)) (some n) (b₀ :: suite) pos' :: hds) ((c, some i, ts) :: l)
section
variable {X : Cx} {body : List Stmt} {h₀ : ExceptHandler} {hds : List ExceptHandler} {l : List Clause} {pos : Pos} {tb : WX → TS} {Wout : WX}
theorem ps_tryA (hs : X.stack = X.env :: X.outer) (hf : X.env.frame = some X.env.locals) (hN : X.N.Nodup) (tk : Takes X Wout)
    (hb : ∀ (W : WX) (pn : List (Addr × Obj)) (xe : Value → Shared → Prop), Takes (X.tr pn xe) W → PassesOwn (model X.prog X.w) X.A X.env xe → PSs (X.tr pn xe) body (tb W))
    (hh : HdsA X (h₀ :: hds) l) : PS X (.Try body (h₀ :: hds) [] [] pos) (fun D σ H => tb (wManyA X.K Wout D l) D σ H) := by
  refine ⟨fun pins s σ H D I h => ?_⟩
  have ok := I.ok
  have hfr : X.A.frames = some (X.env :: X.outer) := by rw [ok.frames, hs]
  refine wpAny_Try_except ?_
  refine wpAny_mono ((hb (wManyA X.K Wout D l) (X.pn ++ pins) (fun e s₁ => wpAny (model X.prog X.w) X.A (noteFrame e X.env) (fun _ s₂ => wpAny (model X.prog X.w) X.A (setFlight e none) (fun _ s₃ =>
    wpAny (model X.prog X.w) X.A (handleBy e X.env (h₀ :: hds)) (SP X pins D) X.xe s₃) X.xe s₂) X.xe s₁) (fun u s' xx => ?_) PassesOwn.looking).run [] s σ H D (I.toTry _) h) (fun f s1 hsp => ?_) (fun e s1 he => he)
  · obtain ⟨a, B, sI, pins', σ', H', cls, d, rfl, J', nb, up, sky, na, os, ag, w⟩ := xx
    have J : Inv X pins σ' H' sI := J'.ofTry ok
    have sky' : Sky B (X.env :: X.outer) a (Zc cls d) X.env.locals s'.heap := by rw [← hs]; exact sky
    show wpAny (model X.prog X.w) X.A (noteFrame (.ref a) X.env) _ _ _
    refine Sky.land Zc.steady hfr hf sky' fun h3 fl3 up3 => ?_
    have J3 : Inv X pins σ' H' { s' with heap := h3 } := J.landed nb fl3.1 (up.trans up3) os ag
    obtain ⟨oe3, vs3, he3, hz3, hd3⟩ := fl3.there
    have notFr : ∀ {h : Heap} {o : Obj} {vs : Array Value}, h.FunFrames B (X.env :: X.outer) → h.get? a = some o → o.data = .fields vs → a ∉ frs (X.env :: X.outer) := fun {h o vs} ff e dd hm => by
      obtain ⟨_, o', e', hnf⟩ := ff.mem hm
      rw [e] at e'; cases e'
      exact hnf _ dd
    have nfr := notFr fl3.2.2.1 he3 hd3
    have nL : a ≠ X.env.locals := fun z => nfr (List.mem_filterMap.mpr ⟨X.env, List.mem_cons_self, by rw [hf, z]⟩)
    have nF : a ∉ X.fs := fun hm => by
      obtain ⟨e, he, q⟩ := List.mem_filterMap.mp hm
      exact nfr (List.mem_filterMap.mpr ⟨e, List.mem_cons_of_mem _ he, q⟩)
    have S3 := J3.suite he3 hd3 na nL nF
    have LT : PySem.W.Looks (model X.prog X.w) h3 (typeOf (.ref a)) cls := fun A Q E s k q => wpAny_typeOf_ref (k _ _ he3) (by rw [hz3.1]; exact q)
    have test : ∀ {x : PySem.Str} {c : Value} {np : Pos} {Q : Value → Shared → Prop} {E : Value → Shared → Prop}, Names X x c → Q c { s' with heap := h3 } → wpAny (model X.prog X.w) (X.A.mark (some (.ref a))) (eval (.Name x np) X.env) Q E { s' with heap := h3 } := fun {x c np Q E} hc q => by
      obtain ⟨hg, hdbg, hm | ⟨hm, hv, hnn⟩⟩ := hc
      · exact ld_glob (X := X.suite a ((a, oe3) :: (X.pn ++ pins))) S3 hg hm q hdbg
      · exact ld_blt (X := X.suite a ((a, oe3) :: (X.pn ++ pins))) S3 hg hm hv q hnn hdbg
    have go : ∀ {hds' : List ExceptHandler} {l' : List Clause}, HdsA X hds' l' → wManyA X.K Wout D l' cls d σ' H' →
        wpAny (model X.prog X.w) X.A (handleBy (.ref a) X.env hds') (SP X pins D) X.xe { s' with heap := h3 } := by
      intro hds' l' hk
      induction hk with
      | nil =>
        intro w
        refine wpAny_handleBy_nil ?_
        obtain ⟨k1, k2, k3, oe, vs, T, oT, ts', he, hz, hd, h1, hr⟩ := id fl3
        unfold PySem.passOn
        refine wpAny_bind (wpAny_field he hd h1 ?_)
        rw [if_neg (show ¬ ((Value.ref T == Value.none) = true) from by simp)]
        have fin : wpAny (model X.prog X.w) X.A (setFlight (.ref a) X.env.frame) (fun _ s4 => wpAny (model X.prog X.w) X.A (throw (.ref a) : Sem Flow) (SP X pins D) X.xe s4) X.xe { s' with heap := h3 } := by
          rw [hf]
          refine HandSPX.setFlight_upZ fl3 fun h4 hh4 up4 => wpAny_throw (tk _ _ ?_)
          exact ⟨a, B, sI, pins, σ', H', cls, d, rfl, J, nb, (up.trans up3).trans up4, .inr (.inr (by rw [hs]; exact hh4)), na, os, ag, w⟩
        first
          | exact wpAny_bind (wpAny_pure (wpAny_bind fin))
          | exact wpAny_bind fin
      | @plain x c ts b₀ suite np pos' hds2 l2 hc hsu r ih =>
        intro w
        obtain ⟨b, hb1, hyes, hno⟩ := w
        refine wpAny_handleBy_cons (codeAny_handlers_test ?_) (by intro q; cases q)
        have LM := PySem.W.exm_one (M := model X.prog X.w) (J3.kIn) LT hb1
        refine test hc (LM.here ?_)
        cases b with
        | true =>
          refine codeAny_handlers_suite ?_
          refine HandSPX.lands_againZ fl3 fun h4 fl4 up4 => ?_
          have J4 : Inv X pins σ' H' { s' with heap := h4 } := J.landed nb fl4.1 ((up.trans up3).trans up4) os ag
          obtain ⟨oe4, vs4, he4, hz4, hd4⟩ := fl4.there
          have S4 := J4.suite he4 hd4 na nL nF
          refine wpAny_mono ((hsu a oe4 cls d (X.pn ++ pins) hz4 ⟨_, hd4⟩).run [] _ _ H' _ S4 (hyes rfl a na)) (fun f s6 hsp => ?_) (fun _ _ z => False.elim z)
          cases f with
          | next =>
            obtain ⟨σ6, H6, S6, q6⟩ := hsp
            exact ⟨_, _, S6.unsuite ok, q6⟩
          | brk =>
            obtain ⟨σ6, H6, S6, q6⟩ := hsp
            exact ⟨_, _, S6.unsuite ok, q6⟩
          | cont =>
            obtain ⟨σ6, H6, S6, q6⟩ := hsp
            exact ⟨_, _, S6.unsuite ok, q6⟩
          | ret u =>
            obtain ⟨v6, σ6, H6, S6, r6, q6⟩ := hsp
            exact ⟨_, _, _, S6.unsuite ok, r6, q6⟩
        | false =>
          show wpAny _ X.A (handleBy (.ref a) X.env hds2) _ _ _
          exact ih (hno rfl)
      | @named x n i c ts b₀ suite np pos' hds2 l2 hi hln hc hsu r ih =>
        intro w
        obtain ⟨b, hb1, hyes, hno⟩ := w
        have hloc : Loc X.env.scope n := .inl hln
        refine wpAny_handleBy_cons (codeAny_handlers_test ?_) (by intro q; cases q)
        have LM := PySem.W.exm_one (M := model X.prog X.w) (J3.kIn) LT hb1
        refine test hc (LM.here ?_)
        cases b with
        | true =>
          refine codeAny_handlers_suite_as ?_
          refine HandSPX.lands_againZ fl3 fun h4 fl4 up4 => ?_
          have J4 : Inv X pins σ' H' { s' with heap := h4 } := J.landed nb fl4.1 ((up.trans up3).trans up4) os ag
          obtain ⟨oe4, vs4, he4, hz4, hd4⟩ := fl4.there
          have S4 := J4.suite he4 hd4 na nL nF
          refine store_ok (X := X.suite a ((a, oe4) :: (X.pn ++ pins))) (v := .ref a) S4 hN hi hloc rfl (fun s5 S5 => ?_) (.inr hln)
          refine wpAny_mono ((hsu a oe4 cls d (X.pn ++ pins) hz4 ⟨_, hd4⟩).run [] s5 _ H' _ S5 (hyes rfl a na)) (fun f s6 hsp => ?_) (fun _ _ z => False.elim z)
          have end_ : ∀ {σ6 : L2.St} {H6 : Hp} {Q : Shared → Prop}, Inv (X.suite a ((a, oe4) :: (X.pn ++ pins))) [] σ6 H6 s6 → (∀ s7, Inv X pins (σ6.set i none) H6 s7 → Q s7) →
              wpAny (model X.prog X.w) X.A (do bindName X.env n .none; unbindBehindTheSuite X.env n pos') (fun _ s7 => Q s7) X.xe s6 := fun {σ6 H6 Q} S6 hq => gone_ok (S6.unsuite ok) hN hi hln hq
          cases f with
          | next =>
            obtain ⟨σ6, H6, S6, q6⟩ := hsp
            exact end_ S6 fun s7 J7 => ⟨_, _, J7, q6⟩
          | brk =>
            obtain ⟨σ6, H6, S6, q6⟩ := hsp
            exact end_ S6 fun s7 J7 => ⟨_, _, J7, q6⟩
          | cont =>
            obtain ⟨σ6, H6, S6, q6⟩ := hsp
            exact end_ S6 fun s7 J7 => ⟨_, _, J7, q6⟩
          | ret u =>
            obtain ⟨v6, σ6, H6, S6, r6, q6⟩ := hsp
            exact end_ S6 fun s7 J7 => ⟨_, _, _, J7, r6, q6⟩
        | false =>
          show wpAny _ X.A (handleBy (.ref a) X.env hds2) _ _ _
          exact ih (hno rfl)
    exact go hh w
  · cases f with
    | next =>
      obtain ⟨σ', H', J', q⟩ := hsp
      exact wpAny_execs_nil ⟨σ', H', J'.ofTry ok, q⟩
    | brk =>
      obtain ⟨σ', H', J', q⟩ := hsp
      exact ⟨σ', H', J'.ofTry ok, q⟩
    | cont =>
      obtain ⟨σ', H', J', q⟩ := hsp
      exact ⟨σ', H', J'.ofTry ok, q⟩
    | ret u =>
      obtain ⟨v, σ', H', J', r, q⟩ := hsp
      exact ⟨v, σ', H', J'.ofTry ok, r, q⟩
end
end Hf
end

section
set_option Elab.async false
set_option linter.all false
set_option maxRecDepth 100000
set_option maxHeartbeats 4000000
/-! HfS15: raise, try, isinstance of a caught error, join, dict displays by trees. -/
namespace Hf
open PySem PySem.Spec PyProof.Rows L2
/-! ### the caught errors known -/
def D.at (d : D) (p : List (Addr × Nat)) : D := { d with pn := p }
section
variable {d : D} {p : List (Addr × Nat)} {G : Gh}
mutual
theorem RepV.at : ∀ (t : T) {v : V}, RepV d G t v → RepV (d.at p) G t v
  | .non, _, r => r
  | .bl _, _, r => r
  | .int _, _, r => r
  | .str _, _, r => r
  | .tup xs, _, ⟨a, vs, e, q, z, r⟩ => ⟨a, vs, e, q, z, RepAll.at xs r⟩
  | .lst xs, _, ⟨a, vs, e, q, z, r⟩ => ⟨a, vs, e, q, z, RepAll.at xs r⟩
  | .dic kvs, _, ⟨a, vs, e, q, r⟩ => ⟨a, vs, e, q, RepKs.at kvs r⟩
  | .ref _, _, r => r
  | .fn _, _, r => r
  | .ins c fs, _, ⟨a, C, dx, ws, e, q, i, j, r⟩ => ⟨a, C, dx, ws, e, q, i, j, RepFs.at fs r⟩
theorem RepAll.at : ∀ (xs : List T) {vs : List V}, RepAll d G xs vs → RepAll (d.at p) G xs vs
  | [], [], r => r
  | _ :: _, [], r => r
  | [], _ :: _, r => r
  | x :: xs, _ :: _, r => ⟨RepV.at x r.1, RepAll.at xs r.2⟩
theorem RepKs.at : ∀ (xs : List (T × T)) {vs : List V}, RepKs d G xs vs → RepKs (d.at p) G xs vs
  | [], [], r => r
  | _ :: _, [], r => r
  | [], _ :: _, r => r
  | (_, x) :: xs, _ :: _, r => ⟨RepV.at x r.1, RepKs.at xs r.2⟩
theorem RepFs.at : ∀ (xs : List (Nat × T)) {vs : List (PySem.Str × V)}, RepFs d G xs vs → RepFs (d.at p) G xs vs
  | [], [], r => r
  | _ :: _, [], r => r
  | [], _ :: _, r => r
  | (_, x) :: xs, (_, _) :: _, r => ⟨r.1, RepV.at x r.2.1, RepFs.at xs r.2.2⟩
end
theorem RepS.at {S : Store} {H : Hp} (R : RepS d G S H) : RepS (d.at p) G S H :=
  ⟨R.imm, R.len, fun n xs e => let ⟨a, vs, h1, h2, z, h3⟩ := R.cell n xs e; ⟨a, vs, h1, h2, z, RepAll.at xs h3⟩, R.inj, R.off⟩
theorem RepE.at {r : Env} {σ : L2.St} {H : Hp} (E : RepE d G r σ H) (h : ∀ (i : Nat) c, r[i]? = some (Slot.exc c) → ∃ a, σ[i]? = some (some (V.ref a)) ∧ (a, c) ∈ p) : RepE (d.at p) G r σ H :=
  ⟨E.len, fun i t e => let ⟨v, h1, h2⟩ := E.slot i t e; ⟨v, h1, RepV.at t h2⟩, fun i xs e => let ⟨a, vs, h1, h2, z, h3, h4, h5⟩ := E.own i xs e; ⟨a, vs, h1, h2, z, RepAll.at xs h3, h4, h5⟩, E.apart,
    fun i c fs e => let ⟨a, C, dx, ws, h1, h2, h3, h4, h5, h6⟩ := E.inst i c fs e; ⟨a, C, dx, ws, h1, h2, h3, h4, RepFs.at fs h5, h6⟩, h⟩
theorem RepV.back {q : List (Addr × Nat)} {t : T} {v : V} (h : RepV (d.at q) G t v) : RepV d G t v := RepV.at (d := d.at q) (p := d.pn) t h
theorem RepS.back {q : List (Addr × Nat)} {S : Store} {H : Hp} (R : RepS (d.at q) G S H) : RepS d G S H := RepS.at (d := d.at q) (p := d.pn) R
theorem RepE.back {q : List (Addr × Nat)} {r : Env} {σ : L2.St} {H : Hp} (E : RepE (d.at q) G r σ H) (h : ∀ (i : Nat) c, r[i]? = some (Slot.exc c) → ∃ a, σ[i]? = some (some (V.ref a)) ∧ (a, c) ∈ d.pn) : RepE d G r σ H := RepE.at (d := d.at q) (p := d.pn) E h
theorem noExc_no : ∀ {r : Env} {i c : Nat}, noExc r = true → r[i]? = some (.exc c) → False
  | [], _, _, _, e => by simp at e
  | s :: r, 0, c, h, e => by
    simp at e; subst e
    simp [noExc] at h
  | s :: r, i + 1, c, h, e => by
    have e' : r[i]? = some (.exc c) := by simpa using e
    refine noExc_no (r := r) ?_ e'
    cases s <;> simp [noExc] at h <;> exact h
theorem RepE.putExc {r : Env} {σ : L2.St} {H : Hp} (E : RepE d G r σ H) (hp : d.pn = []) {i : Nat} {a : Addr} {c : Nat} : RepE (d.at [(a, c)]) G (r.set i (.exc c)) (σ.set i (some (.ref a))) H := by
  have noE : ∀ {j c'}, r[j]? = some (Slot.exc c') → False := fun {j c'} e => by
    obtain ⟨b, _, h⟩ := E.exc j c' e
    rw [hp] at h; cases h
  have nov : ∀ {j : Nat} {sl : Slot}, (∀ t, sl ≠ .exc t) → (r.set i (.exc c))[j]? = some sl → j ≠ i ∧ r[j]? = some sl := fun {j sl} hn e => by
    rcases get_set e with ⟨_, e1, _⟩ | q
    · exact absurd e1.symm (hn _)
    · exact q
  refine ⟨by rw [List.length_set, List.length_set]; exact E.len, fun j t e => ?_, fun j ys e => ?_, fun j k ys zs b e1 e2 e3 e4 => ?_, fun j c' fs e => ?_, fun j c' e => ?_⟩
  · obtain ⟨hn, e⟩ := nov (by intro _ z; cases z) e
    rw [List.getElem?_set_ne (Ne.symm hn)]
    obtain ⟨v, h1, h2⟩ := E.slot j t e
    exact ⟨v, h1, RepV.at t h2⟩
  · obtain ⟨hn, e⟩ := nov (by intro _ z; cases z) e
    rw [List.getElem?_set_ne (Ne.symm hn)]
    obtain ⟨b, vs, h1, h2, z, h3, h4⟩ := E.own j ys e
    exact ⟨b, vs, h1, h2, z, RepAll.at ys h3, h4⟩
  · obtain ⟨hn, e1⟩ := nov (by intro _ z; cases z) e1
    obtain ⟨hm, e2⟩ := nov (by intro _ z; cases z) e2
    rw [List.getElem?_set_ne (Ne.symm hn)] at e3
    rw [List.getElem?_set_ne (Ne.symm hm)] at e4
    exact E.apart j k ys zs b e1 e2 e3 e4
  · obtain ⟨hn, e⟩ := nov (by intro _ z; cases z) e
    rw [List.getElem?_set_ne (Ne.symm hn)]
    obtain ⟨b, C, dx, ws, h1, h2, h3, h4, h5, h6⟩ := E.inst j c' fs e
    exact ⟨b, C, dx, ws, h1, h2, h3, h4, RepFs.at fs h5, h6⟩
  · rcases get_set e with ⟨rfl, e1, hl⟩ | ⟨hn, e⟩
    · cases e1
      exact ⟨a, List.getElem?_set_self (by rw [← E.len]; exact hl), List.mem_singleton.mpr rfl⟩
    · exact (noE e).elim
end
/-! ### raise -/
section
variable {X : Cx} {d : D} {W : WX} {pos : Pos}
theorem s_raise {e : Expr} {c : Nat} {C : Addr} (hc : X.calm = true) (tk : Takes X W) (hx : d.xa c = some C) (he : PMk X e (fun _ H Q => Q (.ref C) none H)) : PS X (.Raise (some e) none pos) (tS d W fun r S => .exn c r S) :=
  PS_imp (ps_raise hc tk he) fun D σ H ⟨Gb, G0, H0, G, r, S, s0, R, E, O, q⟩ => q C G σ H hx s0 R E O
/-! ### try -/
abbrev HdM := Nat × Option Nat × (Env → Store → SRes)
def hdlM (sub : Nat → Nat → Bool) : List HdM → Nat → Env → Store → SRes
  | [], e, r, S => .exn e r S
  | (c, none, m) :: l, e, r, S => if sub e c = true then (m r S).hot else hdlM sub l e r S
  | (c, some i, m) :: l, e, r, S => if sub e c = true then (m (r.set i (.exc e)) S).drop i else hdlM sub l e r S
def tryM (sub : Nat → Nat → Bool) (mb : Env → Store → SRes) (l : List HdM) : Env → Store → SRes := fun r S => match mb r S with
  | .exn e r' S' => hdlM sub l e r' S'
  | x => x
/-- a clause's class: what the layer says of it -/
def ClsX (X : Cx) (d : D) (sub : Nat → Nat → Bool) (x : PySem.Str) (c : Nat) (cv : Value) : Prop := Names X x cv ∧ ∀ e C, d.xa e = some C → PySem.W.exmOne X.K (.ref C) cv = some (sub e c)
inductive HdsT (X : Cx) (d : D) (sub : Nat → Nat → Bool) : List ExceptHandler → List HdM → Prop
  | nil : HdsT X d sub [] []
  | plain {x : PySem.Str} {c : Nat} {cv : Value} {m : Env → Store → SRes} {b₀ : Stmt} {suite : List Stmt} {np pos' : Pos} {hds : List ExceptHandler} {l : List HdM} (hc : ClsX X d sub x c cv)
      (hsu : ∀ (a : Addr) (oe : Obj) (e : Nat) (C : Addr) (pn : List (Addr × Obj)), d.xa e = some C → Zc (.ref C) none oe → (∃ vs, oe.data = .fields vs) → PSs (X.suite a ((a, oe) :: pn)) (b₀ :: suite) (tS (d.at [(a, e)]) W0 m)) (r : HdsT X d sub hds l) :
      HdsT X d sub (.ExceptHandler (some (.Name x np)) none (b₀ :: suite) pos' :: hds) ((c, none, m) :: l)
  | named {x n : PySem.Str} {i c : Nat} {cv : Value} {m : Env → Store → SRes} {b₀ : Stmt} {suite : List Stmt} {np pos' : Pos} {hds : List ExceptHandler} {l : List HdM} (hi : X.N[i]? = some n) (hln : X.env.kindOf n = some .local) (hc : ClsX X d sub x c cv)
      (hsu : ∀ (a : Addr) (oe : Obj) (e : Nat) (C : Addr) (pn : List (Addr × Obj)), d.xa e = some C → Zc (.ref C) none oe → (∃ vs, oe.data = .fields vs) → PSs (X.suite a ((a, oe) :: pn)) (b₀ :: suite) (tS (d.at [(a, e)]) W0 m)) (r : HdsT X d sub hds l) :
      HdsT X d sub (.ExceptHandler (some (.Name x np)) (some n) (b₀ :: suite) pos' :: hds) ((c, some i, m) :: l)
theorem pss_ex {ι : Type} {P : ι → Prop} {sts : List Stmt} {t : ι → TS} (h : ∀ i, P i → PSs X sts (t i)) : PSs X sts (fun D σ H => ∃ i, P i ∧ t i D σ H) := ⟨fun pins s σ H D I ⟨i, hp, q⟩ => (h i hp).run pins s σ H D I q⟩
def tsOf (d : D) (m : Env → Store → SRes) (a : Addr) (cls : Value) (dd : Option Addr) : TS := fun D σ H => ∃ p : Nat × Addr, (d.xa p.1 = some p.2 ∧ cls = .ref p.2 ∧ dd = none) ∧ tS (d.at [(a, p.1)]) W0 m D σ H
theorem hds_of {sub : Nat → Nat → Bool} {hds : List ExceptHandler} {l : List HdM} (h : HdsT X d sub hds l) : ∃ cl : List Clause, HdsA X hds cl ∧ (d.pn = [] → ∀ {D : Ends} {Gb G0 : Gh} {H0 : Hp} {e : Nat} {r : Env} {S : Store} {C : Addr} {G : Gh} {σ : L2.St} {H : Hp},
    PostS d W Gb G0 H0 D (hdlM sub l e r S) → d.xa e = some C → Stp Gb G0 G H0 H → RepS d G S H → RepE d G r σ H → RepO H0 r σ → wManyA X.K W D cl (.ref C) none σ H) := by
  induction h with
  | nil => exact ⟨[], .nil, fun _ {D Gb G0 H0 e r S C G σ H} q hx s R E O => q C G σ H hx s R E O⟩
  | @plain x c cv m b₀ suite np pos' hds l hc hsu r ih =>
    obtain ⟨cl, h1, h2⟩ := ih
    refine ⟨(cv, none, tsOf d m) :: cl, .plain hc.1 (fun a oe cls dd pn hz hf => pss_ex fun p hp => ?_) h1, fun hp {D Gb G0 H0 e r S C G σ H} q hx s R E O => ⟨sub e c, hc.2 e C hx, fun hb a _ => ?_, fun hb => ?_⟩⟩
    · obtain ⟨k1, rfl, rfl⟩ := hp
      exact hsu a oe p.1 p.2 pn k1 hz hf
    · have q' : PostS d W Gb G0 H0 D (m r S).hot := by
        unfold hdlM at q
        rw [if_pos hb] at q; exact q
      refine ⟨(e, C), ⟨hx, rfl, rfl⟩, Gb, G0, H0, G, r, S, s, R.at, E.at fun i c' e1 => ?_, O, ?_⟩
      · obtain ⟨b, _, h⟩ := E.exc i c' e1
        rw [hp] at h; cases h
      · cases em : m r S with
        | bad => rw [em] at q'; exact q'.elim
        | exn c' r' S' => rw [em] at q'; exact q'.elim
        | ret t S' => rw [em] at q'; exact fun G' v H' s' R' rv => q' G' v H' s' R'.back rv.back
        | nx r' S' =>
          rw [em] at q'
          have q' : PostS d W Gb G0 H0 D (if noExc r' = true then .nx r' S' else .bad) := q'
          split at q' <;> try exact q'.elim
          rename_i hn
          exact fun G' σ' H' s' R' E' O' => q' G' σ' H' s' R'.back (RepE.back E' fun i c' e1 => (noExc_no hn e1).elim) O'
        | brk r' S' =>
          rw [em] at q'
          have q' : PostS d W Gb G0 H0 D (if noExc r' = true then .brk r' S' else .bad) := q'
          split at q' <;> try exact q'.elim
          rename_i hn
          exact fun G' σ' H' s' R' E' O' => q' G' σ' H' s' R'.back (RepE.back E' fun i c' e1 => (noExc_no hn e1).elim) O'
        | cnt r' S' =>
          rw [em] at q'
          have q' : PostS d W Gb G0 H0 D (if noExc r' = true then .cnt r' S' else .bad) := q'
          split at q' <;> try exact q'.elim
          rename_i hn
          exact fun G' σ' H' s' R' E' O' => q' G' σ' H' s' R'.back (RepE.back E' fun i c' e1 => (noExc_no hn e1).elim) O'
    · refine h2 hp ?_ hx s R E O
      unfold hdlM at q
      rw [if_neg (by rw [hb]; exact Bool.false_ne_true)] at q; exact q
  | @named x n i c cv m b₀ suite np pos' hds l hi hln hc hsu r ih =>
    obtain ⟨cl, h1, h2⟩ := ih
    refine ⟨(cv, some i, tsOf d m) :: cl, .named hi hln hc.1 (fun a oe cls dd pn hz hf => pss_ex fun p hp => ?_) h1, fun hp {D Gb G0 H0 e r S C G σ H} q hx s R E O => ⟨sub e c, hc.2 e C hx, fun hb a _ => ?_, fun hb => ?_⟩⟩
    · obtain ⟨k1, rfl, rfl⟩ := hp
      exact hsu a oe p.1 p.2 pn k1 hz hf
    · have q' : PostS d W Gb G0 H0 D ((m (r.set i (.exc e)) S).drop i) := by
        unfold hdlM at q
        rw [if_pos hb] at q; exact q
      refine ⟨(e, C), ⟨hx, rfl, rfl⟩, Gb, G0, H0, G, r.set i (.exc e), S, s, R.at, E.putExc hp, O.put ⟨fun _ z => (nomatch z), fun _ _ z => (nomatch z)⟩, ?_⟩
      cases em : m (r.set i (.exc e)) S with
        | bad => rw [em] at q'; exact q'.elim
        | exn c' r' S' => rw [em] at q'; exact q'.elim
        | ret t S' => rw [em] at q'; exact fun G' v H' s' R' rv => q' G' v H' s' R'.back rv.back
        | nx r' S' =>
          rw [em] at q'
          have q' : PostS d W Gb G0 H0 D (if noExc (r'.set i .no) = true then .nx (r'.set i .no) S' else .bad) := q'
          split at q' <;> try exact q'.elim
          rename_i hn
          exact fun G' σ' H' s' R' E' O' => q' G' _ H' s' R'.back (RepE.back (E'.put (i := i) (o := none) (.inl rfl)) fun i c' e1 => (noExc_no hn e1).elim) (O'.put ⟨fun _ z => (nomatch z), fun _ _ z => (nomatch z)⟩)
        | brk r' S' =>
          rw [em] at q'
          have q' : PostS d W Gb G0 H0 D (if noExc (r'.set i .no) = true then .brk (r'.set i .no) S' else .bad) := q'
          split at q' <;> try exact q'.elim
          rename_i hn
          exact fun G' σ' H' s' R' E' O' => q' G' _ H' s' R'.back (RepE.back (E'.put (i := i) (o := none) (.inl rfl)) fun i c' e1 => (noExc_no hn e1).elim) (O'.put ⟨fun _ z => (nomatch z), fun _ _ z => (nomatch z)⟩)
        | cnt r' S' =>
          rw [em] at q'
          have q' : PostS d W Gb G0 H0 D (if noExc (r'.set i .no) = true then .cnt (r'.set i .no) S' else .bad) := q'
          split at q' <;> try exact q'.elim
          rename_i hn
          exact fun G' σ' H' s' R' E' O' => q' G' _ H' s' R'.back (RepE.back (E'.put (i := i) (o := none) (.inl rfl)) fun i c' e1 => (noExc_no hn e1).elim) (O'.put ⟨fun _ z => (nomatch z), fun _ _ z => (nomatch z)⟩)
    · refine h2 hp ?_ hx s R E O
      unfold hdlM at q
      rw [if_neg (by rw [hb]; exact Bool.false_ne_true)] at q; exact q
theorem s_try {sub : Nat → Nat → Bool} {body : List Stmt} {h₀ : ExceptHandler} {hds : List ExceptHandler} {l : List HdM} {mb : Env → Store → SRes} (hs : X.stack = X.env :: X.outer) (hf : X.env.frame = some X.env.locals) (hN : X.N.Nodup) (tk : Takes X W) (hp : d.pn = [])
    (hb : ∀ (W : WX) (pn : List (Addr × Obj)) (xe : Value → Shared → Prop), Takes (X.tr pn xe) W → PassesOwn (model X.prog X.w) X.A X.env xe → PSs (X.tr pn xe) body (tS d W mb))
    (hh : HdsT X d sub (h₀ :: hds) l) : PS X (.Try body (h₀ :: hds) [] [] pos) (tS d W (tryM sub mb l)) := by
  obtain ⟨cl, h1, h2⟩ := hds_of (W := W) hh
  refine PS_imp (ps_tryA hs hf hN tk (tb := fun W => tS d W mb) hb h1) fun D σ H ⟨Gb, G0, H0, G, r, S, s0, R, E, O, q⟩ => ⟨Gb, G0, H0, G, r, S, s0, R, E, O, ?_⟩
  unfold tryM at q
  cases em : mb r S with
  | exn e r' S' =>
    rw [em] at q
    exact fun C G' σ' H' hx s' R' E' O' => h2 hp q hx s' R' E' O'
  | bad => rw [em] at q; exact q.elim
  | ret t S' => rw [em] at q; exact q
  | nx r' S' => rw [em] at q; exact q
  | brk r' S' => rw [em] at q; exact q
  | cnt r' S' => rw [em] at q; exact q
/-! ### isinstance of a caught error -/
def isxM (sub : Nat → Nat → Bool) (i c : Nat) : Env → Store → Res T := fun r S => match r[i]? with
  | some (.exc e) => .ok (.bl (sub e c)) S
  | _ => .bad
/-- what isinstance says of the errors that are held -/
def IsxOk (X : Cx) (d : D) (sub : Nat → Nat → Bool) (c : Nat) (C : Addr) : Prop := ∀ a e, (a, e) ∈ d.pn → ∃ E, d.xa e = some E ∧ CallR X (.builtin "isinstance") (rIsE X.K E a) ∧ PySem.W.kitOne X.K (.ref E) (.ref C) = some (sub e c)
theorem s_isx {sub : Nat → Nat → Bool} {i c : Nat} {C : Addr} {x y : PySem.Str} {p p1 p2 : Pos} (h : IsxOk X d sub c C) (hN : X.N[i]? = some x) (hv : Vis X.env.scope x) (hd : (x == ("__debug__" : PySem.Str)) = false) (hcd : (x == ("__classdict__" : PySem.Str)) = false)
    (hgy : Gl X y) (hmy : X.mg y = some (.ref C)) (hyd : (y == ("__debug__" : PySem.Str)) = false) (hg : Gl X "isinstance") (hm : X.mg "isinstance" = none) : PE X (.Call (.Name "isinstance" p) [.Name x p1, .Name y p2] [] pos) (tE d W (isxM sub i c)) := by
  refine ⟨fun pins s σ H Q I ⟨G, r, S, RS, RE, q⟩ => ?_⟩
  unfold isxM at q
  cases er : r[i]? with
  | none => rw [er] at q; exact q.elim
  | some sl =>
    cases sl with
    | exc e =>
      rw [er] at q
      obtain ⟨a, hs, hm'⟩ := RE.exc i e er
      obtain ⟨D0, hx, hcall, hk⟩ := h a e hm'
      have pe := pe_callB (p := p) (pos := pos) hcall hg hm PyProof.Rows.boot_isinstance (pa_cons (pe_var (pos := p1) hN hv hd hcd) (pa_cons (pe_glob (pos := p2) (v := .ref C) hgy hmy rfl hyd) pa_nil rfl) rfl) (by decide) (by decide) rfl rfl
      exact pe.run pins s σ H Q I ⟨.ref a, hs, .ref C, .ref C, sub e c, rfl, fun u hu => hu, hk, q G _ H (Step.refl _ _) RS rfl⟩
    | _ => rw [er] at q; exact q.elim
/-! ### a dict of written texts and constants -/
theorem dlookV_none : ∀ {ks : List (List Nat)} {vs : List V} {z : List Nat}, z ∉ ks → dlookV (ks.map T.str) vs z = none
  | [], [], _, _ => rfl
  | [], _ :: _, _, _ => rfl
  | _ :: _, [], _, _ => rfl
  | k :: ks, v :: vs, z, h => by
    have h1 : k ≠ z := fun e => h (by rw [e]; exact List.mem_cons_self)
    show (if k = z then some v else dlookV (ks.map T.str) vs z) = none
    rw [if_neg h1]
    exact dlookV_none fun m => h (List.mem_cons_of_mem _ m)
theorem skInj {a b : List Nat} (h : sk a = sk b) : a = b := by
  have := congrArg (fun s : PySem.Str => s.cps.toList) h
  simpa [sk] using this
abbrev kvT (p : List Nat × V) : Key × V := (Sum.inr (sk p.1), p.2)
theorem mergeT : ∀ (ps acc : List (List Nat × V)), ((acc ++ ps).map (·.1)).Nodup → mergeK (acc.map kvT) (ps.map kvT) = (acc ++ ps).map kvT
  | [], acc, _ => by simp [mergeK]
  | p :: ps, acc, h => by
    have hn : ((acc.map kvT).any fun kv => decide (kv.1 = (Sum.inr (sk p.1) : Key))) = false := by
      rw [List.any_eq_false]
      intro kv hkv
      obtain ⟨q, hq, rfl⟩ := List.mem_map.mp hkv
      rw [decide_eq_true_eq]
      intro e
      have e1 : q.1 = p.1 := skInj (Sum.inr.inj e)
      rw [List.map_append, List.map_cons] at h
      have := (List.nodup_append.mp h).2.2 q.1 (List.mem_map_of_mem hq) p.1 List.mem_cons_self
      exact this e1
    have e2 : putK (acc.map kvT) (Sum.inr (sk p.1) : Key) p.2 = (acc ++ [p]).map kvT := by
      unfold putK
      rw [hn, if_neg Bool.false_ne_true]
      simp
    show mergeK (putK (acc.map kvT) (Sum.inr (sk p.1) : Key) p.2) (ps.map kvT) = _
    rw [e2, mergeT ps (acc ++ [p]) (by simpa using h)]
    simp
theorem valT : ∀ (ks : List (List Nat)) (vs : List V) (z : List Nat), ks.length = vs.length → valV ((ks.zip vs).map kvT) (Sum.inr (sk z) : Key) = dlookV (ks.map T.str) vs z
  | [], [], _, _ => rfl
  | [], _ :: _, _, h => by simp at h
  | _ :: _, [], _, h => by simp at h
  | k :: ks, v :: vs, z, h => by
    show valV (kvT (k, v) :: (ks.zip vs).map kvT) _ = (if k = z then some v else dlookV (ks.map T.str) vs z)
    by_cases e : k = z
    · subst e
      rw [if_pos rfl, valV_pos rfl]
    · rw [if_neg e, valV_neg (fun q => e (skInj (Sum.inr.inj q)))]
      exact valT ks vs z (by simpa using h)
theorem tPairs_const : ∀ {trs : List (TE × TE)} {ps : List (V × V)} {σ : L2.St} {H : Hp} {Q : List (V × V) → Hp → Prop}, trs = ps.map (fun p => (tC p.1, tC p.2)) → Q ps H → tPairs trs σ H Q
  | [], [], _, _, _, _, q => q
  | [], _ :: _, _, _, _, e, _ => by simp at e
  | _ :: _, [], _, _, _, e, _ => by simp at e
  | t :: trs, p :: ps, σ, H, Q, e, q => by
    rw [List.map_cons] at e
    injection e with e1 e2
    subst e1
    show tPairs trs σ H fun ps' H3 => Q ((p.1, p.2) :: ps') H3
    exact tPairs_const (ps := ps) e2 q
theorem s_dict {keys : List (Option Expr)} {values : List Expr} {ks : List (List Nat)} {ts : List T} {vs : List V} (h : PPs X pos keys values ((ks.zip vs).map fun p => (tC (.str (sk p.1)), tC p.2))) (hall : keys.all (·.isSome) = true) (hl : keys.length = values.length) (h0 : keys ≠ []) (h15 : keys.length ≤ 15)
    (hk : ks.length = vs.length) (hk15 : ks.length ≤ 15) (hnd : ks.Nodup) (hr : ∀ G, RepAll d G ts vs) (hlen : ks.length = ts.length) : PE X (.Dict keys values pos) (tE d W fun _ S => .ok (.dic ((ks.map T.str).zip ts)) S) := by
  refine PE_imp (pe_disp h hall hl h0 h15) fun σ H Q ⟨G, r, S, RS, RE, q⟩ p hp => ?_
  refine tPairs_const (ps := (ks.zip vs).map fun p => (V.str (sk p.1), p.2)) (by simp) ⟨upd_same, (ks.zip vs).map kvT, ?_, ?_, ?_⟩
  · rw [List.map_map]; rfl
  · rw [List.length_map, List.length_zip]; omega
  · have em : mergeK [] ((ks.zip vs).map kvT) = (ks.zip vs).map kvT := by
      have hz : ((ks.zip vs).map (·.1)) = ks := List.map_fst_zip (by omega)
      have := mergeT (ks.zip vs) [] (by rw [List.nil_append, hz]; exact hnd)
      simpa using this
    rw [em]
    have eu : upd (upd H p (.dK [])) p (.dK ((ks.zip vs).map kvT)) = upd H p (.dK ((ks.zip vs).map kvT)) := by
      funext b
      by_cases hb : b = p
      · rw [hb, upd_same, upd_same]
      · rw [upd_ne hb, upd_ne hb, upd_ne hb]
    rw [eu]
    have st : Step G (G.add p (.dK ((ks.zip vs).map kvT))) H (upd H p (.dK ((ks.zip vs).map kvT))) := Step.add RS hp
    refine q _ (.ref p) _ st (RS.add hp) ⟨p, vs, rfl, .inl ⟨_, upd_same, fun z => ?_⟩, ?_⟩
    · have e1 : ((ks.map T.str).zip ts).map (·.1) = ks.map T.str := List.map_fst_zip (by rw [List.length_map]; omega)
      rw [e1]
      exact valT ks vs z hk
    · have key : ∀ (ks : List T) (ts : List T) (vs : List V), ks.length = ts.length → RepAll d (G.add p (.dK ((ks.zip vs).map fun p => kvT ([], p.2)))) ts vs → True := fun _ _ _ _ _ => trivial
      have go : ∀ (G' : Gh) (ks : List (List Nat)) (ts : List T) (vs : List V), ks.length = ts.length → RepAll d G' ts vs → RepKs d G' ((ks.map T.str).zip ts) vs := by
        intro G' ks
        induction ks with
        | nil =>
          intro ts vs hl r
          cases ts with
          | cons _ _ => simp at hl
          | nil => cases vs with
            | nil => trivial
            | cons _ _ => exact r.elim
        | cons k ks ih =>
          intro ts vs hl r
          cases ts with
          | nil => simp at hl
          | cons t ts => cases vs with
            | nil => exact r.elim
            | cons v vs => exact ⟨r.1, ih ts vs (by simpa using hl) r.2⟩
      exact go _ ks ts vs hlen (hr _)
end
end Hf
end

section
set_option Elab.async false
set_option linter.all false
set_option maxRecDepth 100000
set_option maxHeartbeats 4000000
/-! HfS16: built-ins by name, join; what the text must look like. -/
namespace Hf
open PySem PySem.Spec PyProof.Rows L2
/-! ### the text's shape -/
def noStar : Expr → Bool
  | .Starred _ _ => false
  | _ => true
theorem star_cons {e : Expr} (h : noStar e = true) (es : List Expr) (env : PySem.Env) : starEach (e :: es) env = (false, eval e env) :: starEach es env := by
  cases e <;> first | rfl | (simp [noStar] at h)
theorem star_none : ∀ (es : List Expr) (h : es.all noStar = true) (pos : Pos) (env : PySem.Env), (backTo pos (starEach es env)).any (·.1) = false
  | [], _, _, _ => rfl
  | e :: es, h, pos, env => by
    simp only [List.all_cons, Bool.and_eq_true] at h
    rw [star_cons h.1]
    show (false || (backTo pos (starEach es env)).any (·.1)) = false
    rw [star_none es h.2]; rfl
theorem few_of {e : Expr} (h : noStar e = true) (env : PySem.Env) (cpos : Pos) : Few e env cpos := by
  unfold Few
  rw [star_cons h]; rfl
def noSlice : Expr → Bool
  | .Slice _ _ _ _ => false
  | _ => true
theorem plain_ix {b : Expr} (h : noSlice b = true) : PlainIx b := fun o i => by cases b <;> first | rfl | (simp [noSlice] at h)
theorem plain_set {o k : Expr} {p : Pos} (h : noSlice k = true) : PlainSet o k p := fun env v => by cases k <;> first | rfl | (simp [noSlice] at h)
def noSet : Expr → Bool
  | .Set _ _ _ => false
  | _ => true
theorem no_marks {b : Expr} (h : noSet b = true) (op : CmpOp) : behindInMarks op b = false := by cases b <;> first | rfl | (simp [noSet] at h)
theorem no_last {b e : Expr} (h : noSet e = true) (o p : CmpOp) : lastMarks [o, p] [b, e] = false := no_marks h p
theorem no_fold {e : Expr} (h : noSet e = true) (env : PySem.Env) (x : Value) : foldedSetIterable e env x = pure x := by cases e <;> first | rfl | (simp [noSet] at h)
def noCall : Expr → Bool
  | .Call _ _ _ _ => false
  | _ => true
theorem no_base {o : Expr} (h : noCall o = true) (a : PySem.Str) (env : PySem.Env) (w : Sem Value) : attributeBase o a env w = w := by cases o <;> first | rfl | (simp [noCall] at h)
/-- a test that is a value -/
def isVal : Expr → Bool
  | .UnaryOp .Not _ _ => false
  | .BoolOp _ _ _ => false
  | .IfExp _ _ _ _ => false
  | .Compare _ _ _ _ => false
  | _ => true
theorem val_test {a : Expr} (h : Hf.isVal a = true) (env : PySem.Env) (whole : Sem Value) : isTrue a env whole = (do let v ← whole; standAt a.pos; holding [v] (truthy v)) := by
  cases a <;> first | rfl | (simp [Hf.isVal] at h; done) | (rename_i op x p; cases op <;> first | rfl | (simp [Hf.isVal] at h))
def noComp : Expr → Bool
  | .ListComp _ _ _ _ => false
  | .SetComp _ _ _ _ => false
  | .DictComp _ _ _ _ _ => false
  | _ => true
theorem no_swap {e : Expr} (h : noComp e = true) (t : Option Expr) (l : Nat) (env : PySem.Env) : swapsWith e t l env = pure false := by cases e <;> first | rfl | (simp [noComp] at h)
def noTup : Expr → Bool
  | .Tuple _ _ _ => false
  | _ => true
theorem no_pair {tg e : Expr} (h : noTup e = true) (env : PySem.Env) : swappedStores [tg] e env = pure none := by cases e <;> first | (cases tg <;> rfl) | (simp [noTup] at h)
def isName : Expr → Bool
  | .Name _ _ => true
  | _ => false
theorem name_pair {tg e : Expr} (h : isName tg = true) (env : PySem.Env) : swappedStores [tg] e env = pure none := by cases tg <;> first | rfl | (simp [isName] at h)
/-! ### built-ins -/
def Bi.nm : Bi → String
  | .len => "len" | .abs => "abs" | .int => "int" | .all => "all" | .any => "any" | .sum => "sum" | .max => "max" | .max2 => "max" | .min2 => "min" | .repr => "repr"
def biM (b : Bi) (k : Env → Store → Res (List T)) : Env → Store → Res T := fun r S => (k r S).bind fun xs S => Res.of (b.ev (xs.map (look S))) S
mutual
theorem py_nodict : ∀ t : T, t.py.hasDict = false
  | .non => rfl
  | .bl _ => rfl
  | .int _ => rfl
  | .str _ => rfl
  | .tup xs => pys_nodict xs
  | .lst xs => pys_nodict xs
  | .dic _ => rfl
  | .ref _ => rfl
  | .fn _ => rfl
  | .ins _ _ => rfl
theorem pys_nodict : ∀ xs : List T, PyData.hasDictAll (T.pys xs) = false
  | [] => rfl
  | x :: xs => by
    simp only [T.pys, PyData.hasDictAll, py_nodict x, pys_nodict xs]; rfl
end
section
variable {X : Cx} {d : D} {W : WX} {a b e : Expr} {es : List Expr} {pos p2 p apos : Pos} {ma mb : Env → Store → Res T} {k : Env → Store → Res (List T)}
def rRepr (K : PySem.W.Frag) : List V → Hp → VK → Prop := fun vs H Q => ∃ a t, vs = [.ref a] ∧ Dp K H (.ref a) t ∧ t.showable = true ∧ t.hasDict = false ∧ t.depth ≤ 60 ∧ t.shown.length ≤ sizeLine ∧ Q (.str t.shown) H
theorem call_reprT (hg : X.A.guards = some []) (hu : X.A.units + 64 < cLine) : CallR X (.builtin "repr") (rRepr X.K) := by
  intro pins s σ H vs us Q I r h
  obtain ⟨a, t, rfl, dp, h1, h2, h3, h4, q⟩ := h
  cases r with
  | cons ru rn =>
    cases rn
    cases ru
    obtain ⟨as, rd⟩ := Dp.reads I t (.ref a) (.ref a) dp rfl
    exact PySem.repr_of_reads' rd h1 (PyData.noDict_hsm h2) hg (by omega) (fun _ _ e => e) (fun h' u tk k => ⟨.str t.shown, H, I.kept (h' := h') (t' := tk) k, ⟨u, rfl⟩, q⟩) h4
theorem bi_repr (hK : d.K = X.K) : BiOk X d .repr (rRepr X.K) := by
  intro G S H xs vs t Q R rv e k
  obtain ⟨x, rfl⟩ : ∃ x, xs = [x] := by
    match xs, e with
    | [x], _ => exact ⟨x, rfl⟩
    | [], e => simp [Bi.ev] at e
    | _ :: _ :: _, e => simp [Bi.ev] at e
  have e : (if x.showable = true then some (T.str x.show) else none) = some t := e
  split at e <;> try contradiction
  rename_i h
  cases e
  unfold T.showable at h
  simp only [Bool.and_eq_true, decide_eq_true_eq] at h
  obtain ⟨⟨⟨⟨⟨h1, h2⟩, h3⟩, h4⟩, h5⟩, h6⟩ := h
  obtain ⟨v, rfl, r1⟩ := rd1 rfl rv
  have dp := rd_dp R h2 r1
  rw [hK] at dp
  have hv : ∃ a, v = .ref a := by
    cases x <;> simp only [T.seq] at h1 <;> try contradiction
    · obtain ⟨a, _, e, _⟩ := r1
      exact ⟨a, e⟩
    · obtain ⟨a, _, e, _⟩ := r1
      exact ⟨a, e⟩
  obtain ⟨a, rfl⟩ := hv
  have el : x.show.length = x.py.shown.length := by unfold T.show; simp [PySem.Str.length]
  have es : sk x.show = x.py.shown := by unfold T.show; simp [sk]
  refine ⟨a, x.py, rfl, dp, h3, py_nodict x, by rw [py_depth x h2]; exact h4, by rw [← el, ← lim_eq]; exact h5, k G _ H (Step.refl _ _) R ⟨by rw [es], by rw [← lim_eq]; exact h5, h6⟩⟩
theorem s_bi (b : Bi) (hgd : X.A.guards = some []) (hu : X.A.units + 64 < cLine) (hK : d.K = X.K) (hc : X.calm = true) (hg : Gl X (PySem.Str.ofString b.nm)) (hm : X.mg (PySem.Str.ofString b.nm) = none) (ha : PA X (e :: es) (tWs d W k))
    (he : starEach (e :: es) X.env = (false, eval e X.env) :: starEach es X.env) (hpl : (backTo pos (starEach es X.env)).any (·.1) = false) : PE X (.Call (.Name (PySem.Str.ofString b.nm) p) (e :: es) [] pos) (tE d W (biM b k)) := by
  cases b
  · exact s_biB call_len Bi.len.ev (bi_len (X := X) hK) hg hm (by decide +kernel) (by decide) (by decide) ha he hpl
  · exact s_biB call_abs Bi.abs.ev (bi_abs (X := X)) hg hm (by decide +kernel) (by decide) (by decide) ha he hpl
  · exact s_biT call_int1 Bi.int.ev (bi_int (X := X)) hg hm (by decide +kernel) (by decide) (by decide) ha he hpl
  · exact s_biB (cr_all hc) Bi.all.ev (bi_all (X := X)) hg hm (by decide +kernel) (by decide) (by decide) ha he hpl
  · exact s_biB (cr_any hc) Bi.any.ev (bi_any (X := X)) hg hm (by decide +kernel) (by decide) (by decide) ha he hpl
  · exact s_biB (cr_sum hc) Bi.sum.ev (bi_sum (X := X)) hg hm (by decide +kernel) (by decide) (by decide) ha he hpl
  · exact s_biB (cr_max hc) Bi.max.ev (bi_max (X := X)) hg hm (by decide +kernel) (by decide) (by decide) ha he hpl
  · exact s_biB (call_max2 hc) Bi.max2.ev (bi_max2 (X := X)) hg hm (by decide +kernel) (by decide) (by decide) ha he hpl
  · exact s_biB (call_min2 hc) Bi.min2.ev (bi_min2 (X := X)) hg hm (by decide +kernel) (by decide) (by decide) ha he hpl
  · exact s_biB (call_reprT hgd hu) Bi.repr.ev (bi_repr (X := X) hK) hg hm (by decide +kernel) (by decide) (by decide) ha he hpl
/-! ### ''.join -/
def joinM (ma : Env → Store → Res T) : Env → Store → Res T := fun r S => (ma r S).bind fun x S => match look S x with
    | .lst xs => (match joined xs with
      | some z => if z.length ≤ sizeLim then .ok (.str z) S else .bad
      | none => .bad)
    | _ => .bad
theorem joined_rep {G : Gh} : ∀ {xs : List T} {vs : List V} {z : List Nat}, RepAll d G xs vs → joined xs = some z → ∃ ys : List (List Nat), vs = (ys.map sk).map V.str ∧ z = ys.flatten ∧ (z.all fun c => decide (c < 0x110000)) = true
  | [], [], z, _, e => by cases e; exact ⟨[], rfl, rfl, rfl⟩
  | [], _ :: _, _, r, _ => r.elim
  | _ :: _, [], _, r, _ => r.elim
  | x :: xs, v :: vs, z, r, e => by
    cases x <;> simp only [joined] at e <;> try contradiction
    rename_i s
    obtain ⟨w, e1, rfl⟩ := Option.map_eq_some_iff.mp e
    obtain ⟨⟨rfl, _, h3⟩, r2⟩ := r
    obtain ⟨ys, rfl, rfl, h4⟩ := joined_rep r2 e1
    exact ⟨s :: ys, rfl, rfl, by rw [List.all_append, h3, h4]; rfl⟩
theorem joinL_nil : ∀ ys : List (List Nat), TL.joinL [] ys = ys.flatten
  | [] => rfl
  | [p] => by simp [TL.joinL]
  | p :: q :: r => by
    have := joinL_nil (q :: r)
    simp only [TL.joinL, List.nil_append]
    rw [this]; simp
theorem sum_len : ∀ ys : List (List Nat), ((ys.map sk).map (·.length)).sum = ys.flatten.length
  | [] => rfl
  | y :: ys => by
    have e : (sk y).length = y.length := by simp [PySem.Str.length]
    simp only [List.map_cons, List.sum_cons, List.flatten_cons, List.length_append, e]
    rw [sum_len ys]
theorem s_join {j : Nat} {cp : Pos} {q : PySem.Str} (hq : q = sk []) (ha : PE X a (tW d W ma)) (hst : starEach [a] X.env = [(false, eval a X.env)]) (hline : (apos.endLine == pos.line) = true) :
    PE X (.Call (.Attribute (.Constant (.str q) j cp) "join" apos) [a] [] pos) (tE d W (joinM ma)) := by
  subst hq
  refine PE_imp (pe_m1 F.slot_str_join F.type_str_join mt_join pe_str ha hst rfl hline) fun σ H Q ⟨G, r, S, RS, RE, q⟩ => ?_
  refine ⟨⟨_, rfl⟩, G, r, S, RS, RE, q.bind fun x S1 G1 v H1 s1 R1 rv q1 => ?_⟩
  have rd := rv.rd R1 (RE.step s1)
  revert q1 rd
  cases look S1 x <;> intro q1 rd <;> try exact q1.elim
  rename_i xs
  obtain ⟨l, vs, rfl, hl, z, ra⟩ := rd
  have q1 : Post d W σ (RV d r σ H) G1 H1 Q (match joined xs with
      | some z => if z.length ≤ sizeLim then .ok (.str z) S1 else .bad
      | none => .bad) := q1
  cases ej : joined xs with
  | none => rw [ej] at q1; exact q1.elim
  | some zz =>
    rw [ej] at q1
    have q1 : Post d W σ (RV d r σ H) G1 H1 Q (if zz.length ≤ sizeLim then .ok (.str zz) S1 else .bad) := q1
    split at q1 <;> try exact q1.elim
    rename_i hz
    obtain ⟨ys, rfl, rfl, h4⟩ := joined_rep ra ej
    have e1 : Txt.join (sk []) (ys.map sk) = sk ys.flatten := by
      have := SX.join_S [] ys
      rw [joinL_nil] at this
      exact this
    refine ⟨sk [], l, ys.map sk, rfl, rfl, .inl (.inl hl), ?_, ?_⟩
    · rw [sum_len]
      have : (sk []).length = 0 := rfl
      rw [this, Nat.mul_zero, Nat.add_zero]
      exact hz
    · rw [e1]
      exact q1 G1 _ H1 (Step.refl _ _) R1 ⟨rfl, by rw [← lim_eq]; exact hz, h4⟩
end
end Hf
end

section
set_option Elab.async false
set_option linter.all false
set_option maxRecDepth 100000
/-! HfS8i: index (unfinished). -/
namespace Hf
open PySem PySem.Spec PyProof.Rows L2
section
variable {X : Cx} {d : D} {W : WX} {a b e : Expr} {es : List Expr} {pos p2 p : Pos} {ma mb mc : Env → Store → Res T} {k : Env → Store → Res (List T)}
/-! ### index -/
theorem mt_indexR (hu : X.A.units + 65 < cLine) : MtR X "list.index" (rIndexD X.K) := mt_indexD hu
theorem idxOf_spec {y : T} : ∀ {xs : List T} {n j : Nat}, idxOf y xs n = some j → ∃ i z, j = n + i ∧ xs[i]? = some z ∧ T.eqv z y = true ∧ ∀ (m : Nat) z', m < i → xs[m]? = some z' → T.eqv z' y = false
  | [], _, _, e => by cases e
  | x :: xs, n, j, e => by
    unfold idxOf at e
    split at e
    · rename_i h
      cases e
      exact ⟨0, x, rfl, rfl, h, fun m z' hm => absurd hm (Nat.not_lt_zero _)⟩
    · rename_i h
      obtain ⟨i, z, rfl, h1, h2, h3⟩ := idxOf_spec e
      refine ⟨i + 1, z, by omega, by simpa using h1, h2, fun m z' hm hz => ?_⟩
      cases m with
      | zero =>
        simp at hz; subst hz
        simpa using h
      | succ m => exact h3 m z' (by omega) (by simpa using hz)
def Few' (e : Expr) (env : PySem.Env) (cpos : Pos) : Prop := ((backTo cpos (starEach [e] env)).all (fun x => !x.1) && (backToKw cpos (keywordEach [] env)).all (fun x => x.1.isSome)
      && decide ([e].length + ([] : List Keyword).length + (if ([] : List Keyword).isEmpty then 0 else 1) < 30)) = true
def indexM (ma mb : Env → Store → Res T) : Env → Store → Res T := fun r S => (ma r S).bind fun x S => match look S x with
  | .lst _ => (mb r S).bind fun y S => Res.of ((look S x).index y) S
  | _ => .bad
theorem data_get : ∀ {xs : List T} {i : Nat} {z : T}, T.dataAll xs = true → xs[i]? = some z → z.data = true
  | [], _, _, _, e => by simp at e
  | x :: xs, 0, z, h, e => by
    simp at e; subst e
    have h' : x.data = true ∧ T.dataAll xs = true := by simpa [T.dataAll] using h
    exact h'.1
  | x :: xs, i + 1, z, h, e => by
    have h' : x.data = true ∧ T.dataAll xs = true := by simpa [T.dataAll] using h
    exact data_get h'.2 (by simpa using e)
theorem pys_get (xs : List T) (i : Nat) : (T.pys xs)[i]? = (xs[i]?).map T.py := by rw [pys_map, List.getElem?_map]
theorem index_ok (hK : d.K = X.K) {G : Gh} {S : Store} {H : Hp} {x y t : T} {v w : V} {Q : VK} (R : RepS d G S H) (rx : RdV d G H x v) (ry : RepV d G y w) (e : x.index y = some t) (k : ∀ b, RepV d G t b → Q b H) : rIndexD X.K v [w] H Q := by
  cases x <;> simp only [T.index] at e <;> try contradiction
  split at e <;> try contradiction
  rename_i xs h
  simp only [Bool.and_eq_true, decide_eq_true_eq] at h
  obtain ⟨⟨⟨d1, d2⟩, h3⟩, h4⟩ := h
  obtain ⟨n, e1, rfl⟩ := Option.map_eq_some_iff.mp e
  obtain ⟨i, z, rfl, g1, g2, g3⟩ := idxOf_spec e1
  have dl : (T.lst xs).data = true := by simpa [T.data] using d2
  have hl : Dp d.K H v (T.lst xs).py := rd_dp R dl rx
  have ll := rd_lay rx dl
  have hy : Dp d.K H w y.py := rd_dp R d1 (RdV.of R y ry)
  have ly := rep_lay y ry d1
  have dz := data_get d2 g1
  have p1 : (T.lst xs).py.depth ≤ 64 := by
    rw [py_depth _ dl]
    simp only [T.depth]
    unfold eqLine at h3; omega
  have p2 : y.py.depth ≤ 64 := by
    rw [py_depth _ d1]
    unfold eqLine at h4; omega
  obtain ⟨p, vs, rfl, _⟩ := rx
  refine ⟨p, w, y.py, T.pys xs, i, z.py, rfl, rfl, hK ▸ hl, hK ▸ hy, ?_, ?_, by rw [pys_get, g1]; rfl, by rw [py_eqv z y dz d1]; exact g2, fun m z' hm hz => ?_, ?_⟩
  · unfold SeqAt.shaped
    rw [show (PyData.list (T.pys xs)) = (T.lst xs).py by simp only [T.py], ll, decide_eq_true p1]; rfl
  · unfold SeqAt.shaped
    rw [ly, decide_eq_true p2]; rfl
  · rw [pys_get, Option.map_eq_some_iff] at hz
    obtain ⟨x', hx', rfl⟩ := hz
    rw [py_eqv x' y (data_get d2 hx') d1]
    exact g3 m x' hm hx'
  · have := k (.int (i : Nat)) (by simp [RepV])
    exact this
/-- a.index(b) -/
theorem s_index (hK : d.K = X.K) (hu : X.A.units + 65 < cLine) {o : Expr} {apos cpos : Pos} (ho : PE X o (tW d W ma)) (he : PE X e (tE d W mb)) (hbase : attributeBase o "index" X.env (eval o X.env) = eval o X.env) (hst : starEach [e] X.env = (false, eval e X.env) :: starEach [] X.env) (hfew : Few' e X.env cpos) (hline : (apos.endLine == cpos.line) = true) :
    PE X (.Call (.Attribute o "index" apos) [e] [] cpos) (tE d W (indexM ma mb)) := by
  refine PE_imp (pe_bm F.plainAttrs_list F.slot_list_index F.type_list_index (mt_indexR hu) ho (PA_imp (pa_cons he pa_nil hst) fun σ H Q h => h) hbase hfew hline hst rfl) fun σ H Q ⟨G, r, S, R, E, q⟩ => ?_
  refine ⟨G, r, S, R, E, q.bind fun x S1 G1 v H1 s1 R1 rv q1 => ?_⟩
  have rdv := RepW.rd R1 (E.step s1) rv
  cases hl : look S1 x <;> simp only [hl] at q1 <;> try exact q1.elim
  rename_i zs
  rw [hl] at rdv
  obtain ⟨p, vs, rfl, qd, zd, rd⟩ := rdv
  refine ⟨.inl ⟨rfl, vs, .inl qd⟩, G1, r, S1, R1, E.step s1, q1.bind fun y S2 G2 w H2 s2 R2 rw q2 => ?_⟩
  obtain ⟨t, e, k⟩ := q2.ofO
  exact index_ok hK R2 ((RepW.le s2.le rv).rd R2 ((E.step s1).step s2)) rw e fun b rb => k G2 b H2 (Step.refl _ _) R2 rb
end
end Hf
end

section
set_option Elab.async false
set_option linter.all false
set_option maxRecDepth 100000
set_option maxHeartbeats 2000000
/-! HfC1: classes: fields stored, methods called, instances made. -/
namespace Hf
open PySem PySem.Spec PyProof.Rows L2
theorem noInst_no : ∀ {r : Env} {i c : Nat} {fs : List (Nat × T)}, noInst r = true → r[i]? = some (.inst c fs) → False
  | [], _, _, _, _, e => by simp at e
  | s :: r, 0, c, fs, h, e => by
    simp at e; subst e
    simp [noInst] at h
  | s :: r, i + 1, c, fs, h, e => by
    have h2 : noInst r = true := by cases s <;> simp [noInst] at h <;> exact h
    exact noInst_no h2 (by simpa using e)
section
variable {d : D}
theorem RepFs.put {G : Gh} (inj : ∀ a b, a ∈ d.as → b ∈ d.as → d.an a = d.an b → a = b) {a : Nat} (ha : a ∈ d.as) {t : T} {v : V} (rv : RepV d G t v) : ∀ {fs : List (Nat × T)} {ws : List (PySem.Str × V)}, RepFs d G fs ws → RepFs d G (putFs a t fs) (putF (d.an a) v ws)
  | [], [], _ => ⟨⟨rfl, ha⟩, rv, trivial⟩
  | [], _ :: _, h => h.elim
  | _ :: _, [], h => h.elim
  | (b, u) :: fs, (g, w) :: ws, h => by
    obtain ⟨⟨rfl, hb⟩, h2, h3⟩ := h
    by_cases q : b = a
    · subst q
      simp only [putFs, putF, if_true]
      exact ⟨⟨rfl, hb⟩, rv, h3⟩
    · have q2 : ¬ d.an b = d.an a := fun e => q (inj b a hb ha e)
      simp only [putFs, putF, if_neg q, if_neg q2]
      exact ⟨⟨rfl, hb⟩, h2, RepFs.put inj ha rv h3⟩
theorem RepFs.len {G : Gh} : ∀ {fs : List (Nat × T)} {ws : List (PySem.Str × V)}, RepFs d G fs ws → ws.length = fs.length
  | [], [], _ => rfl
  | [], _ :: _, h => h.elim
  | _ :: _, [], h => h.elim
  | _ :: _, _ :: _, h => by simp [RepFs.len h.2.2]
theorem RepFs.no {G : Gh} {m : PySem.Str} (hm : ∀ a ∈ d.as, ¬ d.an a = m) : ∀ {fs : List (Nat × T)} {ws : List (PySem.Str × V)}, RepFs d G fs ws → ws.lookup m = none
  | [], [], _ => rfl
  | [], _ :: _, h => h.elim
  | _ :: _, [], h => h.elim
  | (b, u) :: fs, (g, w) :: ws, h => by
    obtain ⟨⟨rfl, hb⟩, h2, h3⟩ := h
    have q : (m == d.an b) = false := by
      cases e : (m == d.an b) with
      | false => rfl
      | true => exact absurd (beq_iff_eq.mp e).symm (hm b hb)
    simp only [List.lookup, q]
    exact RepFs.no hm h3
theorem RepE.pokeI {G : Gh} {r : Env} {σ : L2.St} {H : Hp} (E : RepE d G r σ H) {i c : Nat} {fs fs' : List (Nat × T)} {a C dx : Addr} {ws ws' : List (PySem.Str × V)} (hr : r[i]? = some (.inst c fs)) (hs : σ[i]? = some (some (V.ref a))) (hH : H a = some (.ins C dx ws))
    (no : noInst (r.set i .no) = true) (rf : RepFs d G fs' ws') : RepE d G (r.set i (.inst c fs')) σ (upd H a (.ins C dx ws')) := by
  obtain ⟨a', C', dx', ws0, k1, k2, k3, k4, k5, k6, k7, k8, k9⟩ := E.inst i c fs hr
  rw [hs] at k1; cases k1
  rw [hH] at k3; cases k3
  have nov : ∀ {j : Nat} {sl : Slot}, (∀ ys, sl ≠ .inst c ys) → (r.set i (.inst c fs'))[j]? = some sl → r[j]? = some sl := fun {j sl} hn e => by
    rcases get_set e with ⟨_, e1, _⟩ | q
    · exact absurd e1.symm (hn fs')
    · exact q.2
  refine ⟨by rw [List.length_set]; exact E.len, fun j t e => E.slot j t (nov (by intro _ z; cases z) e), fun j zs e => ?_, fun j k us zs b e1 e2 e3 e4 => E.apart j k us zs b (nov (by intro _ z; cases z) e1) (nov (by intro _ z; cases z) e2) e3 e4, fun j c2 gs e => ?_, fun j c e => E.exc j c (nov (by intro _ z; cases z) e)⟩
  · obtain ⟨b, us, h1, h2, h3⟩ := E.own j zs (nov (by intro _ z; cases z) e)
    exact ⟨b, us, h1, by rw [upd_ne (fun q => by rw [q, hH] at h2; cases h2)]; exact h2, h3⟩
  · rcases get_set e with ⟨rfl, e1, hl⟩ | ⟨hn, e⟩
    · cases e1
      refine ⟨a, C, dx, ws', hs, k2, upd_same, ?_, rf, k6, k7, k8, k9⟩
      rw [upd_ne (fun q => by rw [q, hH] at k4; cases k4)]; exact k4
    · exact (noInst_no no (by rw [List.getElem?_set_ne (Ne.symm hn)]; exact e)).elim
theorem RepO.pokeI {H0 : Hp} {r : Env} {σ : L2.St} (O : RepO H0 r σ) {i c : Nat} {fs fs' : List (Nat × T)} (hr : r[i]? = some (.inst c fs)) : RepO H0 (r.set i (.inst c fs')) σ := by
  intro j b e q
  rcases q with ⟨zs, q⟩ | ⟨c2, gs, q⟩
  · rcases get_set q with ⟨rfl, e1, _⟩ | q
    · cases e1
    · exact O j b e (.inl ⟨zs, q.2⟩)
  · rcases get_set q with ⟨rfl, e1, _⟩ | q
    · exact O j b e (.inr ⟨c, fs, hr⟩)
    · exact O j b e (.inr ⟨c2, gs, q.2⟩)
end
section
variable {X : Cx} {d : D} {W : WX} {e : Expr} {pos p pos' : Pos} {m : Env → Store → Res T} {x : PySem.Str}
/-! ### a field of the new instance -/
def attrSM (i a : Nat) (m : Env → Store → Res T) : Env → Store → SRes := fun r S => (m r S).toS r fun t S => match r[i]? with
  | some (.inst c fs) => if fs.length < 500 ∧ noInst (r.set i .no) = true then .nx (r.set i (.inst c (putFs a t fs))) S else .bad
  | _ => .bad
theorem s_attrSM {i a : Nat} (hN : X.N[i]? = some x) (hv : Vis X.env.scope x) (hd : (x == ("__debug__" : PySem.Str)) = false) (hcd : (x == ("__classdict__" : PySem.Str)) = false) (inj : ∀ a b, a ∈ d.as → b ∈ d.as → d.an a = d.an b → a = b) (ha : a ∈ d.as)
    (hC : ∀ c C, d.ca c = some C → Cls X.K C ∧ NoAttr X.K C (d.an a)) (he : PE X e (tE d W m)) (hs : swapsWith e (some (.Attribute (.Name x p) (d.an a) pos')) pos.line X.env = pure false) :
    PS X (.Assign [.Attribute (.Name x p) (d.an a) pos'] e pos) (tS d W (attrSM i a m)) := by
  refine PS_imp (ps_fld (pe_var hN hv hd hcd) he hs) fun D σ H ⟨Gb, G0, H0, G, r, S, s0, R, E, O, q⟩ => ⟨G, r, S, R, E, toS_post q s0 E O fun t S1 G1 v H1 s1 R1 rv q1 => ?_⟩
  cases hr : r[i]? with
  | none => rw [hr] at q1; exact q1.elim
  | some sl =>
    rw [hr] at q1
    cases sl with
    | inst c fs =>
      simp only at q1
      split at q1 <;> try exact q1.elim
      rename_i hl
      have E1 := E.step s1
      obtain ⟨b, C, dx, ws, h1, h2, h3, h4, h5, h6, h7, h8, h9⟩ := E1.inst i c fs hr
      have hw := RepFs.len h5
      refine ⟨.ref b, h1, b, C, dx, ws, rfl, h3, (hC c C h2.1).1, (hC c C h2.1).2, by omega, q1 G1 σ _ ((s0.trans s1).poke (O i b h1 (.inr ⟨c, fs, hr⟩))) (R1.poke h6 h8) (E1.pokeI hr h1 h3 hl.2 (RepFs.put inj ha rv h5)) (O.pokeI hr)⟩
    | _ => exact q1.elim
/-! ### methods -/
variable {k : Nat} {E : L2.St → XK} {o : Expr} {es : List Expr} {ta : TE} {t : TA} {apos : Pos} {mm : PySem.Str}
def tMethG (X : Cx) (k : Nat) (m : PySem.Str) (E : L2.St → XK) (ta : TE) (t : TA) : TE := fun σ H Q => ta σ H fun x H1 => ∃ a C dx fs f fd ps sp, x = .ref a ∧ H1 a = some (.ins C dx fs) ∧ Cls X.K C ∧ Meth X.K C m f ∧ fs.lookup m = none ∧
  FnG X.prog X.w X.K X.mg X.base k f fd ps sp ∧ Binds X.K fd ps [] ∧ t σ H1 fun vs H2 => sp (x :: vs) H2 Q (E σ)
theorem pe_methG {pl : Sem Bool} (he : PE X o ta) (hr : RoomG k X.A) (hx : ∀ σ, PassesAt (L2.CX X.prog X.w) X σ (E σ)) (ha : PA X (e :: es) t)
    (hst : starEach (e :: es) X.env = (false, eval e X.env) :: starEach es X.env) (hpl : (backTo pos (starEach es X.env)).any (·.1) = false)
    (ht : eval (.Call (.Attribute o mm apos) (e :: es) [] pos) X.env = (do
      let ov ← eval o X.env
      standAt apos.atName
      let (f, first) ← holding [ov] (getMethod ov mm pl)
      callWith pos f first (backTo pos (starEach (e :: es) X.env)) (backToKw pos (keywordEach [] X.env)))) :
    PE X (.Call (.Attribute o mm apos) (e :: es) [] pos) (tMethG X k mm E ta t) := by
  refine ⟨fun pins s σ H Q I h => ?_⟩
  refine PySem.W.methodCall_KW (pl := pl) (thn (he.run pins s σ H _ I h) fun u s1 ⟨x, H1, I1, rx, a, C, dx, fs, f, fd, ps, sp, ex, ea, c, hm, l, F, hb, q⟩ => ?_) ht
  subst ex
  obtain rfl : u = Value.ref a := rx
  refine getmeth_ok I1 ea c hm l ?_
  refine PySem.W.callWith_K (first := [.ref a]) (h₀ := X.base) I.ok.mod.kin hm.kp (thn (ha.run pos pins s1 σ H1 _ I1 q) fun us s2 ⟨vs, H2, I2, r, q2⟩ => ⟨I2.kIn, ?_⟩) hst hpl
  exact run_fnG (us := .ref a :: us) (vs := .ref a :: vs) F hr hb (hx σ) I2 (.cons rfl r) q2
def methM (P : Prog) (cf : Nat → List T → Store → Res T) (m : Nat) (ma : Env → Store → Res T) (ms : Env → Store → Res (List T)) : Env → Store → Res T := fun r S => (ma r S).bind fun x S => match x with
  | .ins c _ => (match P.meth c m with
    | some f => (ms r S).bind fun xs S => cf f (x :: xs) S
    | none => .bad)
  | _ => .bad
/-- the methods that there are, by their names -/
def MethsOk (X : Cx) (d : D) (P : Prog) (cf : Nat → List T → Store → Res T) (k m : Nat) (mm : PySem.Str) : Prop := (∀ a ∈ d.as, ¬ d.an a = mm) ∧ ∀ c C f, d.ca c = some C → P.meth c m = some f → ∃ fa fd ps np, Cls X.K C ∧ Meth X.K C mm fa ∧ Binds X.K fd ps [] ∧ FnG X.prog X.w X.K X.mg X.base k fa fd ps (spT d np (cf f)) ∧ ∀ xs S, cf f xs S ≠ .bad → xs.length = np
theorem s_meth {P : Prog} {cf : Nat → List T → Store → Res T} {m : Nat} {ma : Env → Store → Res T} {ms : Env → Store → Res (List T)} {pl : Sem Bool} (M : MethsOk X d P cf k m mm) (he : PE X o (tE d W ma)) (hr : RoomG k X.A) (tk : Takes X W) (ha : PA X (e :: es) (tAs d W ms))
    (hst : starEach (e :: es) X.env = (false, eval e X.env) :: starEach es X.env) (hpl : (backTo pos (starEach es X.env)).any (·.1) = false)
    (ht : eval (.Call (.Attribute o mm apos) (e :: es) [] pos) X.env = (do
      let ov ← eval o X.env
      standAt apos.atName
      let (f, first) ← holding [ov] (getMethod ov mm pl)
      callWith pos f first (backTo pos (starEach (e :: es) X.env)) (backToKw pos (keywordEach [] X.env)))) :
    PE X (.Call (.Attribute o mm apos) (e :: es) [] pos) (tE d W (methM P cf m ma ms)) := by
  refine PE_imp (pe_methG he hr (fun σ => passAt tk σ) ha hst hpl ht) fun σ H Q ⟨G, r, S, RS, RE, q⟩ => ?_
  refine ⟨G, r, S, RS, RE, q.bind fun x S1 G1 v H1 s1 R1 rv h1 => ?_⟩
  cases x with
  | ins c fs =>
    obtain ⟨a, C, dx, ws, rfl, hc, hi, hj, rf⟩ := rv
    simp only at h1
    cases em : P.meth c m with
    | none => rw [em] at h1; exact h1.elim
    | some f =>
      rw [em] at h1
      simp only at h1
      obtain ⟨fa, fd, ps, np, cl, hm, hb, F, hlen⟩ := M.2 c C f hc em
      refine ⟨a, C, dx, ws, fa, fd, ps, _, rfl, R1.imm _ _ hi, cl, hm, RepFs.no M.1 rf, F, hb, G1, r, S1, R1, RE.step s1, ?_⟩
      cases e1 : ms r S1 with
      | bad => rw [e1] at h1; exact h1.elim
      | exn c' S2 => rw [e1] at h1; exact fun x G' H' ex s' R' => h1 x G' H' ex s' R'
      | ok xs S2 =>
        rw [e1] at h1
        have h1 : Post d W σ (RV d r σ H) G1 H1 Q (cf f (.ins c fs :: xs) S2) := h1
        intro G2 vs H2 s2 R2 ra
        have rl : RepV d G2 (.ins c fs) (.ref a) := RepV.le s2.le (.ins c fs) ⟨a, C, dx, ws, rfl, hc, hi, hj, rf⟩
        have nb : cf f (.ins c fs :: xs) S2 ≠ .bad := fun z => by rw [z] at h1; exact h1
        refine ⟨by simp only [List.length_cons]; rw [← ra.length]; have := hlen _ _ nb; simpa using this, G2, .ins c fs :: xs, S2, R2, ⟨rl, ra⟩, ?_⟩
        cases e2 : cf f (.ins c fs :: xs) S2 with
        | bad => exact (nb e2).elim
        | exn c' S3 => rw [e2] at h1; exact fun x G' H' ex s' R' => h1 x G' H' ex (s2.trans s') R'
        | ok t' S3 => rw [e2] at h1; exact fun G' v' H' s' R' rv' => h1 G' v' H' (s2.trans s') R' rv'
  | _ => exact h1.elim
end
end Hf
end

section
set_option Elab.async false
set_option linter.all false
set_option maxRecDepth 100000
set_option maxHeartbeats 2000000
/-! HfC2: instances made, by the class's __init__. -/
namespace Hf
open PySem PySem.Spec PyProof.Rows L2
def D.sfa (d : D) (s : Option (Addr × Addr)) : D := { d with sf := s }
section
variable {d : D} {p : Option (Addr × Addr)} {G : Gh}
mutual
theorem RepV.sfa : ∀ (t : T) {v : V}, RepV d G t v → RepV (d.sfa p) G t v
  | .non, _, r => r
  | .bl _, _, r => r
  | .int _, _, r => r
  | .str _, _, r => r
  | .tup xs, _, ⟨a, vs, e, q, z, r⟩ => ⟨a, vs, e, q, z, RepAll.sfa xs r⟩
  | .lst xs, _, ⟨a, vs, e, q, z, r⟩ => ⟨a, vs, e, q, z, RepAll.sfa xs r⟩
  | .dic kvs, _, ⟨a, vs, e, q, r⟩ => ⟨a, vs, e, q, RepKs.sfa kvs r⟩
  | .ref _, _, r => r
  | .fn _, _, r => r
  | .ins c fs, _, ⟨a, C, dx, ws, e, q, i, j, r⟩ => ⟨a, C, dx, ws, e, q, i, j, RepFs.sfa fs r⟩
theorem RepAll.sfa : ∀ (xs : List T) {vs : List V}, RepAll d G xs vs → RepAll (d.sfa p) G xs vs
  | [], [], r => r
  | _ :: _, [], r => r
  | [], _ :: _, r => r
  | x :: xs, _ :: _, r => ⟨RepV.sfa x r.1, RepAll.sfa xs r.2⟩
theorem RepKs.sfa : ∀ (xs : List (T × T)) {vs : List V}, RepKs d G xs vs → RepKs (d.sfa p) G xs vs
  | [], [], r => r
  | _ :: _, [], r => r
  | [], _ :: _, r => r
  | (_, x) :: xs, _ :: _, r => ⟨RepV.sfa x r.1, RepKs.sfa xs r.2⟩
theorem RepFs.sfa : ∀ (xs : List (Nat × T)) {vs : List (PySem.Str × V)}, RepFs d G xs vs → RepFs (d.sfa p) G xs vs
  | [], [], r => r
  | _ :: _, [], r => r
  | [], _ :: _, r => r
  | (_, x) :: xs, (_, _) :: _, r => ⟨r.1, RepV.sfa x r.2.1, RepFs.sfa xs r.2.2⟩
end
theorem RepS.sfa {S : Store} {H : Hp} (R : RepS d G S H) : RepS (d.sfa p) G S H :=
  ⟨R.imm, R.len, fun n xs e => let ⟨a, vs, h1, h2, z, h3⟩ := R.cell n xs e; ⟨a, vs, h1, h2, z, RepAll.sfa xs h3⟩, R.inj, R.off⟩
theorem RepV.unsf {t : T} {v : V} (h : RepV (d.sfa p) G t v) : RepV d G t v := RepV.sfa (d := d.sfa p) (p := d.sf) t h
theorem RepFs.unsf {xs : List (Nat × T)} {vs : List (PySem.Str × V)} (h : RepFs (d.sfa p) G xs vs) : RepFs d G xs vs := RepFs.sfa (d := d.sfa p) (p := d.sf) xs h
theorem RepAll.unsf {xs : List T} {vs : List V} (h : RepAll (d.sfa p) G xs vs) : RepAll d G xs vs := RepAll.sfa (d := d.sfa p) (p := d.sf) xs h
theorem RepS.unsf {S : Store} {H : Hp} (R : RepS (d.sfa p) G S H) : RepS d G S H := RepS.sfa (d := d.sfa p) (p := d.sf) R
end
theorem spT_sfa {d : D} {p : Option (Addr × Addr)} {np : Nat} {sem : List T → Store → Res T} {vs : List V} {H : Hp} {Q : VK} {E : XK} (h : spT (d.sfa p) np sem vs H Q E) : spT d np sem vs H Q E := by
  obtain ⟨hl, G, xs, S, R, ra, q⟩ := h
  refine ⟨hl, G, xs, S, R.unsf, ra.unsf, ?_⟩
  cases es : sem xs S with
  | bad => rw [es] at q; exact q
  | exn c S' => rw [es] at q; exact fun x G' H' ex s' R' => q x G' H' ex s' R'.sfa
  | ok t S' => rw [es] at q; exact fun G' v H' s' R' rv => q G' v H' s' R'.sfa (RepV.sfa t rv)
theorem FnG.imp {P : Program} {w : World} {K : PySem.W.Frag} {mg : PySem.Str → Option Value} {base : Heap} {k : Nat} {f : Addr} {fd : FuncData} {ps : List PySem.Str} {sp sp' : Sp} (F : FnG P w K mg base k f fd ps sp) (i : ∀ vs H Q E, sp' vs H Q E → sp vs H Q E) : FnG P w K mg base k f fd ps sp' :=
  ⟨fun vs H Q E h => F.len vs H Q E (i _ _ _ _ h), fun A outer s H args us vs Q E hr e0 hb r h => F.run A outer s H args us vs Q E hr e0 hb r (i _ _ _ _ h)⟩
/-! ### the promise of an __init__ -/
def PostI (d : D) (E : XK) (G : Gh) (H0 : Hp) (x : Addr) (Q : VK) : Res T → Prop
  | .ok t S' => ∀ G' H', Step G G' H0 H' → RepS d G' S' H' → RepV d G' t (.ref x) → Q .non H'
  | .exn c S' => ∀ e G' H', d.xa c = some e → Step G G' H0 H' → RepS d G' S' H' → E (.ref e) none H'
  | .bad => False
def spI (d : D) (C : Addr) (np : Nat) (sem : List T → Store → Res T) : Sp := fun vs H Q E => ∃ x dx us H0 G xs S, vs = .ref x :: us ∧ us.length = np ∧ H = upd (upd H0 dx (.own x)) x (.ins C dx []) ∧ H0 x = none ∧ H0 dx = none ∧ dx ≠ x ∧ RepS d G S H0 ∧ RepAll d G xs us ∧ PostI d E G H0 x Q (sem xs S)
theorem spI_sfa {d : D} {p : Option (Addr × Addr)} {C : Addr} {np : Nat} {sem : List T → Store → Res T} {vs : List V} {H : Hp} {Q : VK} {E : XK} (h : spI (d.sfa p) C np sem vs H Q E) : spI d C np sem vs H Q E := by
  obtain ⟨x, dx, us, H0, G, xs, S, h1, h2, h3, h4, h5, h6, R, ra, q⟩ := h
  refine ⟨x, dx, us, H0, G, xs, S, h1, h2, h3, h4, h5, h6, R.unsf, ra.unsf, ?_⟩
  cases es : sem xs S with
  | bad => rw [es] at q; exact q
  | exn c S' => rw [es] at q; exact fun x G' H' ex s' R' => q x G' H' ex s' R'.sfa
  | ok t S' => rw [es] at q; exact fun G' H' s' R' rv => q G' H' s' R'.sfa (RepV.sfa t rv)
section
variable {X : Cx} {d : D} {W : WX} {k np : Nat} {C f : Addr} {fd : FuncData} {ps : List PySem.Str} {sem : List T → Store → Res T} {x : PySem.Str} {p pos : Pos} {e : Expr} {es : List Expr} {ms : Env → Store → Res (List T)} {sp : Sp} {E : L2.St → XK} {t : TA}
theorem run_makeG {pins : List (Addr × Obj)} {σ : L2.St} {H : Hp} {s : Shared} {Q : VK} {us : List Value} {vs : List V} (M : Mk X.K C f) (F : FnG X.prog X.w X.K X.mg X.base k f fd ps sp) (hr : RoomG (k + 1) X.A) (hb : Binds X.K fd ps [])
    (hx : PassesAt (L2.CX X.prog X.w) X σ (E σ)) (I : Inv X pins σ H s) (r : Vals vs us)
    (h : ∀ x dx, H x = none → H dx = none → dx ≠ x → sp (.ref x :: vs) (upd (upd H dx (.own x)) x (.ins C dx [])) (fun v H2 => v = .non ∧ Q (.ref x) H2) (E σ)) :
    wpAny (model X.prog X.w) X.A (PySem.call (.ref C) us) (EP X pins σ Q) X.xe s := by
  have hq := h (s.heap.objs.size + 1) s.heap.objs.size (I.hok.fresh (Nat.le_succ _)) (I.hok.fresh (Nat.le_refl _)) (Nat.ne_of_lt (Nat.lt_succ_self _))
  have I2 := Inv.made (C := C) I
  have r2 : Vals (V.ref (s.heap.objs.size + 1) :: vs) (Value.ref (s.heap.objs.size + 1) :: us) := .cons rfl r
  have hl : (Value.ref (s.heap.objs.size + 1) :: us).length = ps.length := by
    have e := r2.length
    rw [F.len _ _ _ _ hq] at e
    exact e.symm
  have b := hb { s with heap := s.heap } (Value.ref (s.heap.objs.size + 1) :: us)
  refine wpAny_call (make_map (f := f) I.kIn M.makes M.init (beq_iff_eq.mp M.fn) (codeAny_mono (F.run _ X.stack _ _ ⟨Value.ref (s.heap.objs.size + 1) :: us, []⟩ (Value.ref (s.heap.objs.size + 1) :: us) _ _ (E σ) ⟨hr.r.make C us [], hr.g⟩
    (I2.env0.make C us []) (by have := hb _ (Value.ref (s.heap.objs.size + 1) :: us) I2.kIn (by rw [List.append_nil]; exact hl); rw [List.append_nil] at this; exact this) r2 hq) fun r s' hq' => ?_))
  cases r with
  | error e => exact hx pins _ _ e s' I2 hq'
  | ok fl =>
    cases fl with
    | ret u =>
      obtain ⟨v, H', I3, rv, ev, q3⟩ := I2.after hq'
      subst ev
      exact ⟨rv, ⟨V.ref (s.heap.objs.size + 1), H', I3, rfl, q3⟩⟩
    | next => exact False.elim hq'
    | brk => exact False.elim hq'
    | cont => exact False.elim hq'
def tMakeG (C : Addr) (sp : Sp) (E : L2.St → XK) (t : TA) : TE := fun σ H Q => t σ H fun vs H1 => ∀ x dx, H1 x = none → H1 dx = none → dx ≠ x →
  sp (.ref x :: vs) (upd (upd H1 dx (.own x)) x (.ins C dx [])) (fun v H2 => v = .non ∧ Q (.ref x) H2) (E σ)
theorem pe_makeG (M : Mk X.K C f) (F : FnG X.prog X.w X.K X.mg X.base k f fd ps sp) (hr : RoomG (k + 1) X.A) (hg : Gl X x) (hm : X.mg x = some (.ref C)) (hb : Binds X.K fd ps []) (hx : ∀ σ, PassesAt (L2.CX X.prog X.w) X σ (E σ))
    (ha : PA X (e :: es) t) (hdb : (x == ("__debug__" : PySem.Str)) = false) (he : starEach (e :: es) X.env = (false, eval e X.env) :: starEach es X.env) (hpl : (backTo pos (starEach es X.env)).any (·.1) = false) :
    PE X (.Call (.Name x p) (e :: es) [] pos) (tMakeG C sp E t) := by
  refine ⟨fun pins s σ H Q I h => ?_⟩
  refine wpAny_Call_Name_kw (ld_glob I hg hm ?_ hdb)
  refine PySem.W.callWith_K (h₀ := X.base) I.ok.mod.kin M.kp (thn (ha.run pos pins s σ H _ I h) fun us s1 ⟨vs, H1, I1, r, q⟩ => ⟨I1.kIn, ?_⟩) he hpl
  exact run_makeG M F hr hb (hx σ) I1 r q
theorem s_mk (M : Mk X.K C f) (F : FnG X.prog X.w X.K X.mg X.base k f fd ps (spI d C np sem)) (hlen : ∀ xs S, sem xs S ≠ .bad → xs.length = np) (hr : RoomG (k + 1) X.A) (hg : Gl X x) (hm : X.mg x = some (.ref C)) (hb : Binds X.K fd ps []) (tk : Takes X W)
    (ha : PA X (e :: es) (tAs d W ms)) (hdb : (x == ("__debug__" : PySem.Str)) = false) (he : starEach (e :: es) X.env = (false, eval e X.env) :: starEach es X.env) (hpl : (backTo pos (starEach es X.env)).any (·.1) = false) :
    PE X (.Call (.Name x p) (e :: es) [] pos) (tE d W (callM sem ms)) := by
  refine PE_imp (pe_makeG M F hr hg hm hb (fun σ => passAt tk σ) ha hdb he hpl) fun σ H Q ⟨G, r, S, RS, RE, q⟩ => ?_
  refine ⟨G, r, S, RS, RE, ?_⟩
  unfold callM at q
  cases e1 : ms r S with
  | bad => rw [e1] at q; exact q.elim
  | exn c S1 => rw [e1] at q; exact q
  | ok xs S1 =>
    rw [e1] at q
    have q : Post d W σ (RV d r σ H) G H Q (sem xs S1) := q
    intro G1 vs H1 s1 R1 ra x dx hx hdx hne
    have nb : sem xs S1 ≠ .bad := fun z => by rw [z] at q; exact q
    refine ⟨x, dx, vs, H1, G1, xs, S1, rfl, by rw [← ra.length]; exact hlen _ _ nb, rfl, hx, hdx, hne, R1, ra, ?_⟩
    cases e2 : sem xs S1 with
    | bad => exact (nb e2).elim
    | exn c S2 => rw [e2] at q; exact fun x G2 H2 ex s2 R2 => q x G2 H2 ex (s1.trans s2) R2
    | ok t' S2 => rw [e2] at q; exact fun G2 H2 s2 R2 rv => ⟨rfl, q G2 _ H2 (s1.trans s2) R2 rv⟩
/-! ### a call of a name that holds a def -/
def tCallVG (X : Cx) (k i : Nat) (E : L2.St → XK) (t : TA) : TE := fun σ H Q => ∃ f fd ps sp, σ[i]? = some (some (.ref f)) ∧ FnG X.prog X.w X.K X.mg X.base k f fd ps sp ∧ PySem.W.keepIn X.K (.ref f) = true ∧ Binds X.K fd ps [] ∧ t σ H fun vs H1 => sp vs H1 Q (E σ)
theorem pe_callVG {i : Nat} (hr : RoomG k X.A) (hN : X.N[i]? = some x) (hv : Vis X.env.scope x) (hx : ∀ σ, PassesAt (L2.CX X.prog X.w) X σ (E σ)) (ha : PA X (e :: es) t)
    (hdb : (x == ("__debug__" : PySem.Str)) = false) (hcd : (x == ("__classdict__" : PySem.Str)) = false)
    (he : starEach (e :: es) X.env = (false, eval e X.env) :: starEach es X.env) (hpl : (backTo pos (starEach es X.env)).any (·.1) = false) : PE X (.Call (.Name x p) (e :: es) [] pos) (tCallVG X k i E t) := by
  refine ⟨fun pins s σ H Q I h => ?_⟩
  obtain ⟨f, fd, ps, sp, hs, F, hk, hb, ht⟩ := h
  refine wpAny_Call_Name_kw (thn ((pe_var (pos := p) hN hv hdb hcd).run pins s σ H (fun v H1 => v = .ref f ∧ H1 = H) I ⟨.ref f, hs, rfl, rfl⟩) fun u s1 ⟨v, H1, I1, r1, q1⟩ => ?_)
  obtain ⟨rfl, rfl⟩ := q1
  cases r1
  refine PySem.W.callWith_K (h₀ := X.base) I.ok.mod.kin hk (thn (ha.run pos pins s1 σ _ _ I1 ht) fun us s2 ⟨vs, H2, I2, r, q⟩ => ⟨I2.kIn, ?_⟩) he hpl
  exact run_fnG F hr hb (hx σ) I2 r q
def callVM (cf : Nat → List T → Store → Res T) (mv : Env → Store → Res T) (ms : Env → Store → Res (List T)) : Env → Store → Res T := fun r S => (mv r S).bind fun x S => match x with
  | .fn f => (ms r S).bind fun xs S => cf f xs S
  | _ => .bad
def FnsOk (X : Cx) (d : D) (cf : Nat → List T → Store → Res T) (k : Nat) : Prop := ∀ f a, d.fa f = some a → ∃ fd ps np, PySem.W.keepIn X.K (.ref a) = true ∧ Binds X.K fd ps [] ∧ FnG X.prog X.w X.K X.mg X.base k a fd ps (spT d np (cf f)) ∧ ∀ xs S, cf f xs S ≠ .bad → xs.length = np
theorem s_callV {cf : Nat → List T → Store → Res T} {i : Nat} (M : FnsOk X d cf k) (hr : RoomG k X.A) (hN : X.N[i]? = some x) (hv : Vis X.env.scope x) (tk : Takes X W) (ha : PA X (e :: es) (tAs d W ms))
    (hdb : (x == ("__debug__" : PySem.Str)) = false) (hcd : (x == ("__classdict__" : PySem.Str)) = false)
    (he : starEach (e :: es) X.env = (false, eval e X.env) :: starEach es X.env) (hpl : (backTo pos (starEach es X.env)).any (·.1) = false) :
    PE X (.Call (.Name x p) (e :: es) [] pos) (tE d W (callVM cf (fun r S => match r[i]? with
      | some (.val t) => .ok t S
      | _ => .bad) ms)) := by
  refine PE_imp (pe_callVG (k := k) hr hN hv (fun σ => passAt tk σ) ha hdb hcd he hpl) fun σ H Q ⟨G, r, S, RS, RE, q⟩ => ?_
  have q : Post d W σ (RV d r σ H) G H Q (Res.bind (match r[i]? with
      | some (.val t) => .ok t S
      | _ => .bad) fun x S => match x with
    | .fn f => (ms r S).bind fun xs S => cf f xs S
    | _ => .bad) := q
  cases er : r[i]? with
  | none => rw [er] at q; exact q.elim
  | some sl =>
    rw [er] at q
    cases sl with
    | val t =>
      obtain ⟨v, hs, rv⟩ := RE.slot i t er
      cases t with
      | fn f =>
        obtain ⟨a, rfl, hfa⟩ := rv
        obtain ⟨fd, ps, np, hk, hb, F, hlen⟩ := M f a hfa
        refine ⟨a, fd, ps, _, hs, F, hk, hb, G, r, S, RS, RE, ?_⟩
        have q : Post d W σ (RV d r σ H) G H Q ((ms r S).bind fun xs S => cf f xs S) := q
        cases e1 : ms r S with
        | bad => rw [e1] at q; exact q.elim
        | exn c S1 => rw [e1] at q; exact q
        | ok xs S1 =>
          rw [e1] at q
          have q : Post d W σ (RV d r σ H) G H Q (cf f xs S1) := q
          intro G1 vs H1 s1 R1 ra
          have nb : cf f xs S1 ≠ .bad := fun z => by rw [z] at q; exact q
          refine ⟨by rw [← ra.length]; exact hlen _ _ nb, G1, xs, S1, R1, ra, ?_⟩
          cases e2 : cf f xs S1 with
          | bad => exact (nb e2).elim
          | exn c S2 => rw [e2] at q; exact fun x G2 H2 ex s2 R2 => q x G2 H2 ex (s1.trans s2) R2
          | ok t' S2 => rw [e2] at q; exact fun G2 v H2 s2 R2 rv => q G2 v H2 (s1.trans s2) R2 rv
      | _ => exact q.elim
    | _ => exact q.elim
end
end Hf
end

section
set_option Elab.async false
set_option linter.all false
set_option maxRecDepth 100000
set_option maxHeartbeats 2000000
/-! HfC3: an __init__ keeps its promise, by its body. -/
namespace Hf
open PySem PySem.Spec PyProof.Rows L2
def runIM (c np ns : Nat) (mb : Env → Store → SRes) (xs : List T) (S : Store) : Res T := if xs.length = np then (match mb (Slot.inst c [] :: (xs.map .val ++ List.replicate (ns - 1 - xs.length) .no)) S with
  | .nx r S' => (match r[0]? with
    | some (Slot.inst c' fs) => .ok (.ins c' fs) S'
    | _ => .bad)
  | .exn e _ S' => .exn e S'
  | _ => .bad) else .bad
theorem start_init {d : D} {G : Gh} {H0 : Hp} {S : Store} {N : List PySem.Str} {xs : List T} {us : List V} {x dx C : Addr} {c : Nat} (R : RepS d G S H0) (ra : RepAll d G xs us) (hN : us.length + 1 ≤ N.length) (hx : H0 x = none) (hdx : H0 dx = none) (hne : dx ≠ x) (hc : d.ca c = some C) :
    RepS (d.sfa (some (x, dx))) G S (upd (upd H0 dx (.own x)) x (.ins C dx [])) ∧ Step G G H0 (upd (upd H0 dx (.own x)) x (.ins C dx [])) ∧
    RepE (d.sfa (some (x, dx))) G (Slot.inst c [] :: (xs.map .val ++ List.replicate (N.length - 1 - xs.length) .no)) (L2.start N (.ref x :: us)) (upd (upd H0 dx (.own x)) x (.ins C dx [])) ∧
    RepO H0 (Slot.inst c [] :: (xs.map .val ++ List.replicate (N.length - 1 - xs.length) .no)) (L2.start N (.ref x :: us)) := by
  have hx1 : upd H0 dx (.own x) x = none := by rw [upd_ne (Ne.symm hne)]; exact hx
  have offI : ∀ {p : Addr}, H0 p = none → G.I p = none := fun {p} hp => by
    cases k : G.I p with
    | none => rfl
    | some o =>
      have := R.imm _ _ k
      rw [hp] at this; cases this
  have offM : ∀ {p : Addr}, H0 p = none → p ∉ G.mu := fun {p} hp k => by
    obtain ⟨vs, e⟩ := R.le_cell k
    rw [hp] at e; cases e
  have hl := ra.length
  have key : ∀ (i : Nat) sl, (xs.map Slot.val ++ List.replicate (N.length - 1 - xs.length) Slot.no)[i]? = some sl → sl = .no ∨ ∃ t, xs[i]? = some t ∧ sl = .val t := by
    intro i sl e
    by_cases hi : i < xs.length
    · rw [List.getElem?_append_left (by simpa using hi), List.getElem?_map] at e
      cases q : xs[i]? with
      | none => rw [q] at e; cases e
      | some t => rw [q] at e; cases e; exact .inr ⟨t, rfl, rfl⟩
    · rw [List.getElem?_append_right (by simpa using hi), List.getElem?_replicate] at e
      split at e
      · cases e; exact .inl rfl
      · cases e
  have s0 : (L2.start N (.ref x :: us))[0]? = some (some (.ref x)) := by
    unfold L2.start
    rw [List.getElem?_append_left (by simp)]
    rfl
  refine ⟨((R.lay hdx).lay hx1).sfa, (Step.lay hdx).trans (Step.lay hx1), ⟨?_, fun i t e => ?_, fun i ys e => ?_, fun i j ys zs a e1 _ _ _ => ?_, fun i c' fs e => ?_, fun i c' e => ?_⟩, fun i a e h => ?_⟩
  · unfold L2.start
    simp only [List.length_cons, List.length_append, List.length_map, List.length_replicate]
    omega
  · cases i with
    | zero => simp at e
    | succ i =>
      rcases key i _ (by simpa using e) with q | ⟨t', e1, q⟩
      · cases q
      · cases q
        obtain ⟨v, e2, rv⟩ := ra.get e1
        refine ⟨v, ?_, RepV.sfa t rv⟩
        unfold L2.start
        have hi := (List.getElem?_eq_some_iff.mp e2).1
        rw [List.getElem?_append_left (by simp; omega)]
        simpa using e2
  · cases i with
    | zero => simp at e
    | succ i =>
      rcases key i _ (by simpa using e) with q | ⟨t, _, q⟩ <;> cases q
  · cases i with
    | zero => simp at e1
    | succ i =>
      rcases key i _ (by simpa using e1) with q | ⟨t, _, q⟩ <;> cases q
  · cases i with
    | zero =>
      simp at e
      obtain ⟨rfl, rfl⟩ := e
      exact ⟨x, C, dx, [], s0, ⟨hc, rfl⟩, upd_same, by rw [upd_ne hne, upd_same], trivial, offI hx, offI hdx, offM hx, offM hdx⟩
    | succ i =>
      rcases key i _ (by simpa using e) with q | ⟨t, _, q⟩ <;> cases q
  · cases i with
    | zero => simp at e
    | succ i =>
      rcases key i _ (by simpa using e) with q | ⟨t, _, q⟩ <;> cases q
  · cases i with
    | zero => rw [s0] at e; cases e; exact hx
    | succ i =>
      rcases h with ⟨ys, h⟩ | ⟨c', fs, h⟩
      · rcases key i _ (by simpa using h) with q | ⟨t, _, q⟩ <;> cases q
      · rcases key i _ (by simpa using h) with q | ⟨t, _, q⟩ <;> cases q
theorem init_post {d : D} {E : XK} {G : Gh} {H0 : Hp} {x dx : Addr} {Q : VK} {m : SRes} (hx : H0 x = none) (hdx : H0 dx = none) (h : PostI d E G H0 x Q (match m with
    | .nx r S' => (match r[0]? with
      | some (Slot.inst c' fs) => .ok (.ins c' fs) S'
      | _ => .bad)
    | .exn e _ S' => .exn e S'
    | _ => .bad)) : PostS (d.sfa (some (x, dx))) (fun cls dd _ H => E cls dd H) G G H0 { nx := fun _ H' => Q .non H', rt := Q } m := by
  cases m with
  | nx r S' =>
    intro G' σ' H' s R E' O
    simp only at h
    cases er : r[0]? with
    | none => rw [er] at h; exact h.elim
    | some sl =>
      rw [er] at h
      cases sl with
      | inst c' fs =>
        obtain ⟨a, C, dx', ws, h1, ⟨h2, h2'⟩, h3, h4, h5, h6, h7, h8, h9⟩ := E'.inst 0 c' fs er
        have e2 : a = x ∧ dx' = dx := by
          have : some (x, dx) = some (a, dx') := h2'
          cases this
          exact ⟨rfl, rfl⟩
        obtain ⟨rfl, rfl⟩ := e2
        have R := R.unsf
        have hadx : dx' ≠ a := fun q => by rw [q, h3] at h4; cases h4
        have le : Le G' ⟨upd (upd G'.I dx' (.own a)) a (.ins C dx' ws), G'.mu⟩ := ⟨fun b o e => by
          by_cases q1 : b = a
          · rw [q1, h6] at e; cases e
          · by_cases q2 : b = dx'
            · rw [q2, h7] at e; cases e
            · show upd (upd G'.I dx' (.own a)) a (.ins C dx' ws) b = _
              rw [upd_ne q1, upd_ne q2]; exact e, [], by simp⟩
        have R2 : RepS d ⟨upd (upd G'.I dx' (.own a)) a (.ins C dx' ws), G'.mu⟩ S' H' := by
          refine ⟨fun b o e => ?_, R.len, fun n xs e => ?_, R.inj, fun b hb => ?_⟩
          · by_cases q1 : b = a
            · subst q1
              have e : upd (upd G'.I dx' (.own b)) b (.ins C dx' ws) b = some o := e
              rw [upd_same] at e; cases e; exact h3
            · have e : upd (upd G'.I dx' (.own a)) a (.ins C dx' ws) b = some o := e
              rw [upd_ne q1] at e
              by_cases q2 : b = dx'
              · subst q2
                rw [upd_same] at e; cases e; exact h4
              · rw [upd_ne q2] at e; exact R.imm b o e
          · obtain ⟨b, vs, k1, k2, z, k3⟩ := R.cell n xs e
            exact ⟨b, vs, k1, k2, z, RepAll.le le xs k3⟩
          · show upd (upd G'.I dx' (.own a)) a (.ins C dx' ws) b = none
            rw [upd_ne (fun q => h8 (by rw [← q]; exact hb)), upd_ne (fun q => h9 (by rw [← q]; exact hb))]
            exact R.off b hb
        have st : Step G ⟨upd (upd G'.I dx' (.own a)) a (.ins C dx' ws), G'.mu⟩ H0 H' := by
          refine ⟨s.s.le.trans le, fun b k1 k2 => ?_, s.s.mu, s.s.keep, s.s.there⟩
          by_cases q1 : b = a
          · rw [q1]; exact hx
          · by_cases q2 : b = dx'
            · rw [q2]; exact hdx
            · refine s.s.new b k1 ?_
              have k2 : upd (upd G'.I dx' (.own a)) a (.ins C dx' ws) b ≠ none := k2
              rw [upd_ne q1, upd_ne q2] at k2
              exact k2
        refine h _ H' st R2 ⟨a, C, dx', ws, rfl, h2, upd_same, ?_, RepFs.le le fs h5.unsf⟩
        show upd (upd G'.I dx' (.own a)) a (.ins C dx' ws) dx' = _
        rw [upd_ne hadx, upd_same]
      | _ => exact h.elim
  | ret t S' => exact h.elim
  | brk r S' => exact h.elim
  | cnt r S' => exact h.elim
  | exn c r S' => exact fun x G' σ' H' ex s R _ _ => h x G' H' ex s.s R.unsf
  | bad => exact h
/-- an __init__ of the text keeps its promise, by its body -/
theorem fn_init {P : Program} {w : World} {K : PySem.W.Frag} {mg : PySem.Str → Option Value} {base : Heap} {k : Nat} {f C : Addr} {c np : Nat} {name qual : PySem.Str} {params : Arguments} {body : List Stmt} {scope : Scope} {dV kV doc pm cdv ct oc : Value} {an od : Option Addr}
    {osl : Array (Option Value)} {N ps : List PySem.Str} {d : D} {mb : Env → Store → SRes} (lk : K.lookup f = some ⟨oc, od, .func (PySem.W.fnOf name qual params body scope dV kV doc pm an cdv ct), osl⟩) (hcd : PySem.W.codeIn K cdv qual = true) (SC : FnScope N ps scope) (hnp : ps.length = np + 1) (hc : d.ca c = some C)
    (hbody : ∀ (X : Cx) (W : WX) (s : Option (Addr × Addr)), X.prog = P → X.w = w → X.K = K → X.mg = mg → X.base = base → X.N = N → X.env.scope = scope → X.fn = (fun _ => true) → X.calm = true → X.env.frame = some X.env.locals → X.stack = X.env :: X.outer → RoomG k X.A → Takes X W → PassesOwn (model X.prog X.w) X.A X.env X.xe → PSs X body (tS (d.sfa s) W mb)) :
    FnG P w K mg base (k + 1) f (PySem.W.fnOf name qual params body scope dV kV doc pm an cdv ct) ps (spI d C np (runIM c np N.length mb)) := by
  refine fn_ofG lk hcd SC (fun vs H Q E h => ?_) fun A outer s H vs Q E hr hsp => ?_
  · obtain ⟨x, dx, us, H0, G, xs, S, rfl, hl, _⟩ := h
    rw [List.length_cons, hl, hnp]
  · obtain ⟨x, dx, us, H0, G, xs, S, rfl, hl, rfl, hx, hdx, hne, R, ra, q⟩ := hsp
    have hpl : ps.length ≤ N.length := by have := congrArg List.length SC.pre; rw [List.length_take] at this; omega
    refine ⟨tS (d.sfa (some (x, dx))) (fun cls dd _ H => E cls dd H) mb, hbody (cxOf (L2.CX P w) P w K mg base N qual scope f cdv A outer s _ E) _ _ rfl rfl rfl rfl rfl rfl rfl rfl rfl rfl rfl hr (takes_of rfl rfl rfl rfl) (passes_of rfl), ?_⟩
    have hxl : xs.length = np := by rw [ra.length, hl]
    unfold runIM at q
    rw [if_pos hxl] at q
    obtain ⟨R1, s1, E1, O1⟩ := start_init (c := c) (us := us) (N := N) R ra (by omega) hx hdx hne hc
    exact ⟨G, G, H0, G, _, S, ⟨Le.refl _, s1⟩, R1, E1, O1, init_post hx hdx q⟩
end Hf
end

section
set_option Elab.async false
set_option linter.all false
set_option maxRecDepth 100000
set_option maxHeartbeats 2000000
/-! HfC4: the form of a method's call; a list made by a comprehension, given to a local name. -/
namespace Hf
open PySem PySem.Spec PyProof.Rows L2
theorem form_of : ∀ (es : List Expr) (h : es.all noStar = true) (hl : es.length < 30) (pos : Pos) (env : PySem.Env), methodCallForm es.length (backTo pos (starEach es env)) (backToKw pos (keywordEach [] env)) = true := by
  intro es h hl pos env
  have a : ∀ es : List Expr, es.all noStar = true → (backTo pos (starEach es env)).all (fun x => !x.1) = true := by
    intro es
    induction es with
    | nil => intro _; rfl
    | cons e es ih =>
      intro h
      simp only [List.all_cons, Bool.and_eq_true] at h
      rw [star_cons h.1]
      show (true && (backTo pos (starEach es env)).all (fun x => !x.1)) = true
      rw [ih h.2]; rfl
  unfold methodCallForm
  have b : (backToKw pos (keywordEach [] env)) = [] := rfl
  rw [a es h, b]
  simp [hl]
theorem meth_eq {o : Expr} {m : PySem.Str} {apos pos : Pos} {es : List Expr} {env : PySem.Env} (ho : noCall o = true) (h : es.all noStar = true) (hl : es.length < 30) (hp : (apos.endLine == pos.line) = true) :
    eval (.Call (.Attribute o m apos) es [] pos) env = (do
      let ov ← eval o env
      standAt apos.atName
      let (f, first) ← holding [ov] (getMethod ov m (do return (← importBound o env).getD true))
      callWith pos f first (backTo pos (starEach es env)) (backToKw pos (keywordEach [] env))) := by
  have e1 : eval (.Call (.Attribute o m apos) es [] pos) env = (do
      let ov ← attributeBase o m env (eval o env)
      standAt apos.atName
      methodCall o m apos pos env ov (es.length + ([] : List Keyword).length) (backTo pos (starEach es env)) (backToKw pos (keywordEach [] env))) := rfl
  rw [e1, no_base ho]
  congr 1
  funext ov
  congr 1
  funext _
  unfold methodCall
  have f := form_of es h hl pos env
  have e0 : es.length + ([] : List Keyword).length = es.length := rfl
  rw [e0, f]
  have e2 : calleeOf true o env ov m = getMethod ov m (do return (← importBound o env).getD true) := rfl
  have e3 : methodCallPos true o env apos pos = pure pos := by
    unfold methodCallPos
    simp [hp]
  rw [e2, e3]
  rfl
section
variable {X : Cx} {d : D} {W : WX} {tgE itE elt : Expr} {ifs : List Expr} {scope : Scope} {pos spos py : Pos} {tg : Tg} {mi : Env → Store → Res (T × List T)} {mt : Env → Store → Res Bool} {me : Env → Store → Res T} {i : Nat} {y : PySem.Str}
theorem s_compSet (hK : d.K = X.K) (hc : X.calm = true) (hN : X.N.Nodup) (hy : X.N[i]? = some y) (hyl : X.env.scope.names.lookup y = some .local) (hsw : swapsWith (.ListComp elt [⟨tgE, itE, ifs, 0⟩] scope pos) (some (.Name y py)) spos.line X.env = pure true)
    {own : List (PySem.Str × Nat)} (ho : own.map (·.2) = tg.slots) (hmi : ∀ r S p S', mi r S = .ok p S' → Still p.1 p.2 S')
    (hi : PI X tgE itE (tIt d W mi)) (ok : BlkOk X.N X.env.scope scope own)
    (hg : ∀ (s : Shared) (H : Hp) (C : Addr) (cl : List (PySem.Str × Addr)) (fp : List Addr), PG (X.blk s H scope (compEnvC scope cl C X.env) fp) tgE (tBind X.K tg))
    (ht : ∀ (s : Shared) (H : Hp) (C : Addr) (cl : List (PySem.Str × Addr)) (fp : List Addr), PTs (X.blk s H scope (compEnvC scope cl C X.env) fp) ifs (tG d W0 RB mt))
    (he : ∀ (s : Shared) (H : Hp) (C : Addr) (cl : List (PySem.Str × Addr)) (fp : List Addr), PE (X.blk s H scope (compEnvC scope cl C X.env) fp) elt (tE d W0 me)) (hs : ∀ x, foldedSetIterable itE X.env x = pure x) :
    PS X (.Assign [.Name y py] (.ListComp elt [⟨tgE, itE, ifs, 0⟩] scope pos) spos) (tAsg (tN d W (compM tg mi mt me)) (gName i)) := by
  refine PS_imp (ps_setLc hc hN hy hyl hsw hi ok hg ht he hs) fun D σ H hw => ?_
  have hw : tN d W (compM tg mi mt me) σ H (fun x H1 => gName i x σ H1 D.nx) := hw
  show tLc _ _ _ _ _ σ H _
  rw [ho]
  exact comp_imp hK hmi hw
theorem tE_tN {m : Env → Store → Res T} {σ : L2.St} {H : Hp} {Q : VK} (h : tE d W m σ H Q) (hn : ∀ r S t S', m r S = .ok t S' → ∃ xs, t = .lst xs) : tN d W m σ H Q := by
  obtain ⟨G, r, S, RS, RE, q⟩ := h
  exact ⟨G, r, S, RS, RE, q.imp fun t S G' b H' _ s R1 k ⟨xs, e, a, vs, e2, h1, z, r, h2, h3, h4⟩ => by
    subst e e2
    obtain ⟨s', R', v'⟩ := freeze s R1 h1 z r h2 h3 h4
    exact k _ _ _ s' R' v'⟩
end
end Hf
end

section
set_option Elab.async false
set_option linter.all false
set_option maxRecDepth 100000
set_option maxHeartbeats 2000000
/-! HfC5: comprehensions with two fors, by trees. -/
namespace Hf
open PySem PySem.Spec PyProof.Rows L2
def inner2 (tg2 : Tg) (me : Env → Store → Res T) (r : Env) (p2 : T × List T) (S : Store) : Res (List T) := if p2.2.length ≤ 2048 then compLoop (still p2.1 p2.2) (compF tg2 (fun _ S => .ok true S) me r) p2.2 S else .bad
def comp2F (tg tg2 : Tg) (mi2 : Env → Store → Res (T × List T)) (me : Env → Store → Res T) (r : Env) : T → Store → Res (List T) := fun x S => match bindT tg x (wipeE r (tg.slots ++ tg2.slots)) with
  | some r' => (mi2 r' S).bind fun p2 S => inner2 tg2 me r' p2 S
  | none => .bad
def comp2M (tg tg2 : Tg) (mi mi2 : Env → Store → Res (T × List T)) (me : Env → Store → Res T) : Env → Store → Res T := fun r S => (mi r S).bind fun p S =>
  if p.2.length ≤ 2048 then (compLoop2 (still p.1 p.2) (comp2F tg tg2 mi2 me r) p.2 S).bind fun ys S => .ok (.lst ys) S else .bad
section
variable {d : D} {G : Gh} {H : Hp}
theorem names_rep2 : ∀ {is : List Nat} {xs : List T} {us : List V} {r r' : Env} {σ : L2.St} {Q : L2.St → Hp → Prop}, RepE d G r σ H → RepAll d G xs us → bindTs is xs r = some r' →
    (∀ σ', RepE d G r' σ' H → (∀ vs : List Nat, (∀ i ∈ is, i ∈ vs) → L2.wipe σ' vs = L2.wipe σ vs) → (∀ G' H', Le G G' → RepE d G' r σ H' → RepE d G' r' σ' H') → Q σ' H) → is.length = us.length ∧ gNames is us σ H Q
  | [], [], us, r, r', σ, Q, E, ra, e, k => by
    cases us with
    | cons _ _ => exact ra.elim
    | nil =>
      have e' : r = r' := Option.some.inj e
      subst e'
      exact ⟨rfl, rfl, k σ E (fun _ _ => rfl) fun _ _ _ O => O⟩
  | [], _ :: _, _, _, _, _, _, _, _, e, _ => by simp [bindTs] at e
  | _ :: _, [], _, _, _, _, _, _, _, e, _ => by simp [bindTs] at e
  | i :: is, x :: xs, us, r, r', σ, Q, E, ra, e, k => by
    cases us with
    | nil => exact ra.elim
    | cons u us =>
      have e' : bindTs is xs (r.set i (.val x)) = some r' := e
      obtain ⟨h1, h2⟩ := names_rep2 (us := us) (Q := Q) (E.put (i := i) (.inr ⟨x, u, rfl, rfl, ra.1⟩)) ra.2 e' fun σ' E' w wo => k σ' E' (fun vs hv => by
        rw [w vs fun j hj => hv j (List.mem_cons_of_mem _ hj), wipe_set (hv i List.mem_cons_self)]) fun G' H' le O => wo G' H' le (O.put (.inr ⟨x, u, rfl, rfl, RepV.le le _ ra.1⟩))
      exact ⟨by simp [h1], u, us, rfl, h2⟩
theorem bind_rep2 {K : PySem.W.Frag} (hK : d.K = K) {tg : Tg} {t : T} {v : V} {r r' : Env} {S : Store} {σ : L2.St} {Q : L2.St → Hp → Prop} (R : RepS d G S H) (E : RepE d G r σ H) (rv : RepV d G t v) (e : bindT tg t r = some r')
    (k : ∀ σ', RepE d G r' σ' H → (∀ vs : List Nat, (∀ i ∈ tg.slots, i ∈ vs) → L2.wipe σ' vs = L2.wipe σ vs) → (∀ G' H', Le G G' → RepE d G' r σ H' → RepE d G' r' σ' H') → Q σ' H) : tBind K tg v σ H Q := by
  cases tg with
  | n i =>
    have e' : r.set i (.val t) = r' := Option.some.inj e
    subst e'
    exact k _ (E.put (.inr ⟨t, v, rfl, rfl, rv⟩)) (fun vs hv => wipe_set (hv i (List.mem_singleton.mpr rfl))) fun G' H' le O => O.put (.inr ⟨t, v, rfl, rfl, RepV.le le _ rv⟩)
  | t is =>
    cases t <;> simp only [bindT] at e <;> try contradiction
    rename_i xs
    obtain ⟨a, us, rfl, q, z, ra⟩ := rv
    obtain ⟨h1, h2⟩ := names_rep2 (Q := Q) E ra e k
    exact ⟨a, us, rfl, hK ▸ R.sqT q, h1.symm, h2⟩
end
theorem inner_ok {tg2 : Tg} {me : Env → Store → Res T} {r' : Env} {p2 : T × List T} {S : Store} {zs : List T} {S' : Store} (h : inner2 tg2 me r' p2 S = .ok zs S') : p2.2.length ≤ 2048 ∧ compLoop (still p2.1 p2.2) (compF tg2 (fun _ S => .ok true S) me r') p2.2 S = .ok zs S' := by
  unfold inner2 at h
  split at h
  · exact ⟨by assumption, h⟩
  · cases h
section
variable {X : Cx} {d : D} {W : WX} {tgE itE tgE2 itE2 elt : Expr} {scope : Scope} {pos : Pos} {tg tg2 : Tg} {mi mi2 : Env → Store → Res (T × List T)} {me : Env → Store → Res T}
theorem comp2_imp (hK : d.K = X.K) (hmi : ∀ r S p S', mi r S = .ok p S' → Still p.1 p.2 S') (hmi2 : ∀ r S p S', mi2 r S = .ok p S' → Still p.1 p.2 S') {σ : L2.St} {H : Hp} {Q : VK} (hw : tN d W (comp2M tg tg2 mi mi2 me) σ H Q) :
    tLc2 (tIt d W mi) (tBind X.K tg) tYes (tItE d W0 mi2) (tBind X.K tg2) tYes (tE d W0 me) (tg.slots ++ tg2.slots) tg2.slots σ H Q := by
  obtain ⟨G, r, S, RS, RE, q⟩ := hw
  refine ⟨G, r, S, RS, RE, Post.bind0 q fun p S1 e1 q1 G1 J H1 s1 R1 wk => fun Dd hD => ?_⟩
  split at q1 <;> try exact q1.elim
  rename_i hpl
  obtain ⟨Pv, hPv⟩ : ∃ Pv : Nat → Hp → Prop, Pv = fun i H' => ∃ G' S' acc ys0, Step G1 G' H1 H' ∧ RepS d G' S' H' ∧ Still p.1 p.2 S' ∧ H' Dd = some (.lst acc) ∧ acc.length ≤ i * 2048 ∧ RepAll d G' ys0 acc ∧ G'.I Dd = none ∧ Dd ∉ G'.mu ∧
      Post d W σ (RN d r σ H) G H Q ((compLoop2 (still p.1 p.2) (comp2F tg tg2 mi2 me r) (p.2.drop i) S').bind fun ys S => .ok (.lst (ys0 ++ ys)) S) := ⟨_, rfl⟩
  have hI1 : G1.I Dd = none := by
    cases k : G1.I Dd with
    | none => rfl
    | some o =>
      have := R1.imm _ _ k
      rw [hD] at this; cases this
  have hm1 : Dd ∉ G1.mu := fun k => by
    obtain ⟨vs, e⟩ := R1.le_cell k
    rw [hD] at e; cases e
  refine ⟨fun i m H' => m = p.2.length - i ∧ i ≤ p.2.length ∧ Pv i H', ⟨p.2.length, by simp, Nat.zero_le _, ?_⟩, ?_⟩
  · rw [hPv]
    exact ⟨G1, S1, [], [], Step.lay hD, R1.lay hD, hmi _ _ _ _ e1, upd_same, by simp, trivial, hI1, hm1, q1⟩
  · rintro i m H' ⟨rfl, hi', hp⟩
    by_cases hlt : i < p.2.length
    · rw [hPv] at hp
      obtain ⟨G', S', acc, ys0, s', R', st, hA, hz, ra, hI, hm, q⟩ := hp
      refine .inr ⟨wk.go G' S' H' s' R' st i hlt, Pv (i + 1), fun H'' h => ⟨p.2.length - (i + 1), by omega, rfl, hlt, h⟩, fun x H'' y => ?_⟩
      obtain ⟨t, G2, ht, s2, R2, rv⟩ := wk.yld G' S' H' s' R' st i x H'' hlt y
      have E2 : RepE d G2 (wipeE r (tg.slots ++ tg2.slots)) (L2.wipe σ (tg.slots ++ tg2.slots)) H'' := RepE.wipe (((RE.step s1).step s').step s2) _
      have ed : p.2.drop i = t :: p.2.drop (i + 1) := by
        rw [List.drop_eq_getElem_cons hlt]
        rw [List.getElem?_eq_getElem hlt] at ht
        rw [Option.some.inj ht]
      rw [ed] at q
      unfold compLoop2 at q
      cases eb : bindT tg t (wipeE r (tg.slots ++ tg2.slots)) with
      | none =>
        have ef : comp2F tg tg2 mi2 me r t S' = .bad := by unfold comp2F; rw [eb]
        rw [ef] at q; exact q.elim
      | some r' =>
        have ef : comp2F tg tg2 mi2 me r t S' = (mi2 r' S').bind fun p2 S => inner2 tg2 me r' p2 S := by unfold comp2F; rw [eb]
        rw [ef] at q
        refine bind_rep2 hK R2 E2 rv eb fun σ2 E3 hw hF => ⟨by rw [hw _ fun _ h => List.mem_append_left _ h, wipe_wipe], ?_⟩
        simp only [tYes, if_true]
        refine ⟨G2, r', S', R2, E3, ?_⟩
        cases e2 : mi2 r' S' with
        | bad => rw [e2] at q; exact q.elim
        | exn c S3 => rw [e2] at q; exact q.elim
        | ok p2 S4 =>
          rw [e2] at q
          intro G4 J1 H4 s4 R4 wk4
          have q : Post d W σ (RN d r σ H) G H Q ((match inner2 tg2 me r' p2 S4 with
            | .ok zs S'' => if still p.1 p.2 S'' = true then (compLoop2 (still p.1 p.2) (comp2F tg tg2 mi2 me r) (p.2.drop (i + 1)) S'').bind fun ys S'' => .ok (zs ++ ys) S'' else .bad
            | _ => .bad).bind fun ys S => .ok (.lst (ys0 ++ ys)) S) := q
          cases e3 : inner2 tg2 me r' p2 S4 with
          | bad => rw [e3] at q; exact q.elim
          | exn c S5 => rw [e3] at q; exact q.elim
          | ok zs S5 =>
            rw [e3] at q
            obtain ⟨hl2, e4⟩ := inner_ok e3
            have q : Post d W σ (RN d r σ H) G H Q ((if still p.1 p.2 S5 = true then (compLoop2 (still p.1 p.2) (comp2F tg tg2 mi2 me r) (p.2.drop (i + 1)) S5).bind fun ys S'' => .ok (zs ++ ys) S'' else .bad).bind fun ys S => .ok (.lst (ys0 ++ ys)) S) := q
            split at q <;> try exact q.elim
            rename_i hst
            have st4 := s2.trans s4
            obtain ⟨Pw, hPw⟩ : ∃ Pw : Nat → Hp → Prop, Pw = fun j H5 => ∃ G5 S6 acc' ys1 zs', Step G1 G5 H1 H5 ∧ Le G4 G5 ∧ RepS d G5 S6 H5 ∧ Still p2.1 p2.2 S6 ∧ H5 Dd = some (.lst acc') ∧ acc'.length ≤ i * 2048 + j ∧ RepAll d G5 (ys0 ++ ys1) acc' ∧ G5.I Dd = none ∧ Dd ∉ G5.mu ∧
                compLoop (still p2.1 p2.2) (compF tg2 (fun _ S => .ok true S) me r') (p2.2.drop j) S6 = .ok zs' S5 ∧ zs = ys1 ++ zs' := ⟨_, rfl⟩
            have sm := wk.small
            refine ⟨fun j k H5 => k = p2.2.length - j ∧ j ≤ p2.2.length ∧ Pw j H5, ⟨p2.2.length, by simp, Nat.zero_le _, ?_⟩, ?_⟩
            · rw [hPw]
              exact ⟨G4, S4, acc, [], zs, s'.trans st4, Le.refl _, R4, hmi2 _ _ _ _ e2, st4.keep _ _ hA hm, by omega, by rw [List.append_nil]; exact RepAll.le st4.le _ ra, st4.offI hA hI, st4.offM hA hm, e4, rfl⟩
            · rintro j k H5 ⟨rfl, hj', hp2⟩
              rw [hPw] at hp2
              obtain ⟨G5, S6, acc', ys1, zs', s5, le5, R5, st5, hA5, hz5, ra5, hI5, hm5, e5, ez⟩ := hp2
              by_cases hj : j < p2.2.length
              · refine .inr ⟨wk4.go G5 S6 H5 le5 R5 st5 j hj, Pw (j + 1), fun H6 h => ⟨p2.2.length - (j + 1), by omega, rfl, hj, h⟩, fun x2 H6 y2 => ?_⟩
                obtain ⟨t2, G6, ht2, s6, R6, rv2⟩ := wk4.yld G5 S6 H5 le5 R5 st5 j x2 H6 hj y2
                have E6 : RepE d G6 r' σ2 H6 := hF G6 H6 ((s4.le.trans le5).trans s6.le) (RepE.wipe (((RE.step s1).step s5).step s6) _)
                have ed2 : p2.2.drop j = t2 :: p2.2.drop (j + 1) := by
                  rw [List.drop_eq_getElem_cons hj]
                  rw [List.getElem?_eq_getElem hj] at ht2
                  rw [Option.some.inj ht2]
                rw [ed2] at e5
                unfold compLoop at e5
                cases eb2 : bindT tg2 t2 (wipeE r' tg2.slots) with
                | none =>
                  have ef2 : compF tg2 (fun _ S => .ok true S) me r' t2 S6 = .bad := by unfold compF; rw [eb2]
                  rw [ef2] at e5; cases e5
                | some r'' =>
                  have ef2 : compF tg2 (fun _ S => .ok true S) me r' t2 S6 = (me r'' S6).bind fun y S => .ok (some y) S := by
                    unfold compF; rw [eb2]; rfl
                  rw [ef2] at e5
                  refine bind_rep hK R6 (RepE.wipe E6 _) rv2 eb2 fun σ3 E7 hw2 _ => ⟨by rw [hw2 _ fun _ h => h, wipe_wipe], ?_⟩
                  refine ⟨G6, r'', S6, R6, E7, ?_⟩
                  cases e6 : me r'' S6 with
                  | bad => rw [e6] at e5; cases e5
                  | exn c S7 => rw [e6] at e5; cases e5
                  | ok y S7 =>
                    rw [e6] at e5
                    have e5 : (if still p2.1 p2.2 S7 = true then (compLoop (still p2.1 p2.2) (compF tg2 (fun _ S => .ok true S) me r') (p2.2.drop (j + 1)) S7).bind fun ys S'' => .ok (y :: ys) S'' else .bad) = .ok zs' S5 := e5
                    split at e5 <;> try (cases e5; done)
                    rename_i hst2
                    intro G7 yv H7 s7 R7 ry
                    have st7 := s6.trans s7
                    have hI7 := st7.offI hA5 hI5
                    have hm7 := st7.offM hA5 hm5
                    cases e8 : compLoop (still p2.1 p2.2) (compF tg2 (fun _ S => .ok true S) me r') (p2.2.drop (j + 1)) S7 with
                    | bad => rw [e8] at e5; cases e5
                    | exn c S8 => rw [e8] at e5; cases e5
                    | ok ws S8 =>
                      rw [e8] at e5
                      cases e5
                      refine ⟨acc', st7.keep _ _ hA5 hm5, ?_, ?_⟩
                      · have := sizeLine_eq; omega
                      rw [hPw]
                      refine ⟨G7, S7, acc' ++ [yv], ys1 ++ [y], ws, (s5.trans st7).poke hD, le5.trans st7.le, R7.poke hI7 hm7, still_of hst2, upd_same, by rw [List.length_append]; simp; omega, ?_, hI7, hm7, e8, by rw [ez]; simp⟩
                      rw [← List.append_assoc]
                      exact (RepAll.le st7.le _ ra5).append ⟨ry, trivial⟩
              · have ei : j = p2.2.length := by omega
                subst ei
                refine .inl ⟨wk4.stop G5 S6 H5 le5 R5 st5, ?_⟩
                rw [hPv]
                rw [List.drop_length] at e5
                simp only [compLoop] at e5
                cases e5
                rw [List.append_nil] at ez
                subst ez
                refine ⟨G5, S5, acc', ys0 ++ zs, s5, R5, still_of hst, hA5, by omega, ra5, hI5, hm5, ?_⟩
                revert q
                cases compLoop2 (still p.1 p.2) (comp2F tg tg2 mi2 me r) (p.2.drop (i + 1)) S5 <;> intro q
                · rename_i us S9
                  show Post d W σ (RN d r σ H) G H Q (.ok (.lst ((ys0 ++ zs) ++ us)) S9)
                  rw [List.append_assoc]; exact q
                · exact q
                · exact q
    · have ei : i = p.2.length := by omega
      subst ei
      rw [hPv] at hp
      obtain ⟨G', S', acc, ys0, s', R', st, hA, hz, ra, hI, hm, q2⟩ := hp
      refine .inl ⟨wk.stop G' S' H' s' R' st, ?_⟩
      rw [List.drop_length] at q2
      have := sizeLine_eq
      exact q2 G' (.ref Dd) H' (s1.trans s') R' ⟨_, rfl, Dd, acc, rfl, hA, by omega, by rw [List.append_nil]; exact ra, hI, hm, s1.none hD⟩
theorem s_comp2 (hK : d.K = X.K) (hc : X.calm = true) (hN : X.N.Nodup) {own : List (PySem.Str × Nat)} (ho : own.map (·.2) = tg.slots ++ tg2.slots) (hmi : ∀ r S p S', mi r S = .ok p S' → Still p.1 p.2 S') (hmi2 : ∀ r S p S', mi2 r S = .ok p S' → Still p.1 p.2 S')
    (hi : PI X tgE itE (tIt d W mi)) (ok : BlkOk X.N X.env.scope scope own)
    (hg : ∀ (s : Shared) (H : Hp) (C : Addr) (cl : List (PySem.Str × Addr)) (fp : List Addr), PG (X.blk s H scope (compEnvC scope cl C X.env) fp) tgE (tBind X.K tg))
    (hi2 : ∀ (s : Shared) (H : Hp) (C : Addr) (cl : List (PySem.Str × Addr)) (fp : List Addr), PI (X.blk s H scope (compEnvC scope cl C X.env) fp) tgE2 itE2 (tItE d W0 mi2))
    (hg2 : ∀ (s : Shared) (H : Hp) (C : Addr) (cl : List (PySem.Str × Addr)) (fp : List Addr), PG (X.blk s H scope (compEnvC scope cl C X.env) fp) tgE2 (tBind X.K tg2))
    (he : ∀ (s : Shared) (H : Hp) (C : Addr) (cl : List (PySem.Str × Addr)) (fp : List Addr), PE (X.blk s H scope (compEnvC scope cl C X.env) fp) elt (tE d W0 me)) (hs : ∀ x, foldedSetIterable itE X.env x = pure x) (hs2 : ∀ env x, foldedSetIterable itE2 env x = pure x) :
    PE X (.ListComp elt [⟨tgE, itE, [], 0⟩, ⟨tgE2, itE2, [], 0⟩] scope pos) (tN d W (comp2M tg tg2 mi mi2 me)) := by
  refine PE_imp (pe_lc2 hc hN hi ok (vs1 := tg2.slots) (fun i hi => by rw [ho]; exact List.mem_append_right _ hi) hg (fun s H C cl fp => pts_nil) hi2 hg2 (fun s H C cl fp => pts_nil) he hs hs2) fun σ H Q hw => ?_
  rw [ho]
  exact comp2_imp hK hmi hmi2 hw
end
end Hf
end

section
set_option Elab.async false
set_option linter.all false
set_option maxRecDepth 100000
set_option maxHeartbeats 2000000
/-! HfC6: a call of what an expression gives; either of two new lists. -/
namespace Hf
open PySem PySem.Spec PyProof.Rows L2
section
variable {X : Cx} {d : D} {W : WX} {fe e a b : Expr} {es : List Expr} {pos : Pos} {k : Nat} {mf mc ma mb : Env → Store → Res T} {ms : Env → Store → Res (List T)} {E : L2.St → XK} {tf : TE} {t : TA}
def tCallEG (X : Cx) (k : Nat) (E : L2.St → XK) (tf : TE) (t : TA) : TE := fun σ H Q => tf σ H fun y H1 => ∃ f fd ps sp, y = .ref f ∧ FnG X.prog X.w X.K X.mg X.base k f fd ps sp ∧ PySem.W.keepIn X.K (.ref f) = true ∧ Binds X.K fd ps [] ∧ t σ H1 fun vs H2 => sp vs H2 Q (E σ)
theorem pe_callEG (hf : PE X fe tf) (hr : RoomG k X.A) (hx : ∀ σ, PassesAt (L2.CX X.prog X.w) X σ (E σ)) (ha : PA X (e :: es) t)
    (ht : eval (.Call fe (e :: es) [] pos) X.env = (do callWith pos (← eval fe X.env) [] (backTo pos (starEach (e :: es) X.env)) (backToKw pos (keywordEach [] X.env))))
    (he : starEach (e :: es) X.env = (false, eval e X.env) :: starEach es X.env) (hpl : (backTo pos (starEach es X.env)).any (·.1) = false) : PE X (.Call fe (e :: es) [] pos) (tCallEG X k E tf t) := by
  refine ⟨fun pins s σ H Q I h => ?_⟩
  refine Call_ (thn (hf.run pins s σ H _ I h) fun u s1 ⟨y, H1, I1, ry, f, fd, ps, sp, ey, F, hk, hb, q⟩ => ?_) ht
  subst ey
  obtain rfl : u = Value.ref f := ry
  refine PySem.W.callWith_K (h₀ := X.base) I1.ok.mod.kin hk (thn (ha.run pos pins s1 σ H1 _ I1 q) fun us s2 ⟨vs, H2, I2, r, q⟩ => ⟨I2.kIn, ?_⟩) he hpl
  exact run_fnG F hr hb (hx σ) I2 r q
theorem s_callE {cf : Nat → List T → Store → Res T} (M : FnsOk X d cf k) (hr : RoomG k X.A) (tk : Takes X W) (hf : PE X fe (tE d W mf)) (ha : PA X (e :: es) (tAs d W ms))
    (ht : eval (.Call fe (e :: es) [] pos) X.env = (do callWith pos (← eval fe X.env) [] (backTo pos (starEach (e :: es) X.env)) (backToKw pos (keywordEach [] X.env))))
    (he : starEach (e :: es) X.env = (false, eval e X.env) :: starEach es X.env) (hpl : (backTo pos (starEach es X.env)).any (·.1) = false) :
    PE X (.Call fe (e :: es) [] pos) (tE d W (callVM cf mf ms)) := by
  refine PE_imp (pe_callEG (k := k) hf hr (fun σ => passAt tk σ) ha ht he hpl) fun σ H Q ⟨G, r, S, RS, RE, q⟩ => ⟨G, r, S, RS, RE, ?_⟩
  unfold callVM at q
  cases e0 : mf r S with
  | bad => rw [e0] at q; exact q.elim
  | exn c S1 => rw [e0] at q; exact q
  | ok x S0 =>
    rw [e0] at q
    intro G0 v H0 s0 R0 rv
    have E0 := RE.step s0
    cases x with
    | fn f =>
      obtain ⟨a, rfl, hfa⟩ := rv
      obtain ⟨fd, ps, np, hk, hb, F, hlen⟩ := M f a hfa
      refine ⟨a, fd, ps, _, rfl, F, hk, hb, G0, r, S0, R0, E0, ?_⟩
      have q : Post d W σ (RV d r σ H) G H Q ((ms r S0).bind fun xs S => cf f xs S) := q
      cases e1 : ms r S0 with
      | bad => rw [e1] at q; exact q.elim
      | exn c S1 => rw [e1] at q; exact fun x G2 H2 ex s2 R2 => q x G2 H2 ex (s0.trans s2) R2
      | ok xs S1 =>
        rw [e1] at q
        have q : Post d W σ (RV d r σ H) G H Q (cf f xs S1) := q
        intro G1 vs H1 s1 R1 ra
        have nb : cf f xs S1 ≠ .bad := fun z => by rw [z] at q; exact q
        refine ⟨by rw [← ra.length]; exact hlen _ _ nb, G1, xs, S1, R1, ra, ?_⟩
        cases e2 : cf f xs S1 with
        | bad => exact (nb e2).elim
        | exn c S2 => rw [e2] at q; exact fun x G2 H2 ex s2 R2 => q x G2 H2 ex ((s0.trans s1).trans s2) R2
        | ok t' S2 => rw [e2] at q; exact fun G2 v H2 s2 R2 rv => q G2 v H2 ((s0.trans s1).trans s2) R2 rv
    | _ => exact q.elim
theorem s_ifeN (hc : PT X e (tBo d W mc)) (ha : PE X a (tN d W ma)) (hb : PE X b (tN d W mb)) : PE X (.IfExp e a b pos) (tN d W (ifeM mc ma mb)) := by
  refine PE_imp (pe_ifExp hc ha hb) fun σ H Q ⟨G, r, S, RS, RE, q⟩ => ?_
  unfold ifeM at q
  rw [asB_eq] at q
  have low : ∀ {G1 : Gh} {H1 : Hp} {m : Res T}, Step G G1 H H1 → Post d W σ (RN d r σ H) G1 H1 Q m → Post d W σ (RN d r σ H1) G1 H1 Q m := fun {G1 H1 m} s1 h => by
    cases m with
    | ok t S' => exact fun G' v H' s R ⟨xs, e, x, vs, k1, k2, k3, k4, k5, k6, k7⟩ => h G' v H' s R ⟨xs, e, x, vs, k1, k2, k3, k4, k5, k6, s1.none k7⟩
    | exn c S' => exact h
    | bad => exact h
  refine ⟨G, r, S, RS, RE, q.bind fun c S1 G1 v H1 s1 R1 rv h1 => ?_⟩
  subst rv
  cases v with
  | true => exact iteT ⟨G1, r, S1, R1, RE.step s1, low s1 h1⟩
  | false => exact iteF ⟨G1, r, S1, R1, RE.step s1, low s1 h1⟩
end
end Hf
end

section
set_option Elab.async false
set_option linter.all false
set_option maxRecDepth 100000
set_option maxHeartbeats 4000000
/-! HfC7: how many unlike tuples of integers: len of a set comprehension. -/
namespace Hf
open PySem PySem.Spec PyProof.Rows L2
section
variable {X : Cx} {pins : List (Addr × Obj)} {σ : L2.St} {H : Hp} {s : Shared}
/-- one tuple more -/
theorem row_added {E : Value → Shared → Prop} {Q : Value → Shared → Prop} {D x : Addr} {k : List Int} {L : List (Addr × List Int)} (I : Inv X pins σ H s) (hD : H D = some (SetTO X.prog X.w D L))
    (hx : SqT X.K H x (k.map V.int)) (hL : ∀ p ∈ L, SqT X.K H p.1 (p.2.map V.int)) (few : L.length + 1 < 64) (un : X.A.units + 64 < cLine)
    (h : ∀ s' L', (k ∈ L.map (·.2) → L' = L) → (k ∉ L.map (·.2) → L'.Perm ((x, k) :: L)) → Inv X pins σ (upd H D (SetTO X.prog X.w D L')) s' → Q .none s') :
    wpAny (model X.prog X.w) X.A (PySem.call (.builtin "set.add") [.ref D, .ref x]) Q E s := by
  have z : SetT0 X.prog X.w s.heap D L := (I.hok D _ hD).1
  obtain ⟨es, ep, t, R⟩ := z.full fun p hp => I.isT (hL p hp)
  have hT : s.TypeIs (.ref D) "set" := by
    obtain ⟨o, ho, hex, _⟩ := R.ob
    exact ⟨o, ho, hex.1⟩
  refine wpAny_call_entry F.slot_set_add hT F.entry_set_add ?_ (F.args_set_add_2 _ _)
  unfold Builtin.«set.add» Builtin.Frozenset.oneOther
  simp only [List.isEmpty_nil, bind_assoc]
  unfold Builtin.Frozenset.addrOf setAdd
  refine wpAny_bind (wpAny_pure ?_)
  try dsimp only
  refine wpAny_bind (wpAny_pure ?_)
  try dsimp only
  refine wpAny_bind (wpAny_holding (wpAny_bind ?_))
  have kx := I.isT hx
  refine wpAny_pyHash_tuple (by simp; omega) kx ?_
  refine add_at (s := { s with toks := s.toks + (k.length + 1) }) R kx (by simp; omega) few fun b h' L' es' ep' t' sb R' c1 c2 => ?_
  show wpAny _ _ (ret Value.none) _ _ _
  have he : ∃ u, h'.get? D = some u := by
    obtain ⟨o, ho, _⟩ := R'.ob
    exact ⟨o, ho⟩
  exact wpAny_pure ⟨_, rfl, h _ L' c1 c2 (I.write (e := D) (t' := s.toks + (k.length + 1)) (by rw [hD]; trivial) (.inl rfl) (fun b u hb hu => (sb.2 b hb).trans hu) he (setTO_new R'.t0))⟩
end
section
variable {X : Cx}
/-- a set comprehension of tuples of integers -/
def tRows (K : PySem.W.Frag) (P : Program) (w : World) (wi : TI) (g : TG) (te : TE) (vs : List Nat) : TE := fun σ H Q => wi σ H fun J H1 => ∀ D, H1 D = none → ∃ Z : Nat → Nat → Hp → Prop, (∃ m, Z 0 m (upd H1 D (SetTO P w D []))) ∧
  ∀ i m H, Z i m H → (J.stop i H ∧ Q (.ref D) H) ∨ (J.go i H ∧ ∃ Nx : Hp → Prop, (∀ H', Nx H' → ∃ m', m' < m ∧ Z (i + 1) m' H') ∧
    ∀ x H', J.yld i H x H' → g x (L2.wipe σ vs) H' fun σ2 H2 => L2.wipe σ2 vs = L2.wipe σ vs ∧ te σ2 H2 fun y H4 => ∃ (a : Addr) (k : List Int) (L : List (Addr × List Int)), y = .ref a ∧ SqT K H4 a (k.map V.int) ∧
      H4 D = some (SetTO P w D L) ∧ L.length + 1 < 64 ∧ (∀ p ∈ L, SqT K H4 p.1 (p.2.map V.int)) ∧ ∀ L', (k ∈ L.map (·.2) → L' = L) → (k ∉ L.map (·.2) → L'.Perm ((a, k) :: L)) → Nx (upd H4 D (SetTO P w D L')))
theorem pe_rows {elt tg iter : Expr} {scope : Scope} {own : List (PySem.Str × Nat)} {pos : Pos} {wi : TI} {g : TG} {te : TE} (hc : X.calm = true) (un : X.A.units + 64 < cLine) (hN : X.N.Nodup) (hi : PI X tg iter wi) (ok : BlkOk X.N X.env.scope scope own)
    (hg : ∀ (s : Shared) (H : Hp) (C : Addr) (cl : List (PySem.Str × Addr)) (fp : List Addr), PG (X.blk s H scope (compEnvC scope cl C X.env) fp) tg g)
    (he : ∀ (s : Shared) (H : Hp) (C : Addr) (cl : List (PySem.Str × Addr)) (fp : List Addr), PE (X.blk s H scope (compEnvC scope cl C X.env) fp) elt te) (hs : ∀ x, foldedSetIterable iter X.env x = pure x) :
    PE X (.SetComp elt [⟨tg, iter, [], 0⟩] scope pos) (tRows X.K X.prog X.w wi g te (own.map (·.2))) := by
  refine ⟨fun pins s σ H Q I0 h => ?_⟩
  rw [PpSet.eval_SetComp]
  have caught : ∀ y ∈ scope.names, y.2 = .free → ∃ c, X.env.cells.lookup y.1 = some c := fun y hy e => (ok.free y hy e).elim (fun k => I0.ok.has _ (.inl k)) fun k => I0.ok.has _ (.inr k)
  refine wpAny_comprehension_free (use := none) rfl hs (closure_ok caught) ok.kind (fun y hy e => (ok.uniq y hy).trans (congrArg some e)) ?_
  refine thn (hi.run pins s σ H _ I0 h) fun xv sa ha => thn ha fun iv sb hb => ?_
  obtain ⟨it, fp, tn, J, Hb, ei, Ib, T, t0, fr, q⟩ := hb
  subst ei
  refine PpSet.newSet_ok (newEnv_comp ?_)
  obtain ⟨D, eD⟩ : ∃ D, D = sb.heap.objs.size := ⟨_, rfl⟩
  have nD : Hb D = none := Ib.hok.fresh (Nat.le_of_eq eD.symm)
  obtain ⟨Z, ⟨n0, z0⟩, turns⟩ := q D nD
  obtain ⟨hp, ep⟩ : ∃ hp : Heap, hp = sb.heap.push { cls := .type "set", dict := none, data := .set #[] 0 (.fresh 0 0 (!X.w.params.followText "set-order")) } := ⟨_, rfl⟩
  obtain ⟨sc, ec⟩ : ∃ sc : Shared, sc = { sb with heap := hp } := ⟨_, rfl⟩
  obtain ⟨Hc, eH⟩ : ∃ Hc : Hp, Hc = upd Hb D (SetTO X.prog X.w D []) := ⟨_, rfl⟩
  have hsc : sc.heap = hp := by rw [ec]
  have Ic : Inv X pins σ Hc sc := by
    rw [ec, eH]
    refine Ib.laid (t' := sb.toks) (fun b o e => by rw [ep]; exact Heap.get?_push_of_some _ e) (Nat.le_of_eq eD.symm) ?_
    exact setTO_new (setTR_fresh (by rw [ep, eD]; exact Heap.get?_push_size _ rfl)).t0
  have small : ∀ b ∈ fp, b < sb.heap.objs.size := fun b hb => by
    obtain ⟨o, e, _⟩ := T.obj _ _ t0 b hb
    exact Heap.lt_size e
  have fpc : ∀ b ∈ fp, FpOk X pins Hc b ∧ b < sc.heap.objs.size := fun b hb => by
    have hl := small b hb
    refine ⟨⟨?_, (fr b hb).2⟩, by rw [hsc, ep, Heap.size_push]; exact Nat.lt_succ_of_lt hl⟩
    rw [eH, upd_ne (by rw [eD]; exact Nat.ne_of_lt hl)]
    exact (fr b hb).1
  have tc : tn 0 sc.heap := T.keep _ _ _ t0 fun b _ o e => by rw [hsc, ep]; exact Heap.get?_push_of_some _ e
  have Id := block_start Ic ok hN fpc
  have pg := hg sc Hc sc.heap.objs.size (cellsFrom (sc.heap.objs.size + 1) scope.names (cloFrom X.env.cells scope.names [])) fp
  have pe := he sc Hc sc.heap.objs.size (cellsFrom (sc.heap.objs.size + 1) scope.names (cloFrom X.env.cells scope.names [])) fp
  rw [← eD, ← ep]
  show codeAny _ _ _ _ { sb with heap := pushCells (hp.push { cls := .type "dict", data := .dict #[] }) scope.names }
  have es : ({ sb with heap := pushCells (hp.push { cls := .type "dict", data := .dict #[] }) scope.names } : Shared) = { sc with heap := pushCells (sc.heap.push { cls := .type "dict", data := .dict #[] }) scope.names } := by rw [ec]
  have ez : (({ sb with heap := hp } : Shared).heap.objs.size) = sc.heap.objs.size := by rw [ec]
  show codeAny _ _ (.compStart (.SetComp elt [⟨tg, iter, [], 0⟩] scope pos) 0 (.ref it) (.ref D) (compEnvC scope (cellsFrom (hp.objs.size + 1) scope.names (cloFrom X.env.cells scope.names [])) hp.objs.size X.env)) (compPost (model X.prog X.w) X.A X.xe none _ (.ref D) hp.objs.size) _
  rw [es]
  rw [hsc] at Id pg pe ⊢
  have none_fp : ∀ b ∈ fp, Hc b = none := fun b hb => (fpc b hb).1.1
  obtain ⟨ce, ece⟩ : ∃ ce : PySem.Env, ce = compEnvC scope (cellsFrom (hp.objs.size + 1) scope.names (cloFrom X.env.cells scope.names [])) hp.objs.size X.env := ⟨_, rfl⟩
  have lce : ce.locals = hp.objs.size := by rw [ece]; rfl
  rw [← ece] at Id pg pe ⊢
  obtain ⟨sd, ed⟩ : ∃ sd : Shared, sd = { sc with heap := pushCells (hp.push { cls := .type "dict", data := .dict #[] }) scope.names } := ⟨_, rfl⟩
  rw [← ed] at Id ⊢
  have td : tn 0 sd.heap := T.keep _ _ _ tc fun b _ o e => by rw [ed]; rw [hsc] at e; exact pushCells_keeps _ _ _ _ (Heap.get?_push_of_some _ e)
  have free_fp : ∀ {σ' : L2.St} {H' : Hp} {s' : Shared}, Inv (X.blk sc Hc scope ce fp) [] σ' H' s' → (∀ b ∈ fp, H' b = none) → ∀ b ∈ fp, FpOk (X.blk sc Hc scope ce fp) [] H' b := fun {σ' H' s'} I' hn b hb =>
    ⟨hn b hb, (I'.ok.exf b hb).1, I'.ok.exfs b hb, .inl hb, fun x c e => (I'.ok.exf b hb).2 x c e, fun p hp => absurd (show p ∈ ([] : List (Addr × Obj)) ++ [] from hp) (by simp)⟩
  have all : codeAny (model X.prog X.w) X.A (.compLoop (.SetComp elt [⟨tg, iter, [], 0⟩] scope pos) 0 (.ref it) (.ref D) ce) (compPost (model X.prog X.w) X.A X.xe none (EP X pins σ Q) (.ref D) hp.objs.size) sd := by
    refine PpSet.compLoopS_any (fun n s' => ∃ i H', Inv (X.blk sc Hc scope ce fp) [] (L2.wipe σ (own.map (·.2))) H' s' ∧ tn i s'.heap ∧ (∀ b ∈ fp, H' b = none) ∧ Z i n H') ?_ n0 ⟨0, Hc, Id, td, none_fp, by rw [eH]; exact z0⟩
    rintro n s5 ⟨i, H5, I5, t5, f5, z5⟩
    rcases turns i n H5 z5 with ⟨stop, last⟩ | ⟨go, Nx, onto, step⟩
    · refine thnF (T.done (X.blk sc Hc scope ce fp) rfl rfl rfl hc i [] s5 _ H5 (fun _ _ => False) I5 (free_fp I5 f5) t5 stop) fun r s6 ⟨hr, I6⟩ => ?_
      subst hr
      have Iw : Inv X pins σ H5 s6 := Ic.call' (ch := fp) I6.os I6.base I6.hok I6.bare fun b hb => ⟨(fpc b hb).1.2.2.2.1, (fpc b hb).1.2.1, (fpc b hb).1.2.2.2.2.1, (fpc b hb).1.2.2.2.2.2⟩
      have nC : H5 hp.objs.size = none := by
        have u : H5 ce.locals = none := I6.free
        rwa [lce] at u
      obtain ⟨m, hn, _⟩ := I6.loc
      have hn : s6.heap.Ns ce.locals m := hn
      rw [lce] at hn
      obtain ⟨g0, g1, g2, g3, g4, g5⟩ := Ic.fpOk (Nat.le_of_eq (by rw [hsc])) nC
      exact ⟨m, hn, fun h'' sb' => ⟨.ref D, H5, Iw.turned (t' := s6.toks) (fun b o hb e => (sb'.2 b hb).trans e) g0 g1 g3 g4 g5, rfl, last⟩⟩
    · refine thnF (T.item (X.blk sc Hc scope ce fp) rfl rfl rfl hc i [] s5 _ H5 (fun _ _ => False) I5 (free_fp I5 f5) t5 go) fun r s6 ⟨u, hr, h6⟩ => ?_
      subst hr
      refine thnF h6 fun _ s7 ⟨x, H7, I7, r7, y7, t7, f7⟩ => ?_
      refine thnF (pg.run _ s7 _ H7 x u _ (I7.pinned (free_fp I7 f7) (T.obj _ _ t7)) r7 (step x H7 y7)) fun _ s8 ⟨σ8, H8, I8, w8, q8⟩ => ?_
      refine wpAny_tests_nil ?_
      simp only [if_true]
      refine thnF (pe.run _ s8 σ8 H8 _ I8 q8) fun v s9 ⟨yv, H9, I9, r9, a, k, L, ey, hx, hD, few, hL, nx⟩ => ?_
      subst ey
      cases (show v = Value.ref a from r9)
      refine row_added (X := X.blk sc Hc scope ce fp) I9 hD hx hL few un fun s10 L' c1 c2 I10 => ?_
      obtain ⟨m', hm, w'⟩ := onto _ (nx L' c1 c2)
      have pin' : ∀ b ∈ fp, ∀ o, s7.heap.get? b = some o → s10.heap.get? b = some o ∧ (upd H9 D (SetTO X.prog X.w D L')) b = none := fun b hb o e =>
        let z := I10.pin (b, o) (List.mem_append_right _ (List.mem_append_right _ (mem_pinsAt hb e)))
        ⟨z.1, z.2.1⟩
      refine ⟨m', hm, i + 1, _, (I10.unpinned (pins := [])).weak (by rw [← w8, wipe_length]) (fun j v e => ?_), T.keep _ _ _ t7 fun b hb o e => (pin' b hb o e).1, fun b hb => ?_, w'⟩
      · rw [← w8] at e
        exact (wipe_some e).1
      · obtain ⟨o, e, _⟩ := T.obj _ _ t7 b hb
        exact (pin' b hb o e).2
  exact PpSet.codeAny_compStart_set all (T.self X.A 0 _ _ _ td all)
end
end Hf
end

section
set_option Elab.async false
set_option linter.all false
set_option maxRecDepth 100000
set_option maxHeartbeats 4000000
/-! HfC8: len of a set comprehension, by trees. -/
namespace Hf
open PySem PySem.Spec PyProof.Rows L2
def rowT (k : List Int) : T := .tup (k.map .int)
theorem ints_back : ∀ {xs : List T} {k : List Int}, intsOf xs = some k → xs = k.map .int
  | [], k, h => by simp only [intsOf, Option.some.injEq] at h; subst h; rfl
  | x :: xs, k, h => by
    cases x <;> simp only [intsOf] at h <;> try contradiction
    cases e : intsOf xs with
    | none => rw [e] at h; cases h
    | some r => rw [e] at h; cases h; rw [ints_back e]; rfl
theorem row_back {x : T} {k : List Int} (h : rowI? x = some k) : x = rowT k := by
  cases x <;> simp only [rowI?] at h <;> try contradiction
  rw [ints_back h]; rfl
theorem reps_row {d : D} {G : Gh} : ∀ {k : List Int} {vs : List V}, RepAll d G (k.map .int) vs → vs = k.map V.int
  | [], [], _ => rfl
  | [], _ :: _, h => h.elim
  | _ :: _, [], h => h.elim
  | i :: k, v :: vs, h => by
    have e : v = .int i := h.1
    rw [e, reps_row h.2]; rfl
theorem eqv_ints : ∀ a b : List Int, T.eqvAll (a.map .int) (b.map .int) = decide (a = b)
  | [], [] => by simp [T.eqvAll]
  | [], _ :: _ => by simp [T.eqvAll]
  | _ :: _, [] => by simp [T.eqvAll]
  | x :: a, y :: b => by simp [T.eqvAll, T.eqv, eqv_ints a b, Bool.beq_eq_decide_eq]
theorem eqv_row (a b : List Int) : T.eqv (rowT a) (rowT b) = decide (a = b) := by simp [rowT, T.eqv, eqv_ints]
theorem unlike_rows : ∀ (ks N : List (List Int)), N.Nodup → (∀ k, k ∈ N ↔ k ∈ ks) → unlike (ks.map rowT) = N.length
  | [], N, _, h => by
    cases N with
    | nil => rfl
    | cons k N => exact absurd ((h k).mp List.mem_cons_self) (by simp)
  | k :: ks, N, nd, h => by
    simp only [List.map_cons, unlike]
    have ea : ((ks.map rowT).any fun y => T.eqv y (rowT k)) = decide (k ∈ ks) := by
      rw [List.any_map, Bool.eq_iff_iff]
      simp only [List.any_eq_true, Function.comp, eqv_row, decide_eq_true_eq]
      constructor
      · rintro ⟨x, hx, rfl⟩; exact hx
      · intro hx; exact ⟨k, hx, rfl⟩
    rw [ea]
    by_cases hk : k ∈ ks
    · rw [unlike_rows ks N nd fun x => by rw [h x, List.mem_cons]; exact ⟨fun q => q.elim (fun e => e ▸ hk) id, .inr⟩]
      simp [hk]
    · have hm : k ∈ N := (h k).mpr List.mem_cons_self
      have := List.length_erase_of_mem hm
      have hp : 0 < N.length := List.length_pos_of_mem hm
      rw [unlike_rows ks (N.erase k) (nd.erase k) fun x => by
        rw [nd.mem_erase_iff, h x, List.mem_cons]
        constructor
        · rintro ⟨a, b | b⟩
          · exact absurd b a
          · exact b
        · exact fun b => ⟨fun e => hk (e ▸ b), .inr b⟩]
      simp [hk]
      omega
theorem loop_calm {g : Store → Bool} {f : T → Store → Res (Option T)} : ∀ {xs : List T} {S : Store} {c : Nat} {S' : Store}, compLoop g f xs S ≠ .exn c S'
  | [], S, c, S', h => by simp only [compLoop] at h; cases h
  | x :: xs, S, c, S', h => by
    simp only [compLoop] at h
    cases e : f x S with
    | bad => rw [e] at h; cases h
    | exn c S1 => rw [e] at h; cases h
    | ok o S1 =>
      rw [e] at h
      simp only at h
      split at h
      · cases e2 : compLoop g f xs S1 with
        | bad => rw [e2] at h; cases h
        | exn c S2 => exact loop_calm e2
        | ok zs S2 => rw [e2] at h; cases h
      · cases h
section
variable {X : Cx}
/-- len of it -/
def tLenRows (K : PySem.W.Frag) (P : Program) (w : World) (ts : TE) : TE := fun σ H Q => ts σ H fun x H1 => ∃ (D : Addr) (L : List (Addr × List Int)), x = .ref D ∧ H1 D = some (SetTO P w D L) ∧ (∀ p ∈ L, SqT K H1 p.1 (p.2.map V.int)) ∧ Q (.int L.length) H1
theorem pe_lenRows {e : Expr} {ts : TE} {p pos : Pos} (hg : Gl X "len") (hm : X.mg "len" = none) (he : PE X e ts) (na : starEach [e] X.env = (false, eval e X.env) :: starEach [] X.env) : PE X (.Call (.Name "len" p) [e] [] pos) (tLenRows X.K X.prog X.w ts) := by
  refine ⟨fun pins s σ H Q I h => Call_ (ld_blt I hg hm PySem.boot_len ?_)⟩
  refine PyProof.Rows.callWith_builtin1 (PyProof.Rows.args_cons (thn (he.run pins s σ H _ I h) fun v s1 ⟨x, H1, I1, r1, D, L, ex, hD, hL, q⟩ => PyProof.Rows.args_nil ?_) na) na rfl
  subst ex
  cases (show v = Value.ref D from r1)
  have z : SetT0 X.prog X.w s1.heap D L := (I1.hok D _ hD).1
  obtain ⟨es, ep, t, R⟩ := z.full fun p hp => I1.isT (hL p hp)
  obtain ⟨o, ho, hex, hd⟩ := R.ob
  have hz := R.size
  have hf := R.few
  exact call_len_set ho hex hd R.fits (by rw [hz]; omega) ⟨.int L.length, H1, I1.tok _, ⟨_, by rw [hz]⟩, q⟩
end
section
variable {X : Cx} {d : D} {W : WX} {tgE itE elt : Expr} {scope : Scope} {pos spos p : Pos} {tg : Tg} {mi : Env → Store → Res (T × List T)} {me : Env → Store → Res T}
def setlenM (tg : Tg) (mi : Env → Store → Res (T × List T)) (me : Env → Store → Res T) : Env → Store → Res T := fun r S => (mi r S).bind fun p S =>
  (compLoop (still p.1 p.2) (compF tg (fun _ S => .ok true S) me r) p.2 S).bind fun ys S => if rowsI ys = true then .ok (.int (unlike ys)) S else .bad
theorem rows_imp (hK : d.K = X.K) (hmi : ∀ r S p S', mi r S = .ok p S' → Still p.1 p.2 S') {σ : L2.St} {H : Hp} {Q : VK} (hw : tE d W (setlenM tg mi me) σ H Q) :
    tLenRows X.K X.prog X.w (tRows X.K X.prog X.w (tIt d W mi) (tBind X.K tg) (tE d W0 me) tg.slots) σ H Q := by
  obtain ⟨G, r, S, RS, RE, q⟩ := hw
  refine ⟨G, r, S, RS, RE, Post.bind0 q fun p S1 e1 q1 G1 J H1 s1 R1 wk => fun Dd hD => ?_⟩
  obtain ⟨Pv, hPv⟩ : ∃ Pv : Nat → Hp → Prop, Pv = fun i H' => ∃ (G' : Gh) (S' : Store) (L : List (Addr × List Int)) (ks : List (List Int)), Step G1 G' H1 H' ∧ RepS d G' S' H' ∧ Still p.1 p.2 S' ∧ H' Dd = some (SetTO X.prog X.w Dd L) ∧ (L.map (·.2)).Nodup ∧ (∀ k, k ∈ L.map (·.2) ↔ k ∈ ks) ∧ L.length ≤ ks.length ∧ (∀ p ∈ L, RepV d G' (rowT p.2) (.ref p.1)) ∧ G'.I Dd = none ∧ Dd ∉ G'.mu ∧
      Post d W σ (RV d r σ H) G H Q ((compLoop (still p.1 p.2) (compF tg (fun _ S => .ok true S) me r) (p.2.drop i) S').bind fun ys S => if rowsI (ks.map rowT ++ ys) = true then .ok (.int (unlike (ks.map rowT ++ ys))) S else .bad) := ⟨_, rfl⟩
  have hI1 : G1.I Dd = none := by
    cases k : G1.I Dd with
    | none => rfl
    | some o =>
      have := R1.imm _ _ k
      rw [hD] at this; cases this
  have hm1 : Dd ∉ G1.mu := fun k => by
    obtain ⟨vs, e⟩ := R1.le_cell k
    rw [hD] at e; cases e
  have sq : ∀ {G' : Gh} {S' : Store} {H' : Hp} {a : Addr} {k : List Int}, RepS d G' S' H' → RepV d G' (rowT k) (.ref a) → SqT X.K H' a (k.map V.int) := fun {G' S' H' a k} R' rv => by
    obtain ⟨a', vs, e, q, z, ra⟩ := rv
    cases e
    rw [reps_row ra] at q
    exact hK ▸ R'.sqT q
  refine ⟨fun i m H' => m = p.2.length - i ∧ i ≤ p.2.length ∧ Pv i H', ⟨p.2.length, by simp, Nat.zero_le _, ?_⟩, ?_⟩
  · rw [hPv]
    exact ⟨G1, S1, [], [], Step.lay hD, R1.lay hD, hmi _ _ _ _ e1, upd_same, List.nodup_nil, fun _ => Iff.rfl, Nat.le_refl _, fun _ h => (nomatch h), hI1, hm1, q1⟩
  · rintro i m H' ⟨rfl, hi', hp⟩
    rw [hPv] at hp
    obtain ⟨G', S', L, ks, s', R', st, hA, nd, hmem, hle, hL, hI, hm, q⟩ := hp
    by_cases hlt : i < p.2.length
    · refine .inr ⟨wk.go G' S' H' s' R' st i hlt, Pv (i + 1), fun H'' h => ⟨p.2.length - (i + 1), by omega, rfl, hlt, h⟩, fun x H'' y => ?_⟩
      obtain ⟨t, G2, ht, s2, R2, rv⟩ := wk.yld G' S' H' s' R' st i x H'' hlt y
      have E2 : RepE d G2 (wipeE r tg.slots) (L2.wipe σ tg.slots) H'' := RepE.wipe (((RE.step s1).step s').step s2) _
      have ed : p.2.drop i = t :: p.2.drop (i + 1) := by
        rw [List.drop_eq_getElem_cons hlt]
        rw [List.getElem?_eq_getElem hlt] at ht
        rw [Option.some.inj ht]
      rw [ed] at q
      unfold compLoop at q
      cases eb : bindT tg t (wipeE r tg.slots) with
      | none =>
        have ef : compF tg (fun _ S => .ok true S) me r t S' = .bad := by unfold compF; rw [eb]
        rw [ef] at q; exact q.elim
      | some r' =>
        have ef : compF tg (fun _ S => .ok true S) me r t S' = (me r' S').bind fun y S => .ok (some y) S := by
          unfold compF; rw [eb]; rfl
        rw [ef] at q
        refine bind_rep hK R2 E2 rv eb fun σ2 E3 hw _ => ⟨by rw [hw tg.slots fun _ h => h, wipe_wipe], G2, r', S', R2, E3, ?_⟩
        cases e2 : me r' S' with
        | bad => rw [e2] at q; exact q.elim
        | exn c S4 => rw [e2] at q; exact q.elim
        | ok y S4 =>
          rw [e2] at q
          intro G4 yv H4 s4 R4 ry
          have q : Post d W σ (RV d r σ H) G H Q ((if still p.1 p.2 S4 = true then (compLoop (still p.1 p.2) (compF tg (fun _ S => .ok true S) me r) (p.2.drop (i + 1)) S4).bind fun ys S'' => .ok (y :: ys) S'' else .bad).bind fun ys S => if rowsI (ks.map rowT ++ ys) = true then .ok (.int (unlike (ks.map rowT ++ ys))) S else .bad) := q
          split at q <;> try exact q.elim
          rename_i hst
          cases e5 : compLoop (still p.1 p.2) (compF tg (fun _ S => .ok true S) me r) (p.2.drop (i + 1)) S4 with
          | bad => rw [e5] at q; exact q.elim
          | exn c S5 => exact absurd e5 loop_calm
          | ok zs S5 =>
            rw [e5] at q
            have q : Post d W σ (RV d r σ H) G H Q (if rowsI (ks.map rowT ++ y :: zs) = true then .ok (.int (unlike (ks.map rowT ++ y :: zs))) S5 else .bad) := q
            split at q <;> try exact q.elim
            rename_i hr
            have hr0 := hr
            simp only [rowsI, Bool.and_eq_true, decide_eq_true_eq, List.all_append, List.all_cons, List.length_append, List.length_map, List.length_cons] at hr
            obtain ⟨hlen, _, hy, _⟩ := hr
            obtain ⟨k, ek⟩ := Option.isSome_iff_exists.mp hy
            have ey := row_back ek
            subst ey
            have st4 := s2.trans s4
            have hI4 := st4.offI hA hI
            have hm4 := st4.offM hA hm
            have hL4 : ∀ p ∈ L, RepV d G4 (rowT p.2) (.ref p.1) := fun p hp => RepV.le st4.le _ (hL p hp)
            have ry0 : RepV d G4 (rowT k) yv := ry
            obtain ⟨a, vs, ea, _⟩ := ry
            subst ea
            refine ⟨a, k, L, rfl, sq R4 ry0, st4.keep _ _ hA hm, by omega, fun p hp => sq R4 (hL4 p hp), fun L' c1 c2 => ?_⟩
            rw [hPv]
            have q2 : Post d W σ (RV d r σ H) G H Q ((compLoop (still p.1 p.2) (compF tg (fun _ S => .ok true S) me r) (p.2.drop (i + 1)) S4).bind fun ys S => if rowsI ((ks ++ [k]).map rowT ++ ys) = true then .ok (.int (unlike ((ks ++ [k]).map rowT ++ ys))) S else .bad) := by
              rw [e5]
              show Post d W σ (RV d r σ H) G H Q (if rowsI ((ks ++ [k]).map rowT ++ zs) = true then .ok (.int (unlike ((ks ++ [k]).map rowT ++ zs))) S5 else .bad)
              have e6 : (ks ++ [k]).map rowT ++ zs = ks.map rowT ++ rowT k :: zs := by simp
              rw [e6, if_pos hr0]
              exact q
            by_cases hk : k ∈ L.map (·.2)
            · rw [c1 hk]
              refine ⟨G4, S4, L, ks ++ [k], (s'.trans st4).poke hD, R4.poke hI4 hm4, still_of hst, upd_same, nd, fun x => ?_, by simp; omega, hL4, hI4, hm4, q2⟩
              rw [hmem x, List.mem_append, List.mem_singleton]
              exact ⟨.inl, fun h => h.elim id fun e => e ▸ (hmem k).mp hk⟩
            · have pm := c2 hk
              have pm2 := pm.map (·.2)
              refine ⟨G4, S4, L', ks ++ [k], (s'.trans st4).poke hD, R4.poke hI4 hm4, still_of hst, upd_same, (pm2.nodup_iff).mpr (List.nodup_cons.mpr ⟨hk, nd⟩), fun x => ?_, by rw [pm.length_eq]; simp; omega, fun p hp => ?_, hI4, hm4, q2⟩
              · rw [pm2.mem_iff, List.map_cons, List.mem_cons, hmem x, List.mem_append, List.mem_singleton]
                exact ⟨fun h => h.elim .inr .inl, fun h => h.elim .inr .inl⟩
              · rcases List.mem_cons.mp (pm.mem_iff.mp hp) with e | e
                · rw [e]; exact ry0
                · exact hL4 p e
    · have ei : i = p.2.length := by omega
      subst ei
      refine .inl ⟨wk.stop G' S' H' s' R' st, Dd, L, rfl, hA, fun p hp => sq R' (hL p hp), ?_⟩
      rw [List.drop_length] at q
      have q : Post d W σ (RV d r σ H) G H Q (if rowsI (ks.map rowT ++ []) = true then .ok (.int (unlike (ks.map rowT ++ []))) S' else .bad) := q
      split at q <;> try exact q.elim
      rw [List.append_nil, unlike_rows ks (L.map (·.2)) nd hmem, List.length_map] at q
      exact q G' _ H' (s1.trans s') R' rfl
theorem s_setlen (hK : d.K = X.K) (hc : X.calm = true) (un : X.A.units + 64 < cLine) (hN : X.N.Nodup) {own : List (PySem.Str × Nat)} (ho : own.map (·.2) = tg.slots) (hmi : ∀ r S p S', mi r S = .ok p S' → Still p.1 p.2 S') (hgl : Gl X "len") (hm : X.mg "len" = none)
    (hi : PI X tgE itE (tIt d W mi)) (ok : BlkOk X.N X.env.scope scope own)
    (hg : ∀ (s : Shared) (H : Hp) (C : Addr) (cl : List (PySem.Str × Addr)) (fp : List Addr), PG (X.blk s H scope (compEnvC scope cl C X.env) fp) tgE (tBind X.K tg))
    (he : ∀ (s : Shared) (H : Hp) (C : Addr) (cl : List (PySem.Str × Addr)) (fp : List Addr), PE (X.blk s H scope (compEnvC scope cl C X.env) fp) elt (tE d W0 me)) (hs : ∀ x, foldedSetIterable itE X.env x = pure x) :
    PE X (.Call (.Name "len" p) [.SetComp elt [⟨tgE, itE, [], 0⟩] scope spos] [] pos) (tE d W (setlenM tg mi me)) := by
  refine PE_imp (pe_lenRows hgl hm (pe_rows hc un hN hi ok hg he hs) rfl) fun σ H Q hw => ?_
  rw [ho]
  exact rows_imp hK hmi hw
end
end Hf
end

section
set_option Elab.async false
set_option linter.all false
set_option maxRecDepth 100000
set_option maxHeartbeats 4000000
/-! HfS17: is this text this small syntax? the expressions. -/
namespace Hf
open PySem PySem.Spec PyProof.Rows L2
inductive Bnd where
  | fn (f np : Nat)
  | val (t : T)
  | exc (c : Nat)
  | cls (c np : Nat)
/-- what is told of the global names -/
structure Gam where
  names : List (PySem.Str × Bnd)
  free : List PySem.Str
  attrs : List (Nat × PySem.Str)
  meths : List (Nat × PySem.Str)
def glC (sc : Scope) (x : PySem.Str) : Bool := decide (sc.names.lookup x = some .globalImplicit) && !(x == ("__debug__" : PySem.Str)) && !(x == ("__classdict__" : PySem.Str))
def visC (sc : Scope) (x : PySem.Str) : Bool := (match sc.names.lookup x with
  | some .local => true
  | some .cell => true
  | some .free => true
  | _ => false) && !(x == ("__debug__" : PySem.Str)) && !(x == ("__classdict__" : PySem.Str))
def blt (Γ : Gam) (sc : Scope) (x : PySem.Str) : Bool := glC sc x && Γ.free.contains x
def constC (t : T) (e : Expr) : Bool := match e with
  | .Constant c _ _ => (match t with
    | .non => decide (c = .none)
    | .bl b => decide (c = .bool b)
    | .int i => decide (c = .int i)
    | .str s => decide (c = .str (sk s)) && decide (s.length ≤ 16777216) && s.all fun k => decide (k < 0x110000)
    | _ => false)
  | _ => false
def nameC (N : List PySem.Str) (sc : Scope) (i : Nat) (e : Expr) : Bool := match e with
  | .Name x _ => decide (N[i]? = some x) && visC sc x
  | _ => false
def Op2.ast : Op2 → Operator
  | .add => .Add | .sub => .Sub | .mul => .Mult | .mod => .Mod | .fdiv => .FloorDiv
def opC (o : Op2) (p : Operator) : Bool := decide (p = o.ast)
/-- a store of a name -/
def locC (N : List PySem.Str) (sc raw : Scope) (i : Nat) (e : Expr) : Bool := match e with
  | .Name x _ => decide (N[i]? = some x) && (match sc.names.lookup x with
    | some .local => true
    | some .cell => decide (raw.names.lookup x = some .cell)
    | _ => false)
  | _ => false
def locsC (N : List PySem.Str) (sc raw : Scope) : List Nat → List Expr → Bool
  | [], [] => true
  | i :: is, e :: es => locC N sc raw i e && locsC N sc raw is es
  | _, _ => false
def tgC (N : List PySem.Str) (sc raw : Scope) (tg : Tg) (e : Expr) : Bool := match tg with
  | .n i => locC N sc raw i e
  | .t is => (match e with
    | .Tuple es _ _ => locsC N sc raw is es
    | _ => false)
def ownOf (N : List PySem.Str) (tg : Tg) : List (PySem.Str × Nat) := tg.slots.map fun i => (N[i]?.getD "", i)
def isTupTg (e : Expr) : Bool := match e with
  | .Tuple _ _ _ => true
  | _ => false
def keysC : List T → List (Option Expr) → Bool
  | [], [] => true
  | .str s :: ks, some k :: es => constC (.str s) k && keysC ks es
  | _, _ => false
def valsC : List E → List Expr → Bool
  | [], [] => true
  | .k t :: ts, e :: es => constC t e && valsC ts es
  | _, _ => false
def keyNats : List T → List (List Nat)
  | .str s :: ks => s :: keyNats ks
  | _ => []
def chkT : Expr → Bool
  | .IfExp _ _ _ _ => false
  | _ => true
def isV : E → Bool
  | .v _ => true
  | _ => false
def isNew : E → Bool
  | .disp _ => true
  | .comp _ _ _ => true
  | .compI _ _ _ _ => true
  | .lof _ => true
  | .lrng _ => true
  | .sorted _ => true
  | .cat _ _ => true
  | .rep _ _ => true
  | _ => false
section
variable (Γ : Gam) (N : List PySem.Str)
mutual
def chkE : Option Bool → Bool → Scope → E → Expr → Bool
  | _, _, _, .k t, e => constC t e
  | _, _, sc, .v i, e => nameC N sc i e
  | _, _, sc, .g _ t, e => (match e with
    | .Name x _ => glC sc x && (match Γ.names.lookup x with
      | some (.val u) => T.beq t u
      | _ => false)
    | _ => false)
  | _, h, sc, .tup es, e => (match e with
    | .Tuple l _ _ => l.all noStar && decide (l.length ≤ 1000) && chkEs h sc es l
    | _ => false)
  | _, h, sc, .disp es, e => (match e with
    | .List l _ => l.all noStar && decide (l.length ≤ 1000) && chkEs h sc es l
    | _ => false)
  | _, h, sc, .comp elt tg it, e => (match e with
    | .ListComp el [⟨tgE, itE, [], 0⟩] scope _ => !h && noSet itE && chkE (some (isTupTg tgE)) false sc it itE && blkC N sc scope (ownOf N tg) && tgC N (relS scope sc) scope tg tgE && chkE none false (relS scope sc) elt el
    | _ => false)
  | _, h, sc, .compI elt tg it t, e => (match e with
    | .ListComp el [⟨tgE, itE, [c], 0⟩] scope _ => !h && noSet itE && chkE (some (isTupTg tgE)) false sc it itE && blkC N sc scope (ownOf N tg) && tgC N (relS scope sc) scope tg tgE && chkE none false (relS scope sc) elt el && chkT c && chkE none false (relS scope sc) t c
    | _ => false)
  | _, h, sc, .comp2 elt tg it tg2 it2, e => (match e with
    | .ListComp el [⟨tgE, itE, [], 0⟩, ⟨tgE2, itE2, [], 0⟩] scope _ => !h && noSet itE && noSet itE2 && !(isV it2) && chkE (some (isTupTg tgE)) false sc it itE && blkC N sc scope (ownOf N tg ++ ownOf N tg2) && tgC N (relS scope sc) scope tg tgE && chkE none false (relS scope sc) it2 itE2 && tgC N (relS scope sc) scope tg2 tgE2 && chkE none false (relS scope sc) elt el
    | _ => false)
  | _, h, sc, .setlen elt tg it, e => (match e with
    | .Call (.Name x _) [.SetComp el [⟨tgE, itE, [], 0⟩] scope _] [] _ => !h && decide (x = "len") && blt Γ sc x && noSet itE && chkE (some (isTupTg tgE)) false sc it itE && blkC N sc scope (ownOf N tg) && tgC N (relS scope sc) scope tg tgE && chkE none false (relS scope sc) elt el
    | _ => false)
  | _, h, sc, .lof a, e => (match e with
    | .Call (.Name x _) [b] [] _ => decide (x = "list") && blt Γ sc x && noStar b && chkE none h sc a b
    | _ => false)
  | _, h, sc, .tof a, e => (match e with
    | .Call (.Name x _) [b] [] _ => decide (x = "tuple") && blt Γ sc x && noStar b && chkE none h sc a b
    | _ => false)
  | _, h, sc, .sorted a, e => (match e with
    | .Call (.Name x _) [b] [] _ => decide (x = "sorted") && blt Γ sc x && noStar b && chkE none h sc a b
    | _ => false)
  | _, h, sc, .lrng a, e => (match e with
    | .Call (.Name x _) [.Call (.Name y _) [b] [] _] [] _ => !h && decide (x = "list") && blt Γ sc x && decide (y = "range") && blt Γ sc y && noStar b && chkE none h sc a b
    | _ => false)
  | _, h, sc, .trng a, e => (match e with
    | .Call (.Name x _) [.Call (.Name y _) [b] [] _] [] _ => !h && decide (x = "tuple") && blt Γ sc x && decide (y = "range") && blt Γ sc y && noStar b && chkE none h sc a b
    | _ => false)
  | _, h, sc, .sub a i, e => (match e with
    | .Subscript b j _ => noSlice j && chkE none h sc a b && chkE none h sc i j
    | _ => false)
  | _, h, sc, .slice a l u, e => (match e with
    | .Subscript b (.Slice (some x) (some y) none _) _ => chkE none h sc a b && chkE none h sc l x && chkE none h sc u y
    | _ => false)
  | _, h, sc, .sliceL a l, e => (match e with
    | .Subscript b (.Slice (some x) none none _) _ => chkE none h sc a b && chkE none h sc l x
    | _ => false)
  | _, h, sc, .sliceR a u, e => (match e with
    | .Subscript b (.Slice none (some y) none _) _ => chkE none h sc a b && chkE none h sc u y
    | _ => false)
  | _, h, sc, .op o a b, e => (match e with
    | .BinOp x p y _ => opC o p && chkE none h sc a x && chkE none h sc b y
    | _ => false)
  | _, h, sc, .cat a b, e => (match e with
    | .BinOp x .Add y _ => chkE none h sc a x && chkE none h sc b y
    | _ => false)
  | _, h, sc, .rep a b, e => (match e with
    | .BinOp x .Mult y _ => chkE none h sc a x && chkE none h sc b y
    | _ => false)
  | _, h, sc, .neg a, e => (match e with
    | .UnaryOp .USub x _ => chkE none h sc a x
    | _ => false)
  | _, h, sc, .cmp c a b, e => (match e with
    | .Compare x [p] [y] _ => decide (p = c.ast) && noSet y && chkE none h sc a x && chkE none h sc b y
    | _ => false)
  | _, h, sc, .chain c c' a b z, e => (match e with
    | .Compare x [p, p'] [y, u] _ => decide (p = c.ast) && decide (p' = c'.ast) && noSet u && chkE none h sc a x && chkE none h sc b y && chkE none h sc z u
    | _ => false)
  | _, h, sc, .isK n a t, e => (match e with
    | .Compare x [p] [y] _ => decide (p = isAst n) && (kV' t).isSome && constC t y && chkE none h sc a x
    | _ => false)
  | _, h, sc, .and a b, e => (match e with
    | .BoolOp .And [x, y] _ => chkT x && chkT y && chkE none h sc a x && chkE none h sc b y
    | .BoolOp .And (x :: y :: z :: r) p => chkT x && chkE none h sc a x && chkE none h sc b (.BoolOp .And (y :: z :: r) p)
    | _ => false)
  | _, h, sc, .or a b, e => (match e with
    | .BoolOp .Or [x, y] _ => chkT x && chkT y && chkE none h sc a x && chkE none h sc b y
    | .BoolOp .Or (x :: y :: z :: r) p => chkT x && chkE none h sc a x && chkE none h sc b (.BoolOp .Or (y :: z :: r) p)
    | _ => false)
  | _, h, sc, .not a, e => (match e with
    | .UnaryOp .Not x _ => chkT x && chkE none h sc a x
    | _ => false)
  | _, h, sc, .ife c a b, e => (match e with
    | .IfExp t x y _ => chkT t && chkE none h sc c t && chkE none h sc a x && chkE none h sc b y
    | _ => false)
  | _, h, sc, .call f es, e => (match e with
    | .Call (.Name x _) l [] _ => !h && l.all noStar && glC sc x && (match Γ.names.lookup x with
      | some (.fn g np) => decide (g = f) && decide (np = es.length)
      | _ => false) && chkEs h sc es l
    | _ => false)
  | _, h, sc, .bi b es, e => (match e with
    | .Call (.Name x _) (y :: l) [] _ => !h && decide (x = PySem.Str.ofString b.nm) && blt Γ sc x && noStar y && l.all noStar && chkEs h sc es (y :: l)
    | _ => false)
  | _, h, sc, .isi a ty, e => (match e with
    | .Call (.Name x _) [y, .Name z _] [] _ => decide (x = "isinstance") && blt Γ sc x && noStar y && decide (z = PySem.Str.ofString ty.nm) && blt Γ sc z && chkE none h sc a y
    | _ => false)
  | _, h, sc, .isi2 a ty ty2, e => (match e with
    | .Call (.Name x _) [y, .Tuple [.Name z _, .Name u _] _ _] [] _ => decide (x = "isinstance") && blt Γ sc x && noStar y && decide (z = PySem.Str.ofString ty.nm) && blt Γ sc z && decide (u = PySem.Str.ofString ty2.nm) && blt Γ sc u && chkE none h sc a y
    | _ => false)
  | _, _, sc, .isx i c, e => (match e with
    | .Call (.Name x _) [y, .Name z _] [] _ => decide (x = "isinstance") && blt Γ sc x && nameC N sc i y && glC sc z && (match Γ.names.lookup z with
      | some (.exc c') => decide (c' = c)
      | _ => false)
    | _ => false)
  | _, h, sc, .cell a, e => isNew a && chkE none h sc a e
  | _, h, sc, .index a b, e => (match e with
    | .Call (.Attribute o m ap) [y] [] p => decide (m = "index") && noCall o && noStar y && (ap.endLine == p.line) && chkE none h sc a o && chkE none h sc b y
    | _ => false)
  | _, h, sc, .join a, e => (match e with
    | .Call (.Attribute (.Constant (.str q) _ _) m ap) [y] [] p => decide (q = sk []) && decide (m = "join") && noStar y && (ap.endLine == p.line) && chkE none h sc a y
    | _ => false)
  | _, _, _, .dict ks es, e => (match e with
    | .Dict keys values _ => keysC ks keys && valsC es values && decide (keys.length = values.length) && decide (0 < keys.length) && decide (keys.length ≤ 15) && decide (keyNats ks).Nodup
    | _ => false)
  | md, h, sc, .rng a, e => (match e with
    | .Call (.Name x _) [b] [] _ => md.isSome && decide (x = "range") && blt Γ sc x && noStar b && chkE none h sc a b
    | _ => false)
  | md, h, sc, .rng2 a b, e => (match e with
    | .Call (.Name x _) [y, z] [] _ => md.isSome && decide (x = "range") && blt Γ sc x && noStar y && noStar z && chkE none h sc a y && chkE none h sc b z
    | _ => false)
  | md, h, sc, .enum a, e => (match e with
    | .Call (.Name x _) [y] [] _ => decide (md = some true) && decide (x = "enumerate") && blt Γ sc x && noStar y && chkE none h sc a y
    | _ => false)
  | _, _, sc, .f _ f, e => (match e with
    | .Name x _ => glC sc x && (match Γ.names.lookup x with
      | some (.fn g _) => decide (g = f)
      | _ => false)
    | _ => false)
  | _, h, sc, .callV a es, e => (match a with
    | .v i => (match e with
      | .Call (.Name x p) (y :: l) [] _ => !h && nameC N sc i (.Name x p) && noStar y && l.all noStar && chkEs h sc es (y :: l)
      | _ => false)
    | .sub _ _ => (match e with
      | .Call (.Subscript o j p) (y :: l) [] _ => !h && noStar y && l.all noStar && chkE none h sc a (.Subscript o j p) && chkEs h sc es (y :: l)
      | _ => false)
    | _ => false)
  | _, h, sc, .meth m a es, e => (match e with
    | .Call (.Attribute o mm ap) (y :: l) [] p => !h && decide (Γ.meths.lookup m = some mm) && noCall o && noStar y && l.all noStar && decide (l.length < 20) && (ap.endLine == p.line) && chkE none h sc a o && chkEs h sc es (y :: l)
    | _ => false)
  | _, h, sc, .mk c es, e => (match e with
    | .Call (.Name x _) (y :: l) [] _ => !h && glC sc x && (match Γ.names.lookup x with
      | some (.cls c' _) => decide (c' = c)
      | _ => false) && noStar y && l.all noStar && chkEs h sc es (y :: l)
    | _ => false)
  | _, h, sc, .attr a f, e => (match e with
    | .Attribute o m _ => noCall o && decide (Γ.attrs.lookup f = some m) && chkE none h sc a o
    | _ => false)
def chkEs : Bool → Scope → List E → List Expr → Bool
  | _, _, [], [] => true
  | h, sc, e :: es, x :: xs => chkE none h sc e x && chkEs h sc es xs
  | _, _, _, _ => false
end
theorem chkE_k (md : Option Bool) (h : Bool) (sc : Scope) (t : T) (e : Expr) : chkE Γ N md h sc (.k t) e = constC t e := by simp only [chkE]
theorem chkEs_nil (h : Bool) (sc : Scope) : chkEs Γ N h sc [] [] = true := by simp only [chkEs]
end
end Hf
end

section
set_option Elab.async false
set_option linter.all false
set_option maxRecDepth 100000
set_option maxHeartbeats 4000000
/-! HfS18: the expressions keep what the evaluator says. -/
namespace Hf
open PySem PySem.Spec PyProof.Rows L2
/-- what the layer knows of an error's class, to raise it -/
def RaiseOk (X : Cx) (x : PySem.Str) (C : Addr) : Prop := ∃ (bmB : List Value) (B newId initId : String), ExcBaseFacts B newId initId bmB ∧ PySem.W.excIn X.K C bmB newId = true ∧ PySem.W.keepIn X.K (.ref C) = true ∧ Raises X (.ref C)
structure Ok (Γ : Gam) (N : List PySem.Str) (P : Prog) (cf mk : Nat → List T → Store → Res T) (n : Nat) (hot : Bool) (sc : Scope) (X : Cx) (d : D) (W : WX) : Prop where
  hK : d.K = X.K
  hw : d.w = X.w
  hN : X.N = N
  nd : N.Nodup
  hsc : X.env.scope = sc
  un : X.A.units + 65 < cLine
  calm : hot = false → X.calm = true ∧ RoomG (2 * n + 1) X.A ∧ Takes X W ∧ d.pn = []
  val : ∀ x t, Γ.names.lookup x = some (.val t) → ∃ u v, X.mg x = some u ∧ RelV v u ∧ ∀ G, RepV d G t v
  fn : ∀ x f np, Γ.names.lookup x = some (.fn f np) → ∃ fa fd ps, X.mg x = some (.ref fa) ∧ d.fa f = some fa ∧ PySem.W.keepIn X.K (.ref fa) = true ∧ Binds X.K fd ps [] ∧ ps.length = np ∧ FnG X.prog X.w X.K X.mg X.base (2 * n) fa fd ps (spT d np (cf f))
  exc : ∀ x c, Γ.names.lookup x = some (.exc c) → ∃ C, d.xa c = some C ∧ X.mg x = some (.ref C) ∧ IsxOk X d P.sub c C ∧ RaiseOk X x C ∧ ∀ e E, d.xa e = some E → PySem.W.exmOne X.K (.ref E) (.ref C) = some (P.sub e c) ∧ PySem.W.kitOne X.K (.ref E) (.ref C) = some (P.sub e c)
  free : ∀ x, Γ.free.contains x = true → X.mg x = none
  at_ : ∀ f m, Γ.attrs.lookup f = some m → d.an f = m ∧ f ∈ d.as ∧ ∀ c C, d.ca c = some C → Cls X.K C ∧ NoAttr X.K C m
  inj : ∀ a b, a ∈ d.as → b ∈ d.as → d.an a = d.an b → a = b
  mt : hot = false → ∀ m mm, Γ.meths.lookup m = some mm → MethsOk X d P cf (2 * n) m mm
  cl : hot = false → ∀ x c np, Γ.names.lookup x = some (.cls c np) → ∃ C fi fd ps np', X.mg x = some (.ref C) ∧ Mk X.K C fi ∧ Binds X.K fd ps [] ∧ FnG X.prog X.w X.K X.mg X.base (2 * n) fi fd ps (spI d C np' (mk c)) ∧ ∀ xs S, mk c xs S ≠ .bad → xs.length = np'
  fv : hot = false → FnsOk X d cf (2 * n)
section
variable {Γ : Gam} {N : List PySem.Str} {P : Prog} {cf mk : Nat → List T → Store → Res T} {n : Nat} {hot : Bool} {sc : Scope} {X : Cx} {d : D} {W : WX}
theorem un0 (o : Ok Γ N P cf mk n hot sc X d W) : X.A.units + 64 < cLine := Nat.lt_of_succ_lt o.un
theorem Ok.gl (o : Ok Γ N P cf mk n hot sc X d W) {x : PySem.Str} (h : glC sc x = true) : Gl X x ∧ (x == ("__debug__" : PySem.Str)) = false ∧ (x == ("__classdict__" : PySem.Str)) = false := by
  unfold glC at h
  simp only [Bool.and_eq_true, decide_eq_true_eq, Bool.not_eq_true'] at h
  refine ⟨?_, h.1.2, h.2⟩
  show X.env.scope.names.lookup x = _
  rw [o.hsc]; exact h.1.1
theorem Ok.blt (o : Ok Γ N P cf mk n hot sc X d W) {x : PySem.Str} (h : Hf.blt Γ sc x = true) : Gl X x ∧ X.mg x = none := by
  unfold Hf.blt at h
  simp only [Bool.and_eq_true] at h
  exact ⟨(o.gl h.1).1, o.free x h.2⟩
theorem Ok.name (o : Ok Γ N P cf mk n hot sc X d W) {i : Nat} {e : Expr} (h : nameC N sc i e = true) : ∃ x p, e = .Name x p ∧ X.N[i]? = some x ∧ Vis X.env.scope x ∧ (x == ("__debug__" : PySem.Str)) = false ∧ (x == ("__classdict__" : PySem.Str)) = false := by
  cases e <;> simp only [nameC] at h <;> try contradiction
  rename_i x p
  unfold visC at h
  simp only [Bool.and_eq_true, decide_eq_true_eq, Bool.not_eq_true'] at h
  obtain ⟨h1, ⟨h2, h3⟩, h4⟩ := h
  refine ⟨x, p, rfl, by rw [o.hN]; exact h1, ?_, h3, h4⟩
  unfold Vis
  rw [o.hsc]
  split at h2 <;> first | contradiction | simp_all
theorem Ok.loc (o : Ok Γ N P cf mk n hot sc X d W) {i : Nat} {e : Expr} {raw : Scope} (h : locC N sc raw i e = true) : ∃ x p, e = .Name x p ∧ X.N[i]? = some x ∧ Loc X.env.scope x ∧ (X.env.scope.names.lookup x = some .local ∨ raw.names.lookup x = some .cell) := by
  cases e <;> simp only [locC] at h <;> try contradiction
  rename_i x p
  simp only [Bool.and_eq_true, decide_eq_true_eq] at h
  obtain ⟨h1, h2⟩ := h
  have hx : X.N[i]? = some x := by rw [o.hN]; exact h1
  split at h2 <;> try contradiction
  · rename_i hl
    have e1 : X.env.scope.names.lookup x = some .local := by rw [o.hsc]; exact hl
    exact ⟨x, p, rfl, hx, .inl e1, .inl e1⟩
  · rename_i hl
    have e1 : X.env.scope.names.lookup x = some .cell := by rw [o.hsc]; exact hl
    exact ⟨x, p, rfl, hx, .inr e1, .inr (of_decide_eq_true h2)⟩
/-- the context of a comprehension's block -/
theorem Ok.blk (o : Ok Γ N P cf mk n false sc X d W) {s : Shared} {H : Hp} {scope : Scope} {C : Addr} {cl : List (PySem.Str × Addr)} {fp : List Addr} : Ok Γ N P cf mk n false (relS scope sc) (X.blk s H scope (compEnvC scope cl C X.env) fp) d W0 := by
  obtain ⟨c1, c2, c3, c4⟩ := o.calm rfl
  refine ⟨o.hK, o.hw, o.hN, o.nd, ?_, o.un, fun _ => ⟨c1, c2, fun u s' ⟨_, _, _, _, _, _, _, _, _, _, _, _, _, _, _, _, w⟩ => w, c4⟩, o.val, o.fn, fun x c h => ?_, o.free, o.at_, o.inj, o.mt, o.cl, o.fv⟩
  · show relabel scope X.env = relS scope sc
    rw [← o.hsc]; rfl
  · obtain ⟨C, h1, h2, h3, ⟨b1, b2, b3, b4, r1, r2, r3, r4⟩, h5⟩ := o.exc x c h
    exact ⟨C, h1, h2, (fun a e hm => absurd (c4 ▸ hm) (by simp)), ⟨b1, b2, b3, b4, r1, r2, r3, r4⟩, h5⟩
/-! ### constants -/
theorem const_of {t : T} {e : Expr} (h : constC t e = true) : ∃ v, PE X e (tC v) ∧ ∀ G, RepV d G t v := by
  cases e <;> simp only [constC] at h <;> try contradiction
  cases t <;> simp only [decide_eq_true_eq, Bool.and_eq_true] at h <;> try contradiction
  · subst h; exact ⟨_, pe_non, fun _ => rfl⟩
  · subst h; exact ⟨_, pe_bl, fun _ => rfl⟩
  · subst h; exact ⟨_, pe_int, fun _ => rfl⟩
  · obtain ⟨⟨rfl, h2⟩, h3⟩ := h
    exact ⟨_, pe_str, fun _ => ⟨rfl, by rw [sizeLine_eq]; exact h2, h3⟩⟩
/-! ### targets -/
theorem locs_of (o : Ok Γ N P cf mk n hot sc X d W) {raw : Scope} (hf : ∀ x, raw.names.lookup x = some .cell → X.fn x = true) : ∀ {is : List Nat} {es : List Expr}, locsC N sc raw is es = true → PGs X es (gNames is) ∧ es.length = is.length ∧ es.all noStar = true
  | [], [], _ => ⟨pgs_nil, rfl, rfl⟩
  | [], _ :: _, h => by simp [locsC] at h
  | _ :: _, [], h => by simp [locsC] at h
  | i :: is, e :: es, h => by
    simp only [locsC, Bool.and_eq_true] at h
    obtain ⟨x, p, rfl, h1, h2, h3⟩ := o.loc h.1
    obtain ⟨k1, k2, k3⟩ := locs_of o hf h.2
    refine ⟨pgs_cons (pg_name (by rw [o.hN]; exact o.nd) h1 h2 ?_) k1, by simp [k2], by simp [k3, noStar]⟩
    rcases h3 with h3 | h3
    · exact .inr h3
    · exact .inl (hf x h3)
theorem assignEach_len : ∀ (es : List Expr) (env : PySem.Env), es.all noStar = true → (assignEach es env).length = es.length ∧ (assignEach es env).findIdx? (·.1) = none
  | [], _, _ => ⟨rfl, rfl⟩
  | e :: es, env, h => by
    simp only [List.all_cons, Bool.and_eq_true] at h
    obtain ⟨k1, k2⟩ := assignEach_len es env h.2
    have e1 : assignEach (e :: es) env = (false, assign e env) :: assignEach es env := by
      have := h.1
      cases e <;> first | rfl | (simp [noStar] at this)
    rw [e1]
    refine ⟨by simp [k1], ?_⟩
    rw [List.findIdx?_cons]
    simp [k2]
theorem tg_of (o : Ok Γ N P cf mk n hot sc X d W) (hc : X.calm = true) {raw : Scope} (hf : ∀ x, raw.names.lookup x = some .cell → X.fn x = true) {tg : Tg} {e : Expr} (h : tgC N sc raw tg e = true) : PG X e (tBind X.K tg) := by
  cases tg with
  | n i =>
    obtain ⟨x, p, rfl, h1, h2, h3⟩ := o.loc h
    refine pg_name (by rw [o.hN]; exact o.nd) h1 h2 ?_
    rcases h3 with h3 | h3
    · exact .inr h3
    · exact .inl (hf x h3)
  | t is =>
    cases e <;> simp only [tgC] at h <;> try contradiction
    rename_i es k p
    obtain ⟨k1, k2, k3⟩ := locs_of o hf h
    obtain ⟨k4, k5⟩ := assignEach_len es X.env k3
    exact pg_tup hc k1 (by rw [k4, k2]) k5
end
end Hf
end

section
set_option Elab.async false
set_option linter.all false
set_option maxRecDepth 100000
set_option maxHeartbeats 4000000
/-! HfS19: the expressions keep what the evaluator says. -/
namespace Hf
open PySem PySem.Spec PyProof.Rows L2
def isIt : E → Bool
  | .rng _ => true
  | .rng2 _ _ => true
  | .enum _ => true
  | _ => false
def isLc : Expr → Bool
  | .ListComp _ _ _ _ => true
  | _ => false
def isBool : Expr → Bool
  | .BoolOp _ _ _ => true
  | _ => false
section
variable {Γ : Gam} {N : List PySem.Str} {P : Prog} {cf mk : Nat → List T → Store → Res T} {n : Nat} {hot : Bool} {sc : Scope} {X : Cx} {d : D} {W : WX} {md : Option Bool} {e : Expr} {e' : E}
structure Sound (P : Prog) (cf mk : Nat → List T → Store → Res T) (e' : E) (X : Cx) (d : D) (W : WX) (e : Expr) : Prop where
  ex : PE X e (tE d W fun r S => ev P cf mk r e' S)
  new : isNew e' = true → PE X e (tN d W fun r S => ev P cf mk r e' S)
  test : chkT e = true → PT X e (tBo d W fun r S => ev P cf mk r e' S)
  whole : isBool e = true → PW X e (tBo d W fun r S => ev P cf mk r e' S)
  sto : isLc e = true → isNew e' = true → ∀ {i : Nat} {y : PySem.Str} {py spos : Pos}, X.N[i]? = some y → X.env.scope.names.lookup y = some .local → swapsWith e (some (.Name y py)) spos.line X.env = pure true → PS X (.Assign [.Name y py] e spos) (tAsg (tN d W fun r S => ev P cf mk r e' S) (gName i))
theorem Sound.val (h : PE X e (tE d W fun r S => ev P cf mk r e' S)) (hn : isNew e' = false) (hv : isVal e = true) : Sound P cf mk e' X d W e :=
  ⟨h, (fun z => absurd (hn ▸ z) (by simp)), fun _ => s_valT h (val_test hv _), (fun z => by cases e <;> first | (simp [isVal] at hv; done) | cases z), fun _ z => absurd (hn ▸ z) (by simp)⟩
theorem Sound.ofNew (h : PE X e (tN d W fun r S => ev P cf mk r e' S)) (hv : isVal e = true) (hl : isLc e = true → ∀ {i : Nat} {y : PySem.Str} {py spos : Pos}, X.N[i]? = some y → X.env.scope.names.lookup y = some .local → swapsWith e (some (.Name y py)) spos.line X.env = pure true → PS X (.Assign [.Name y py] e spos) (tAsg (tN d W fun r S => ev P cf mk r e' S) (gName i)) := by intro z; cases z) : Sound P cf mk e' X d W e :=
  ⟨s_ofNew h, fun _ => h, fun _ => s_valT (s_ofNew h) (val_test hv _), (fun z => by cases e <;> first | (simp [isVal] at hv; done) | cases z), fun z _ => hl z⟩
theorem w_of (o : Ok Γ N P cf mk n hot sc X d W) (h : chkE Γ N md hot sc e' e = true) (s : PE X e (tE d W fun r S => ev P cf mk r e' S)) : PE X e (tW d W fun r S => view r e' S (ev P cf mk r e' S)) := by
  cases e' with
  | v i =>
    simp only [chkE] at h
    obtain ⟨x, p, rfl, h1, h2, h3, h4⟩ := o.name h
    exact s_varW h1 h2 h3 h4
  | _ => exact s_toW s
theorem evs_len : ∀ {es : List E} {r : Env} {S : Store} {xs : List T} {S' : Store}, evs P cf mk r es S = .ok xs S' → xs.length = es.length
  | [], r, S, xs, S', h => by simp only [evs] at h; cases h; rfl
  | e :: es, r, S, xs, S', h => by
    simp only [evs] at h
    cases e1 : ev P cf mk r e S with
    | bad => rw [e1] at h; cases h
    | exn c S1 => rw [e1] at h; cases h
    | ok x S1 =>
      rw [e1] at h
      simp only [Res.bind] at h
      cases e2 : evs P cf mk r es S1 with
      | bad => rw [e2] at h; cases h
      | exn c S1 => rw [e2] at h; cases h
      | ok ys S2 =>
        rw [e2] at h
        cases h
        simp [evs_len e2]
theorem chkEs_len : ∀ {es : List E} {l : List Expr}, chkEs Γ N hot sc es l = true → es.length = l.length
  | [], [], _ => rfl
  | [], _ :: _, h => by simp [chkEs] at h
  | _ :: _, [], h => by simp [chkEs] at h
  | e :: es, x :: l, h => by
    simp only [chkEs, Bool.and_eq_true] at h
    simp [chkEs_len h.2]
theorem val_k {t : T} (h : constC t e = true) : isVal e = true := by cases e <;> first | rfl | (simp [constC] at h; done)
theorem s_op (o : Ok Γ N P cf mk n hot sc X d W) {a b : Expr} {pos : Pos} {ma mb : Env → Store → Res T} (op : Op2) (ha : PE X a (tE d W ma)) (hb : PE X b (tE d W mb)) : PE X (.BinOp a op.ast b pos) (tE d W fun r S => (ma r S).bind fun x S => (mb r S).bind fun y S => Res.of (op.ev x y) S) := by
  cases op
  · exact s_add o.hK ha hb
  · exact s_sub2 ha hb
  · exact s_mul o.hK ha hb
  · exact s_mod ha hb
  · exact s_fdiv ha hb
theorem it_none (h : chkE Γ N none hot sc e' e = true) : isIt e' = false := by
  cases e' <;> first | rfl | (simp only [chkE] at h; split at h <;> simp at h)
theorem new_val (hn : isNew e' = true) (h : chkE Γ N md hot sc e' e = true) : isVal e = true := by
  cases e' <;> first | (cases hn; done) | (simp only [chkE] at h; split at h <;> first | rfl | (cases h; done))
theorem dict_of : ∀ {ks : List T} {es : List E} {keys : List (Option Expr)} {values : List Expr} {pos : Pos}, keysC ks keys = true → valsC es values = true → keys.length = values.length →
    ∃ (ts : List T) (vs : List V), (∀ r S, evs P cf mk r es S = .ok ts S) ∧ ks = (keyNats ks).map T.str ∧ PPs X pos keys values (((keyNats ks).zip vs).map fun p => (tC (.str (sk p.1)), tC p.2)) ∧ (∀ G, RepAll d G ts vs) ∧ (keyNats ks).length = vs.length ∧ (keyNats ks).length = ts.length ∧ keys.all (·.isSome) = true ∧ (keyNats ks).length = keys.length
  | [], es, keys, values, pos, h1, h2, hl => by
    cases keys with
    | cons _ _ => simp [keysC] at h1
    | nil =>
      cases values with
      | cons _ _ => simp at hl
      | nil =>
        cases es with
        | cons e es => cases e <;> simp [valsC] at h2
        | nil => exact ⟨[], [], fun r S => by simp only [evs], rfl, pps_nil, fun _ => trivial, rfl, rfl, rfl, rfl⟩
  | k :: ks, es, keys, values, pos, h1, h2, hl => by
    cases keys with
    | nil => cases k <;> simp [keysC] at h1
    | cons ko keys =>
      cases k <;> cases ko <;> simp only [keysC, Bool.and_eq_true] at h1 <;> try contradiction
      rename_i s ke
      cases values with
      | nil => simp at hl
      | cons v values =>
        cases es with
        | nil => simp [valsC] at h2
        | cons e es =>
          cases e <;> simp only [valsC, Bool.and_eq_true] at h2 <;> try contradiction
          rename_i t
          obtain ⟨ts, vs, k1, k2, k3, k4, k5, k6, k7, k8⟩ := dict_of (pos := pos) h1.2 h2.2 (by simpa using hl)
          obtain ⟨w, w1, w2⟩ := const_of (X := X) (d := d) h2.1
          obtain ⟨u, u1, u2⟩ := const_of (X := X) (d := d) h1.1
          have eu : u = .str (sk s) := (u2 ⟨fun _ => none, []⟩).1
          subst eu
          refine ⟨t :: ts, w :: vs, fun r S => ?_, ?_, pps_cons u1 w1 k3, fun G => ⟨w2 G, k4 G⟩, ?_, ?_, ?_, ?_⟩
          · simp only [evs, ev, k1, Res.bind]
          · simp only [keyNats, List.map_cons]; rw [← k2]
          · simp [keyNats, k5]
          · simp [keyNats, k6]
          · simp [k7]
          · simp [keyNats, k8]
theorem itM_eq {r : Env} {S : Store} {it : E} : (itM (view r it S (ev P cf mk r it S))) = itM (view r it S (ev P cf mk r it S)) := rfl
theorem still_view {m : Env → Store → Res T} : ∀ r S p S', (fun r S => itM (m r S)) r S = .ok p S' → Still p.1 p.2 S' := fun r S p S' h => still_itM h
theorem compF_yes {tg : Tg} {me : Env → Store → Res T} {r : Env} : (fun x S => match bindT tg x (wipeE r tg.slots) with
      | some r' => (me r' S).bind fun y S => .ok (some y) S
      | none => .bad) = compF tg (fun _ S => .ok true S) me r := by
  funext x S
  unfold compF
  cases bindT tg x (wipeE r tg.slots) with
  | none => rfl
  | some r' =>
    show _ = (if true = true then (me r' S).bind fun y S => .ok (some y) S else .ok none S)
    rw [if_pos rfl]
theorem own_map {tg : Tg} : (ownOf N tg).map (·.2) = tg.slots := by
  unfold ownOf
  rw [List.map_map]
  exact List.map_id' _
theorem toB_fun {m : Env → Store → Res T} : (fun r S => toB0 (m r S)) = toB m := rfl
theorem pts_yes : PTs X [] (tG d W RB fun _ S => .ok true S) := by
  refine ⟨fun pins s σ H Q I ⟨G, r, S, RS, RE, q⟩ => pts_nil.run pins s σ H Q I ?_⟩
  exact q G true H (Step.refl _ _) RS rfl
theorem chain_eq {c c' : Cmp} {ma mb mc : Env → Store → Res T} : chainM c c' ma mb mc = fun r S => (ma r S).bind fun x S => (mb r S).bind fun y S => (match c.ev x y with
    | some true => (mc r S).bind fun z S => Res.of ((c'.ev y z).map .bl) S
    | some false => .ok (.bl false) S
    | none => .bad) := rfl
theorem Sound.tst {m : Env → Store → Res T} (he : PE X e (tE d W m)) (ht : PT X e (tBo d W m)) (hm : (fun r S => ev P cf mk r e' S) = m) (hn : isNew e' = false) (hb : isBool e = false) : Sound P cf mk e' X d W e :=
  ⟨by rw [hm]; exact he, (fun z => absurd (hn ▸ z) (by simp)), fun _ => by rw [hm]; exact ht, (fun z => absurd (hb ▸ z) (by simp)), fun _ z => absurd (hn ▸ z) (by simp)⟩
theorem Sound.bool {m : Env → Store → Res T} (he : PE X e (tE d W m)) (ht : PW X e (tBo d W m)) (hm : (fun r S => ev P cf mk r e' S) = m) (hn : isNew e' = false) : Sound P cf mk e' X d W e :=
  ⟨by rw [hm]; exact he, (fun z => absurd (hn ▸ z) (by simp)), fun _ => by rw [hm]; exact ht.pt, fun _ => by rw [hm]; exact ht, fun _ z => absurd (hn ▸ z) (by simp)⟩
theorem i_of {it : E} {tgE itE : Expr} (o : Ok Γ N P cf mk n false sc X d W) (h : chkE Γ N (some (isTupTg tgE)) false sc it itE = true) (s1 : isIt it = true → PI X tgE itE (tItE d W fun r S => itM (ev P cf mk r it S))) (s2 : isIt it = false → Sound P cf mk it X d W itE) :
    PI X tgE itE (tIt d W fun r S => itM (view r it S (ev P cf mk r it S))) := by
  by_cases hi : isIt it = true
  · have := s1 hi
    cases it <;> first | (cases hi; done) | exact i_weak this
  · have hi : isIt it = false := by simpa using hi
    exact i_any o.hK (w_of o h (s2 hi).ex)
/-- what is to be shown of each -/
def SA (Γ : Gam) (N : List PySem.Str) (P : Prog) (cf mk : Nat → List T → Store → Res T) (n : Nat) (e' : E) : Prop := ∀ {hot : Bool} {sc : Scope} {X : Cx} {d : D} {W : WX} {md : Option Bool} {e : Expr}, Ok Γ N P cf mk n hot sc X d W → chkE Γ N md hot sc e' e = true → isIt e' = false → Sound P cf mk e' X d W e
def SI (Γ : Gam) (N : List PySem.Str) (P : Prog) (cf mk : Nat → List T → Store → Res T) (n : Nat) (it : E) : Prop := ∀ {sc : Scope} {X : Cx} {d : D} {W : WX} {tgE itE : Expr}, Ok Γ N P cf mk n false sc X d W → chkE Γ N (some (isTupTg tgE)) false sc it itE = true → isIt it = true → PI X tgE itE (tItE d W fun r S => itM (ev P cf mk r it S))
def SEs (Γ : Gam) (N : List PySem.Str) (P : Prog) (cf mk : Nat → List T → Store → Res T) (n : Nat) (es : List E) : Prop := ∀ {hot : Bool} {sc : Scope} {X : Cx} {d : D} {W : WX} {l : List Expr}, Ok Γ N P cf mk n hot sc X d W → chkEs Γ N hot sc es l = true → l.all noStar = true → PA X l (tAs d W fun r S => evs P cf mk r es S)
def SVs (Γ : Gam) (N : List PySem.Str) (P : Prog) (cf mk : Nat → List T → Store → Res T) (n : Nat) (es : List E) : Prop := ∀ {hot : Bool} {sc : Scope} {X : Cx} {d : D} {W : WX} {l : List Expr}, Ok Γ N P cf mk n hot sc X d W → chkEs Γ N hot sc es l = true → l.all noStar = true → PA X l (tWs d W fun r S => evVs P cf mk r es S)
theorem q_k (t : T)  : SA Γ N P cf mk n (.k t) := by
  intro hot sc X d W md e o h _
  simp only [chkE] at h
  obtain ⟨v, h1, h2⟩ := const_of (d := d) h
  refine .val ?_ rfl (val_k h)
  simp only [ev]
  exact s_const h1 h2

theorem q_v (i : Nat)  : SA Γ N P cf mk n (.v i) := by
  intro hot sc X d W md e o h _
  simp only [chkE] at h
  obtain ⟨x, p, rfl, h1, h2, h3, h4⟩ := o.name h
  refine .val ?_ rfl rfl
  simp only [ev]
  exact s_var h1 h2 h3 h4

theorem q_g (nm : List Nat) (t : T)  : SA Γ N P cf mk n (.g nm t) := by
  intro hot sc X d W md e o h _
  simp only [chkE] at h
  split at h <;> try contradiction
  rename_i x p
  simp only [Bool.and_eq_true] at h
  obtain ⟨h1, h2⟩ := h
  obtain ⟨g1, g2, g3⟩ := o.gl h1
  split at h2 <;> try contradiction
  rename_i u hl
  have e1 := T.beq_eq h2
  subst e1
  obtain ⟨u, v, k1, k2, k3⟩ := o.val x _ hl
  refine .val ?_ rfl rfl
  simp only [ev]
  exact s_const (pe_glob g1 k1 k2 g2) k3

theorem q_tup (es : List E) (ie_es : SEs Γ N P cf mk n es) : SA Γ N P cf mk n (.tup es) := by
  intro hot sc X d W md e o h _
  simp only [chkE] at h
  split at h <;> try contradiction
  simp only [Bool.and_eq_true, decide_eq_true_eq] at h
  obtain ⟨⟨h1, h2⟩, h3⟩ := h
  have hs := ie_es o h3 h1
  refine .val ?_ rfl rfl
  simp only [ev]
  exact s_tup hs (by rw [sizeLine_eq]; omega) fun r S xs S' q => by rw [evs_len q, chkEs_len h3]

theorem q_disp (es : List E) (ie_es : SEs Γ N P cf mk n es) : SA Γ N P cf mk n (.disp es) := by
  intro hot sc X d W md e o h _
  simp only [chkE] at h
  split at h <;> try contradiction
  simp only [Bool.and_eq_true, decide_eq_true_eq] at h
  obtain ⟨⟨h1, h2⟩, h3⟩ := h
  have hs := ie_es o h3 h1
  refine .ofNew ?_ rfl
  simp only [ev]
  exact s_disp hs (by rw [sizeLine_eq]; omega) fun r S xs S' q => by rw [evs_len q, chkEs_len h3]

theorem q_comp (elt : E) (tg : Tg) (it : E) (ih_elt : SA Γ N P cf mk n elt) (ih_it : SA Γ N P cf mk n it) (ii_it : SI Γ N P cf mk n it) : SA Γ N P cf mk n (.comp elt tg it) := by
  intro hot sc X d W md e o h _
  simp only [chkE] at h
  split at h <;> try contradiction
  rename_i el tgE itE scope pos
  simp only [Bool.and_eq_true, Bool.not_eq_true'] at h
  obtain ⟨⟨⟨⟨⟨h1, h2⟩, h3⟩, h4⟩, h5⟩, h6⟩ := h
  subst h1
  obtain ⟨c1, c2, c3, c4⟩ := o.calm rfl
  have hi := i_of o h3 (fun hi => ii_it o h3 hi) (fun hi => ih_it o h3 hi)
  have ok := blkOk_by (o.hsc ▸ o.hN ▸ h4)
  refine .ofNew ?_ rfl fun _ {i y py spos} y1 y2 y3 => ?_
  · simp only [ev, compF_yes]
    exact s_compM (mt := fun _ S => .ok true S) (me := fun r S => ev P cf mk r elt S) o.hK c1 (o.hN ▸ o.nd) own_map still_view hi ok
      (fun s H C cl fp => tg_of (o.blk) c1 (fun x hx => by simp [hx]) h5) (fun s H C cl fp => pts_yes) (fun s H C cl fp => (ih_elt o.blk h6 (it_none h6)).ex) (no_fold h2 _)
  · simp only [ev, compF_yes]
    exact s_compSet (mt := fun _ S => .ok true S) (me := fun r S => ev P cf mk r elt S) o.hK c1 (o.hN ▸ o.nd) y1 y2 y3 own_map still_view hi ok
      (fun s H C cl fp => tg_of (o.blk) c1 (fun x hx => by simp [hx]) h5) (fun s H C cl fp => pts_yes) (fun s H C cl fp => (ih_elt o.blk h6 (it_none h6)).ex) (no_fold h2 _)

theorem q_compI (elt : E) (tg : Tg) (it : E) (t : E) (ih_elt : SA Γ N P cf mk n elt) (ih_it : SA Γ N P cf mk n it) (ii_it : SI Γ N P cf mk n it) (ih_t : SA Γ N P cf mk n t) : SA Γ N P cf mk n (.compI elt tg it t) := by
  intro hot sc X d W md e o h _
  simp only [chkE] at h
  split at h <;> try contradiction
  rename_i el tgE itE cc scope pos
  simp only [Bool.and_eq_true, Bool.not_eq_true'] at h
  obtain ⟨⟨⟨⟨⟨⟨⟨h1, h2⟩, h3⟩, h4⟩, h5⟩, h6⟩, h7⟩, h8⟩ := h
  subst h1
  obtain ⟨c1, c2, c3, c4⟩ := o.calm rfl
  have hi := i_of o h3 (fun hi => ii_it o h3 hi) (fun hi => ih_it o h3 hi)
  have ok := blkOk_by (o.hsc ▸ o.hN ▸ h4)
  refine .ofNew ?_ rfl fun _ {i y py spos} y1 y2 y3 => ?_
  · simp only [ev]
    exact s_compM (mt := toB fun r S => ev P cf mk r t S) (me := fun r S => ev P cf mk r elt S) o.hK c1 (o.hN ▸ o.nd) own_map still_view hi ok
      (fun s H C cl fp => tg_of (o.blk) c1 (fun x hx => by simp [hx]) h5) (fun s H C cl fp => pts_one ((ih_t o.blk h8 (it_none h8)).test h7)) (fun s H C cl fp => (ih_elt o.blk h6 (it_none h6)).ex) (no_fold h2 _)
  · simp only [ev]
    exact s_compSet (mt := toB fun r S => ev P cf mk r t S) (me := fun r S => ev P cf mk r elt S) o.hK c1 (o.hN ▸ o.nd) y1 y2 y3 own_map still_view hi ok
      (fun s H C cl fp => tg_of (o.blk) c1 (fun x hx => by simp [hx]) h5) (fun s H C cl fp => pts_one ((ih_t o.blk h8 (it_none h8)).test h7)) (fun s H C cl fp => (ih_elt o.blk h6 (it_none h6)).ex) (no_fold h2 _)

theorem q_lof (a : E) (ih_a : SA Γ N P cf mk n a) : SA Γ N P cf mk n (.lof a) := by
  intro hot sc X d W md e o h _
  simp only [chkE] at h
  split at h <;> try contradiction
  simp only [Bool.and_eq_true, decide_eq_true_eq] at h
  obtain ⟨⟨⟨rfl, h2⟩, h3⟩, h4⟩ := h
  obtain ⟨g1, g2⟩ := o.blt h2
  have sa := ih_a o h4 (it_none h4)
  refine .ofNew ?_ rfl
  simp only [ev]
  exact s_lof o.hK g1 g2 (w_of o h4 sa.ex) (star_cons h3 _ _)

theorem q_tof (a : E) (ih_a : SA Γ N P cf mk n a) : SA Γ N P cf mk n (.tof a) := by
  intro hot sc X d W md e o h _
  simp only [chkE] at h
  split at h <;> try contradiction
  simp only [Bool.and_eq_true, decide_eq_true_eq] at h
  obtain ⟨⟨⟨rfl, h2⟩, h3⟩, h4⟩ := h
  obtain ⟨g1, g2⟩ := o.blt h2
  have sa := ih_a o h4 (it_none h4)
  refine .val ?_ rfl rfl
  simp only [ev]
  exact s_tof o.hK g1 g2 (w_of o h4 sa.ex) (star_cons h3 _ _)

theorem q_sorted (a : E) (ih_a : SA Γ N P cf mk n a) : SA Γ N P cf mk n (.sorted a) := by
  intro hot sc X d W md e o h _
  simp only [chkE] at h
  split at h <;> try contradiction
  simp only [Bool.and_eq_true, decide_eq_true_eq] at h
  obtain ⟨⟨⟨rfl, h2⟩, h3⟩, h4⟩ := h
  obtain ⟨g1, g2⟩ := o.blt h2
  have sa := ih_a o h4 (it_none h4)
  refine .ofNew ?_ rfl
  simp only [ev]
  exact s_sorted g1 g2 (w_of o h4 sa.ex) (star_cons h3 _ _)

theorem q_sub (a : E) (i : E) (ih_a : SA Γ N P cf mk n a) (ih_i : SA Γ N P cf mk n i) : SA Γ N P cf mk n (.sub a i) := by
  intro hot sc X d W md e o h _
  simp only [chkE] at h
  split at h <;> try contradiction
  simp only [Bool.and_eq_true] at h
  obtain ⟨⟨h1, h2⟩, h3⟩ := h
  have sa := ih_a o h2 (it_none h2)
  have sb := ih_i o h3 (it_none h3)
  refine .val ?_ rfl rfl
  simp only [ev]
  exact s_sub o.hK o.hw (un0 o) (plain_ix h1) (w_of o h2 sa.ex) sb.ex

theorem q_slice (a : E) (l : E) (u : E) (ih_a : SA Γ N P cf mk n a) (ih_l : SA Γ N P cf mk n l) (ih_u : SA Γ N P cf mk n u) : SA Γ N P cf mk n (.slice a l u) := by
  intro hot sc X d W md e o h _
  simp only [chkE] at h
  split at h <;> try contradiction
  simp only [Bool.and_eq_true] at h
  obtain ⟨⟨h1, h2⟩, h3⟩ := h
  have sa := ih_a o h1 (it_none h1)
  have sb := ih_l o h2 (it_none h2)
  have sc' := ih_u o h3 (it_none h3)
  refine .val ?_ rfl rfl
  simp only [ev]
  exact s_slice o.hK (w_of o h1 sa.ex) sb.ex sc'.ex

theorem q_sliceL (a : E) (l : E) (ih_a : SA Γ N P cf mk n a) (ih_l : SA Γ N P cf mk n l) : SA Γ N P cf mk n (.sliceL a l) := by
  intro hot sc X d W md e o h _
  simp only [chkE] at h
  split at h <;> try contradiction
  simp only [Bool.and_eq_true] at h
  obtain ⟨h1, h2⟩ := h
  have sa := ih_a o h1 (it_none h1)
  have sb := ih_l o h2 (it_none h2)
  refine .val ?_ rfl rfl
  simp only [ev]
  exact s_sliceL o.hK (w_of o h1 sa.ex) sb.ex

theorem q_sliceR (a : E) (l : E) (ih_a : SA Γ N P cf mk n a) (ih_l : SA Γ N P cf mk n l) : SA Γ N P cf mk n (.sliceR a l) := by
  intro hot sc X d W md e o h _
  simp only [chkE] at h
  split at h <;> try contradiction
  simp only [Bool.and_eq_true] at h
  obtain ⟨h1, h2⟩ := h
  have sa := ih_a o h1 (it_none h1)
  have sb := ih_l o h2 (it_none h2)
  refine .val ?_ rfl rfl
  simp only [ev]
  exact s_sliceR o.hK (w_of o h1 sa.ex) sb.ex

theorem q_op (op : Op2) (a : E) (b : E) (ih_a : SA Γ N P cf mk n a) (ih_b : SA Γ N P cf mk n b) : SA Γ N P cf mk n (.op op a b) := by
  intro hot sc X d W md e o h _
  simp only [chkE] at h
  split at h <;> try contradiction
  simp only [Bool.and_eq_true] at h
  obtain ⟨⟨h1, h2⟩, h3⟩ := h
  have sa := ih_a o h2 (it_none h2)
  have sb := ih_b o h3 (it_none h3)
  refine .val ?_ rfl rfl
  simp only [ev]
  have hp := of_decide_eq_true h1
  subst hp
  exact s_op o op sa.ex sb.ex

theorem q_cat (a : E) (b : E) (ih_a : SA Γ N P cf mk n a) (ih_b : SA Γ N P cf mk n b) : SA Γ N P cf mk n (.cat a b) := by
  intro hot sc X d W md e o h _
  simp only [chkE] at h
  split at h <;> try contradiction
  simp only [Bool.and_eq_true] at h
  obtain ⟨h2, h3⟩ := h
  have sa := ih_a o h2 (it_none h2)
  have sb := ih_b o h3 (it_none h3)
  refine .ofNew ?_ rfl
  simp only [ev]
  exact s_cat (w_of o h2 sa.ex) (w_of o h3 sb.ex)

theorem q_neg (a : E) (ih_a : SA Γ N P cf mk n a) : SA Γ N P cf mk n (.neg a) := by
  intro hot sc X d W md e o h _
  simp only [chkE] at h
  split at h <;> try contradiction
  have sa := ih_a o h (it_none h)
  refine .val ?_ rfl rfl
  simp only [ev]
  exact s_neg sa.ex

theorem q_cmp (c : Cmp) (a : E) (b : E) (ih_a : SA Γ N P cf mk n a) (ih_b : SA Γ N P cf mk n b) : SA Γ N P cf mk n (.cmp c a b) := by
  intro hot sc X d W md e o h _
  simp only [chkE] at h
  split at h <;> try contradiction
  simp only [Bool.and_eq_true, decide_eq_true_eq] at h
  obtain ⟨⟨⟨rfl, h1⟩, h2⟩, h3⟩ := h
  have sa := ih_a o h2 (it_none h2)
  have sb := ih_b o h3 (it_none h3)
  obtain ⟨r2, hc⟩ := c_all o.hK o.hw (un0 o) c
  exact .tst (s_cmp hc (no_marks h1 _) (w_of o h2 sa.ex) (w_of o h3 sb.ex)) (s_cmpT hc (no_marks h1 _) (w_of o h2 sa.ex) (w_of o h3 sb.ex)) (by funext r S; simp only [ev]; rfl) rfl rfl

theorem q_chain (c : Cmp) (c' : Cmp) (a : E) (b : E) (z : E) (ih_a : SA Γ N P cf mk n a) (ih_b : SA Γ N P cf mk n b) (ih_z : SA Γ N P cf mk n z) : SA Γ N P cf mk n (.chain c c' a b z) := by
  intro hot sc X d W md e o h _
  simp only [chkE] at h
  split at h <;> try contradiction
  simp only [Bool.and_eq_true, decide_eq_true_eq] at h
  obtain ⟨⟨⟨⟨⟨rfl, rfl⟩, h1⟩, h2⟩, h3⟩, h4⟩ := h
  have sa := ih_a o h2 (it_none h2)
  have sb := ih_b o h3 (it_none h3)
  have sz := ih_z o h4 (it_none h4)
  obtain ⟨r2, hc⟩ := c_all o.hK o.hw (un0 o) c
  obtain ⟨r3, hc'⟩ := c_all o.hK o.hw (un0 o) c'
  exact .tst (s_chain hc hc' (no_last h1 _ _) sa.ex sb.ex sz.ex) (s_chainT hc hc' (no_last h1 _ _) sa.ex sb.ex sz.ex) (by funext r S; simp only [ev]; rfl) rfl rfl

theorem q_isK (ng : Bool) (a : E) (t : T) (ih_a : SA Γ N P cf mk n a) : SA Γ N P cf mk n (.isK ng a t) := by
  intro hot sc X d W md e o h _
  simp only [chkE] at h
  split at h <;> try contradiction
  simp only [Bool.and_eq_true, decide_eq_true_eq] at h
  obtain ⟨⟨⟨rfl, h1⟩, h2⟩, h3⟩ := h
  have sa := ih_a o h3 (it_none h3)
  obtain ⟨w, hw⟩ := Option.isSome_iff_exists.mp h1
  obtain ⟨v, k1, k2⟩ := const_of (d := d) h2
  have hvw : v = w := by
    have hr := k2 ⟨fun _ => none, []⟩
    cases t <;> simp only [kV'] at hw <;> try contradiction
    · cases hw; exact hr
    · cases hw; exact hr
  subst hvw
  exact .tst (s_isK hw k1 sa.ex) (s_isKT hw k1 sa.ex) (by funext r S; simp only [ev]; rfl) rfl rfl

theorem q_not (a : E) (ih_a : SA Γ N P cf mk n a) : SA Γ N P cf mk n (.not a) := by
  intro hot sc X d W md e o h _
  simp only [chkE] at h
  split at h <;> try contradiction
  simp only [Bool.and_eq_true] at h
  have sa := ih_a o h.2 (it_none h.2)
  exact .tst (s_not sa.ex) (s_notT (sa.test h.1)) (by funext r S; simp only [ev]; rfl) rfl rfl

theorem q_call (f : Nat) (es : List E) (ie_es : SEs Γ N P cf mk n es) : SA Γ N P cf mk n (.call f es) := by
  intro hot sc X d W md e o h _
  simp only [chkE] at h
  split at h <;> try contradiction
  rename_i x p l pos
  simp only [Bool.and_eq_true, Bool.not_eq_true'] at h
  obtain ⟨⟨⟨⟨h1, h2⟩, h3⟩, h4⟩, h5⟩ := h
  subst h1
  obtain ⟨c1, c2, c3, c4⟩ := o.calm rfl
  obtain ⟨g1, g2, g3⟩ := o.gl h3
  split at h4 <;> try contradiction
  rename_i g np hl
  simp only [Bool.and_eq_true, decide_eq_true_eq] at h4
  obtain ⟨rfl, rfl⟩ := h4
  obtain ⟨fa, fd, ps, k1, k2, k3, k4, k5, k6⟩ := o.fn x _ _ hl
  have hs := ie_es o h5 h2
  refine .val ?_ rfl rfl
  simp only [ev]
  cases l with
  | nil =>
    have hes : es = [] := by cases es <;> first | rfl | (simp [chkEs] at h5)
    subst hes
    simp only [evs]
    exact s_call0 rfl k6 (c2.mono (by omega)) g1 k1 k3 k4 c3 g2
  | cons y l =>
    simp only [List.all_cons, Bool.and_eq_true] at h2
    exact s_call (fun r S xs S' q => evs_len q) k6 (c2.mono (by omega)) g1 k1 k3 k4 c3 hs g2 (star_cons h2.1 _ _) (star_none _ h2.2 _ _)

theorem q_bi (b : Bi) (es : List E) (iv_es : SVs Γ N P cf mk n es) : SA Γ N P cf mk n (.bi b es) := by
  intro hot sc X d W md e o h _
  simp only [chkE] at h
  split at h <;> try contradiction
  rename_i x p y l pos
  simp only [Bool.and_eq_true, Bool.not_eq_true', decide_eq_true_eq] at h
  obtain ⟨⟨⟨⟨⟨h1, rfl⟩, h4⟩, h5⟩, h6⟩, h7⟩ := h
  subst h1
  obtain ⟨c1, c2, c3, c4⟩ := o.calm rfl
  obtain ⟨g1, g2⟩ := o.blt h4
  have hs := iv_es o h7 (by simp [h5, h6])
  refine .val ?_ rfl rfl
  simp only [ev]
  exact s_bi b c2.g (un0 o) o.hK c1 g1 g2 hs (star_cons h5 _ _) (star_none _ h6 _ _)

theorem q_isi (a : E) (ty : Ty) (ih_a : SA Γ N P cf mk n a) : SA Γ N P cf mk n (.isi a ty) := by
  intro hot sc X d W md e o h _
  simp only [chkE] at h
  split at h <;> try contradiction
  simp only [Bool.and_eq_true, decide_eq_true_eq] at h
  obtain ⟨⟨⟨⟨⟨rfl, h1⟩, h2⟩, rfl⟩, h3⟩, h4⟩ := h
  obtain ⟨g1, g2⟩ := o.blt h1
  obtain ⟨g3, g4⟩ := o.blt h3
  have sa := ih_a o h4 (it_none h4)
  refine .val ?_ rfl rfl
  simp only [ev]
  exact s_isi ty o.hK (w_of o h4 sa.ex) g1 g2 g3 g4 (star_cons h2 _ _)

theorem q_isi2 (a : E) (ty : Ty) (ty2 : Ty) (ih_a : SA Γ N P cf mk n a) : SA Γ N P cf mk n (.isi2 a ty ty2) := by
  intro hot sc X d W md e o h _
  simp only [chkE] at h
  split at h <;> try contradiction
  simp only [Bool.and_eq_true, decide_eq_true_eq] at h
  obtain ⟨⟨⟨⟨⟨⟨⟨rfl, h1⟩, h2⟩, rfl⟩, h3⟩, rfl⟩, h5⟩, h4⟩ := h
  obtain ⟨g1, g2⟩ := o.blt h1
  obtain ⟨g3, g4⟩ := o.blt h3
  obtain ⟨g5, g6⟩ := o.blt h5
  have sa := ih_a o h4 (it_none h4)
  refine .val ?_ rfl rfl
  simp only [ev]
  exact s_isi2 ty ty2 o.hK (w_of o h4 sa.ex) g1 g2 g3 g4 g5 g6 (star_cons h2 _ _)

theorem q_join (a : E) (ih_a : SA Γ N P cf mk n a) : SA Γ N P cf mk n (.join a) := by
  intro hot sc X d W md e o h _
  simp only [chkE] at h
  split at h <;> try contradiction
  simp only [Bool.and_eq_true, decide_eq_true_eq] at h
  obtain ⟨⟨⟨⟨h0, rfl⟩, h1⟩, h2⟩, h3⟩ := h
  have sa := ih_a o h3 (it_none h3)
  refine .val ?_ rfl rfl
  simp only [ev]
  exact s_join h0 (w_of o h3 sa.ex) (star_cons h1 _ _) h2

theorem q_index (a : E) (b : E) (ih_a : SA Γ N P cf mk n a) (ih_b : SA Γ N P cf mk n b) : SA Γ N P cf mk n (.index a b) := by
  intro hot sc X d W md e o h _
  simp only [chkE] at h
  split at h <;> try contradiction
  simp only [Bool.and_eq_true, decide_eq_true_eq] at h
  obtain ⟨⟨⟨⟨⟨rfl, h1⟩, h2⟩, h3⟩, h4⟩, h5⟩ := h
  have sa := ih_a o h4 (it_none h4)
  have sb := ih_b o h5 (it_none h5)
  refine .val ?_ rfl rfl
  simp only [ev]
  exact s_index o.hK o.un (w_of o h4 sa.ex) sb.ex (no_base h1 _ _ _) (star_cons h2 _ _) (few_of h2 _ _) h3
theorem q_cell (a : E) (ih_a : SA Γ N P cf mk n a) : SA Γ N P cf mk n (.cell a) := by
  intro hot sc X d W md e o h _
  simp only [chkE] at h
  have hn : isNew a = true ∧ chkE Γ N none hot sc a e = true := by simpa [Bool.and_eq_true] using h
  have sa := ih_a o hn.2 (it_none hn.2)
  refine .val ?_ rfl (new_val hn.1 hn.2)
  simp only [ev]
  exact s_cell (sa.new hn.1)

theorem q_and (a : E) (b : E) (ih_a : SA Γ N P cf mk n a) (ih_b : SA Γ N P cf mk n b) : SA Γ N P cf mk n (.and a b) := by
  intro hot sc X d W md e o h _
  simp only [chkE] at h
  split at h <;> try contradiction
  · simp only [Bool.and_eq_true] at h
    obtain ⟨⟨⟨h1, h2⟩, h3⟩, h4⟩ := h
    have sa := ih_a o h3 (it_none h3)
    have sb := ih_b o h4 (it_none h4)
    exact .bool (s_and sa.ex (pe_one sb.ex)) (s_andT (sa.test h1) (pw_and1 (sb.test h2))) (by funext r S; simp only [ev]; rfl) rfl
  · simp only [Bool.and_eq_true] at h
    obtain ⟨⟨h1, h3⟩, h4⟩ := h
    have sa := ih_a o h3 (it_none h3)
    have sb := ih_b o h4 (it_none h4)
    exact .bool (s_and sa.ex sb.ex) (s_andT (sa.test h1) (sb.whole rfl)) (by funext r S; simp only [ev]; rfl) rfl

theorem q_or (a : E) (b : E) (ih_a : SA Γ N P cf mk n a) (ih_b : SA Γ N P cf mk n b) : SA Γ N P cf mk n (.or a b) := by
  intro hot sc X d W md e o h _
  simp only [chkE] at h
  split at h <;> try contradiction
  · simp only [Bool.and_eq_true] at h
    obtain ⟨⟨⟨h1, h2⟩, h3⟩, h4⟩ := h
    have sa := ih_a o h3 (it_none h3)
    have sb := ih_b o h4 (it_none h4)
    exact .bool (s_or sa.ex (pe_one sb.ex)) (s_orT (sa.test h1) (pw_or1 (sb.test h2))) (by funext r S; simp only [ev]; rfl) rfl
  · simp only [Bool.and_eq_true] at h
    obtain ⟨⟨h1, h3⟩, h4⟩ := h
    have sa := ih_a o h3 (it_none h3)
    have sb := ih_b o h4 (it_none h4)
    exact .bool (s_or sa.ex sb.ex) (s_orT (sa.test h1) (sb.whole rfl)) (by funext r S; simp only [ev]; rfl) rfl

theorem q_ife (c : E) (a : E) (b : E) (ih_c : SA Γ N P cf mk n c) (ih_a : SA Γ N P cf mk n a) (ih_b : SA Γ N P cf mk n b) : SA Γ N P cf mk n (.ife c a b) := by
  intro hot sc X d W md e o h _
  simp only [chkE] at h
  split at h <;> try contradiction
  simp only [Bool.and_eq_true] at h
  obtain ⟨⟨⟨h1, h2⟩, h3⟩, h4⟩ := h
  have sc' := ih_c o h2 (it_none h2)
  have sa := ih_a o h3 (it_none h3)
  have sb := ih_b o h4 (it_none h4)
  refine ⟨?_, (fun z => by cases z), (fun z => by cases z), (fun z => by cases z), fun _ z => by cases z⟩
  simp only [ev]
  exact s_ife (sc'.test h1) sa.ex sb.ex

theorem q_lrng (a : E) (ih_a : SA Γ N P cf mk n a) : SA Γ N P cf mk n (.lrng a) := by
  intro hot sc X d W md e o h _
  simp only [chkE] at h
  split at h <;> try contradiction
  simp only [Bool.and_eq_true, Bool.not_eq_true', decide_eq_true_eq] at h
  obtain ⟨⟨⟨⟨⟨⟨h1, rfl⟩, h2⟩, rfl⟩, h3⟩, h4⟩, h5⟩ := h
  subst h1
  obtain ⟨c1, c2, c3, c4⟩ := o.calm rfl
  obtain ⟨g1, g2⟩ := o.blt h2
  obtain ⟨g3, g4⟩ := o.blt h3
  have sa := ih_a o h5 (it_none h5)
  refine .ofNew ?_ rfl
  simp only [ev]
  exact s_lrng c1 g1 g2 g3 g4 sa.ex (star_cons h4 _ _)

theorem q_trng (a : E) (ih_a : SA Γ N P cf mk n a) : SA Γ N P cf mk n (.trng a) := by
  intro hot sc X d W md e o h _
  simp only [chkE] at h
  split at h <;> try contradiction
  simp only [Bool.and_eq_true, Bool.not_eq_true', decide_eq_true_eq] at h
  obtain ⟨⟨⟨⟨⟨⟨h1, rfl⟩, h2⟩, rfl⟩, h3⟩, h4⟩, h5⟩ := h
  subst h1
  obtain ⟨c1, c2, c3, c4⟩ := o.calm rfl
  obtain ⟨g1, g2⟩ := o.blt h2
  obtain ⟨g3, g4⟩ := o.blt h3
  have sa := ih_a o h5 (it_none h5)
  refine .val ?_ rfl rfl
  simp only [ev]
  exact s_trng c1 g1 g2 g3 g4 sa.ex (star_cons h4 _ _)

theorem q_rep (a : E) (b : E) (ih_a : SA Γ N P cf mk n a) (ih_b : SA Γ N P cf mk n b) : SA Γ N P cf mk n (.rep a b) := by
  intro hot sc X d W md e o h _
  simp only [chkE] at h
  split at h <;> try contradiction
  simp only [Bool.and_eq_true] at h
  obtain ⟨h2, h3⟩ := h
  have sa := ih_a o h2 (it_none h2)
  have sb := ih_b o h3 (it_none h3)
  refine .ofNew ?_ rfl
  simp only [ev]
  exact s_rep (w_of o h2 sa.ex) sb.ex

theorem q_isx (i : Nat) (c : Nat)  : SA Γ N P cf mk n (.isx i c) := by
  intro hot sc X d W md e o h _
  simp only [chkE] at h
  split at h <;> try contradiction
  simp only [Bool.and_eq_true, decide_eq_true_eq] at h
  obtain ⟨⟨⟨⟨rfl, h1⟩, h2⟩, h3⟩, h4⟩ := h
  obtain ⟨g1, g2⟩ := o.blt h1
  obtain ⟨x, p, rfl, n1, n2, n3, n4⟩ := o.name h2
  obtain ⟨g3, g4, g5⟩ := o.gl h3
  split at h4 <;> try contradiction
  rename_i c' hl
  have hc := of_decide_eq_true h4
  subst hc
  obtain ⟨C, k1, k2, k3, _⟩ := o.exc _ _ hl
  refine .val ?_ rfl rfl
  simp only [ev]
  exact s_isx k3 n1 n2 n3 n4 g3 k2 g4 g1 g2

theorem q_dict (ks : List T) (es : List E)  : SA Γ N P cf mk n (.dict ks es) := by
  intro hot sc X d W md e o h _
  simp only [chkE] at h
  split at h <;> try contradiction
  simp only [Bool.and_eq_true, decide_eq_true_eq] at h
  obtain ⟨⟨⟨⟨⟨h1, h2⟩, h3⟩, h4⟩, h5⟩, h6⟩ := h
  obtain ⟨ts, vs, k1, k2, k3, k4, k5, k6, k7, k8⟩ := dict_of (X := X) (d := d) (P := P) (cf := cf) (mk := mk) h1 h2 h3
  refine .val ?_ rfl rfl
  simp only [ev, k1]
  rw [k2]
  exact s_dict k3 k7 h3 (by intro z; subst z; simp at h4) h5 k5 (by omega) h6 k4 k6
theorem q_enil : SEs Γ N P cf mk n [] := by
  intro hot sc X d W l o h hl
  cases l with
  | cons _ _ => simp [chkEs] at h
  | nil =>
    simp only [evs]
    exact s_nil
theorem q_econs (e' : E) (es : List E) (ih : SA Γ N P cf mk n e') (ie : SEs Γ N P cf mk n es) : SEs Γ N P cf mk n (e' :: es) := by
  intro hot sc X d W l o h hl
  cases l with
  | nil => simp [chkEs] at h
  | cons e l =>
    simp only [chkEs, Bool.and_eq_true] at h
    simp only [List.all_cons, Bool.and_eq_true] at hl
    have sa := ih o h.1 (it_none h.1)
    have ss := ie o h.2 hl.2
    simp only [evs]
    exact s_cons sa.ex ss (star_cons hl.1 _ _)
theorem q_vnil : SVs Γ N P cf mk n [] := by
  intro hot sc X d W l o h hl
  cases l with
  | cons _ _ => simp [chkEs] at h
  | nil =>
    simp only [evVs]
    exact s_nilW
theorem q_vcons (e' : E) (es : List E) (ih : SA Γ N P cf mk n e') (ie : SVs Γ N P cf mk n es) : SVs Γ N P cf mk n (e' :: es) := by
  intro hot sc X d W l o h hl
  cases l with
  | nil => simp [chkEs] at h
  | cons e l =>
    simp only [chkEs, Bool.and_eq_true] at h
    simp only [List.all_cons, Bool.and_eq_true] at hl
    have sa := ih o h.1 (it_none h.1)
    have ss := ie o h.2 hl.2
    simp only [evVs]
    exact s_consW (w_of o h.1 sa.ex) ss (star_cons hl.1 _ _)
theorem q_irng (a : E) (ih_a : SA Γ N P cf mk n a) : SI Γ N P cf mk n (.rng a) := by
  intro sc X d W tgE itE o h _
  simp only [chkE] at h
  split at h <;> try contradiction
  simp only [Bool.and_eq_true, decide_eq_true_eq] at h
  obtain ⟨⟨⟨⟨h0, rfl⟩, h1⟩, h2⟩, h3⟩ := h
  obtain ⟨g1, g2⟩ := o.blt h1
  have sa := ih_a o h3 (it_none h3)
  simp only [ev]
  exact i_rng g1 g2 sa.ex (star_cons h2 _ _)
theorem q_irng2 (a b : E) (ih_a : SA Γ N P cf mk n a) (ih_b : SA Γ N P cf mk n b) : SI Γ N P cf mk n (.rng2 a b) := by
  intro sc X d W tgE itE o h _
  simp only [chkE] at h
  split at h <;> try contradiction
  simp only [Bool.and_eq_true, decide_eq_true_eq] at h
  obtain ⟨⟨⟨⟨⟨⟨h0, rfl⟩, h1⟩, h2⟩, h3⟩, h4⟩, h5⟩ := h
  obtain ⟨g1, g2⟩ := o.blt h1
  have sa := ih_a o h4 (it_none h4)
  have sb := ih_b o h5 (it_none h5)
  simp only [ev]
  exact i_rng2 g1 g2 sa.ex sb.ex (star_cons h2 _ _) (star_cons h3 _ _)
theorem q_ienum (a : E) (ih_a : SA Γ N P cf mk n a) : SI Γ N P cf mk n (.enum a) := by
  intro sc X d W tgE itE o h _
  simp only [chkE] at h
  split at h <;> try contradiction
  simp only [Bool.and_eq_true, decide_eq_true_eq] at h
  obtain ⟨⟨⟨⟨h0, rfl⟩, h1⟩, h2⟩, h3⟩ := h
  obtain ⟨g1, g2⟩ := o.blt h1
  have sa := ih_a o h3 (it_none h3)
  have ht : isTupTg tgE = true := Option.some.inj h0
  cases tgE <;> first | (cases ht; done) | skip
  simp only [ev]
  exact i_enum o.hK g1 g2 sa.ex (star_cons h2 _ _)
theorem q_f (nm : List Nat) (f : Nat) : SA Γ N P cf mk n (.f nm f) := by
  intro hot sc X d W md e o h _
  simp only [chkE] at h
  split at h <;> try contradiction
  rename_i x p
  simp only [Bool.and_eq_true] at h
  obtain ⟨h1, h2⟩ := h
  obtain ⟨g1, g2, g3⟩ := o.gl h1
  split at h2 <;> try contradiction
  rename_i g np hl
  have e1 := of_decide_eq_true h2
  subst e1
  obtain ⟨fa, fd, ps, k1, k2, k3, k4, k5, k6⟩ := o.fn x _ _ hl
  refine .val ?_ rfl rfl
  simp only [ev]
  exact s_const (pe_glob g1 k1 (show RelV (.ref fa) (.ref fa) from rfl) g2) fun G => ⟨fa, rfl, k2⟩
theorem view_of {e' : E} (h : isV e' = false) {r : Env} {S : Store} {x : Res T} : view r e' S x = x := by cases e' <;> first | rfl | (simp [isV] at h; done)
theorem own_map2 {tg tg2 : Tg} : (ownOf N tg ++ ownOf N tg2).map (·.2) = tg.slots ++ tg2.slots := by rw [List.map_append, own_map, own_map]
theorem q_comp2 (elt : E) (tg : Tg) (it : E) (tg2 : Tg) (it2 : E) (ih_elt : SA Γ N P cf mk n elt) (ih_it : SA Γ N P cf mk n it) (ii_it : SI Γ N P cf mk n it) (ih_it2 : SA Γ N P cf mk n it2) : SA Γ N P cf mk n (.comp2 elt tg it tg2 it2) := by
  intro hot sc X d W md e o h _
  simp only [chkE] at h
  split at h <;> try contradiction
  rename_i el tgE itE tgE2 itE2 scope pos
  simp only [Bool.and_eq_true, Bool.not_eq_true'] at h
  obtain ⟨⟨⟨⟨⟨⟨⟨⟨⟨h1, h2⟩, h2'⟩, hv⟩, h3⟩, h4⟩, h5⟩, h6⟩, h7⟩, h8⟩ := h
  subst h1
  obtain ⟨c1, c2, c3, c4⟩ := o.calm rfl
  have hi := i_of o h3 (fun hi => ii_it o h3 hi) (fun hi => ih_it o h3 hi)
  have ok := blkOk_by (o.hsc ▸ o.hN ▸ h4)
  refine .val (s_ofNew ?_) rfl rfl
  simp only [ev, compF_yes, view_of hv]
  exact s_comp2 (mi := fun r S => itM (view r it S (ev P cf mk r it S))) (mi2 := fun r S => itM (ev P cf mk r it2 S)) (me := fun r S => ev P cf mk r elt S) o.hK c1 (o.hN ▸ o.nd) own_map2 still_view still_view hi ok
    (fun s H C cl fp => tg_of (o.blk) c1 (fun x hx => by simp [hx]) h5) (fun s H C cl fp => i_anyE o.hK (ih_it2 o.blk h6 (it_none h6)).ex) (fun s H C cl fp => tg_of (o.blk) c1 (fun x hx => by simp [hx]) h7)
    (fun s H C cl fp => (ih_elt o.blk h8 (it_none h8)).ex) (no_fold h2 _) (fun env => no_fold h2' env)
theorem q_setlen (elt : E) (tg : Tg) (it : E) (ih_elt : SA Γ N P cf mk n elt) (ih_it : SA Γ N P cf mk n it) (ii_it : SI Γ N P cf mk n it) : SA Γ N P cf mk n (.setlen elt tg it) := by
  intro hot sc X d W md e o h _
  simp only [chkE] at h
  split at h <;> try contradiction
  rename_i x xp el tgE itE scope spos pos
  simp only [Bool.and_eq_true, Bool.not_eq_true', decide_eq_true_eq] at h
  obtain ⟨⟨⟨⟨⟨⟨⟨h1, rfl⟩, hb⟩, h2⟩, h3⟩, h4⟩, h5⟩, h6⟩ := h
  subst h1
  obtain ⟨c1, c2, c3, c4⟩ := o.calm rfl
  obtain ⟨g1, g2⟩ := o.blt hb
  have hi := i_of o h3 (fun hi => ii_it o h3 hi) (fun hi => ih_it o h3 hi)
  have ok := blkOk_by (o.hsc ▸ o.hN ▸ h4)
  refine .val ?_ rfl rfl
  simp only [ev, compF_yes]
  exact s_setlen (mi := fun r S => itM (view r it S (ev P cf mk r it S))) (me := fun r S => ev P cf mk r elt S) o.hK c1 (un0 o) (o.hN ▸ o.nd) own_map still_view g1 g2 hi ok
    (fun s H C cl fp => tg_of (o.blk) c1 (fun x hx => by simp [hx]) h5) (fun s H C cl fp => (ih_elt o.blk h6 (it_none h6)).ex) (no_fold h2 _)
theorem q_callV (a : E) (es : List E) (ih_a : SA Γ N P cf mk n a) (ie_es : SEs Γ N P cf mk n es) : SA Γ N P cf mk n (.callV a es) := by
  intro hot sc X d W md e o h _
  cases a <;> simp only [chkE] at h <;> try contradiction
  case sub b i hz =>
    split at h <;> try contradiction
    rename_i ob j p y l pos
    simp only [Bool.and_eq_true, Bool.not_eq_true'] at h
    obtain ⟨⟨⟨⟨h1, h3⟩, h4⟩, h2⟩, h5⟩ := h
    subst h1
    obtain ⟨c1, c2, c3, c4⟩ := o.calm rfl
    have hc : chkE Γ N none false sc (.sub b i) (.Subscript ob j p) = true := by simp only [chkE, Bool.and_eq_true]; exact h2
    have sa := ih_a o hc (it_none hc)
    have hs := ie_es o h5 (by simp only [List.all_cons, h3, h4, Bool.and_self])
    refine .val ?_ rfl rfl
    simp only [ev]
    have := s_callE (k := 2 * n) (pos := pos) (o.fv rfl) (c2.mono (by omega)) c3 sa.ex hs rfl (star_cons h3 _ _) (star_none _ h4 _ _)
    simp only [ev] at this
    exact this
  rename_i i
  split at h <;> try contradiction
  rename_i x p y l pos
  simp only [Bool.and_eq_true, Bool.not_eq_true'] at h
  obtain ⟨⟨⟨⟨h1, h2⟩, h3⟩, h4⟩, h5⟩ := h
  subst h1
  obtain ⟨c1, c2, c3, c4⟩ := o.calm rfl
  obtain ⟨x', p', he, n1, n2, n3, n4⟩ := o.name h2
  cases he
  have hs := ie_es o h5 (by simp only [List.all_cons, h3, h4, Bool.and_self])
  refine .val ?_ rfl rfl
  simp only [ev]
  exact s_callV (o.fv rfl) (c2.mono (by omega)) n1 n2 c3 hs n3 n4 (star_cons h3 _ _) (star_none _ h4 _ _)
theorem q_meth (m : Nat) (a : E) (es : List E) (ih_a : SA Γ N P cf mk n a) (ie_es : SEs Γ N P cf mk n es) : SA Γ N P cf mk n (.meth m a es) := by
  intro hot sc X d W md e o h _
  simp only [chkE] at h
  split at h <;> try contradiction
  rename_i ob mm ap y l pc
  simp only [Bool.and_eq_true, Bool.not_eq_true', decide_eq_true_eq] at h
  obtain ⟨⟨⟨⟨⟨⟨⟨⟨h1, h2⟩, h3⟩, h4⟩, h5⟩, h6⟩, h7⟩, h8⟩, h9⟩ := h
  subst h1
  obtain ⟨c1, c2, c3, c4⟩ := o.calm rfl
  have sa := ih_a o h8 (it_none h8)
  have hall : (List.all (y :: l) noStar) = true := by
    simp only [List.all_cons, h4, h5, Bool.and_self]
  have hs := ie_es o h9 hall
  refine .val ?_ rfl rfl
  simp only [ev]
  exact s_meth (o.mt rfl _ _ h2) sa.ex (c2.mono (by omega)) c3 hs (star_cons h4 _ _) (star_none _ h5 _ _) (meth_eq h3 hall (by simp only [List.length_cons]; omega) h7)
theorem q_mk (c : Nat) (es : List E) (ie_es : SEs Γ N P cf mk n es) : SA Γ N P cf mk n (.mk c es) := by
  intro hot sc X d W md e o h _
  simp only [chkE] at h
  split at h <;> try contradiction
  rename_i x p y l pos
  simp only [Bool.and_eq_true, Bool.not_eq_true'] at h
  obtain ⟨⟨⟨⟨⟨h1, h2⟩, h3⟩, h4⟩, h5⟩, h6⟩ := h
  subst h1
  obtain ⟨c1, c2, c3, c4⟩ := o.calm rfl
  obtain ⟨g1, g2, g3⟩ := o.gl h2
  split at h3 <;> try contradiction
  rename_i c' np hl
  have e1 := of_decide_eq_true h3
  subst e1
  obtain ⟨C, fi, fd, ps, np', k1, k2, k3, k4, k5⟩ := o.cl rfl _ _ _ hl
  have hall : (List.all (y :: l) noStar) = true := by
    simp only [List.all_cons, h4, h5, Bool.and_self]
  have hs := ie_es o h6 hall
  refine .val ?_ rfl rfl
  simp only [ev]
  exact s_mk k2 k4 k5 (c2.mono (by omega)) g1 k1 k3 c3 hs g2 (star_cons h4 _ _) (star_none _ h5 _ _)
theorem q_attrS (a : E) (f : Nat) (ih_a : SA Γ N P cf mk n a) : SA Γ N P cf mk n (.attr a f) := by
  intro hot sc X d W md e o h _
  simp only [chkE] at h
  split at h <;> try contradiction
  simp only [Bool.and_eq_true, decide_eq_true_eq] at h
  obtain ⟨⟨h1, h2⟩, h3⟩ := h
  obtain ⟨rfl, k2, k3⟩ := o.at_ _ _ h2
  have sa := ih_a o h3 (it_none h3)
  refine .val ?_ rfl rfl
  simp only [ev]
  exact s_attr (no_base h1 _ _ _) k2 o.inj k3 (w_of o h3 sa.ex)
mutual
theorem snd : ∀ e' : E, SA Γ N P cf mk n e'
  | .k t => q_k _ 
  | .v i => q_v _ 
  | .g nm t => q_g _ _ 
  | .tup es => q_tup _ (sndEs es)
  | .disp es => q_disp _ (sndEs es)
  | .comp elt tg it => q_comp _ _ _ (snd elt) (snd it) (sndIE it)
  | .compI elt tg it t => q_compI _ _ _ _ (snd elt) (snd it) (sndIE it) (snd t)
  | .lof a => q_lof _ (snd a)
  | .tof a => q_tof _ (snd a)
  | .sorted a => q_sorted _ (snd a)
  | .sub a i => q_sub _ _ (snd a) (snd i)
  | .slice a l u => q_slice _ _ _ (snd a) (snd l) (snd u)
  | .sliceL a l => q_sliceL _ _ (snd a) (snd l)
  | .sliceR a l => q_sliceR _ _ (snd a) (snd l)
  | .op op a b => q_op _ _ _ (snd a) (snd b)
  | .cat a b => q_cat _ _ (snd a) (snd b)
  | .neg a => q_neg _ (snd a)
  | .cmp c a b => q_cmp _ _ _ (snd a) (snd b)
  | .chain c c' a b z => q_chain _ _ _ _ _ (snd a) (snd b) (snd z)
  | .isK ng a t => q_isK _ _ _ (snd a)
  | .not a => q_not _ (snd a)
  | .call f es => q_call _ _ (sndEs es)
  | .bi b es => q_bi _ _ (sndVs es)
  | .isi a ty => q_isi _ _ (snd a)
  | .isi2 a ty ty2 => q_isi2 _ _ _ (snd a)
  | .join a => q_join _ (snd a)
  | .cell a => q_cell _ (snd a)
  | .and a b => q_and _ _ (snd a) (snd b)
  | .or a b => q_or _ _ (snd a) (snd b)
  | .ife c a b => q_ife _ _ _ (snd c) (snd a) (snd b)
  | .lrng a => q_lrng _ (snd a)
  | .trng a => q_trng _ (snd a)
  | .rep a b => q_rep _ _ (snd a) (snd b)
  | .isx i c => q_isx _ _ 
  | .dict ks es => q_dict _ _ 
  | .f nm f => q_f nm f
  | .comp2 elt tg it tg2 it2 => q_comp2 _ _ _ _ _ (snd elt) (snd it) (sndIE it) (snd it2)
  | .callV a es => q_callV a es (snd a) (sndEs es)
  | .meth m a es => q_meth m a es (snd a) (sndEs es)
  | .mk c es => q_mk c es (sndEs es)
  | .attr a f => q_attrS a f (snd a)
  | .index a b => q_index _ _ (snd a) (snd b)
  | .setlen elt tg it => q_setlen _ _ _ (snd elt) (snd it) (sndIE it)
  | .rng _ => fun _ _ h => nomatch h
  | .rng2 _ _ => fun _ _ h => nomatch h
  | .enum _ => fun _ _ h => nomatch h
theorem sndEs : ∀ es : List E, SEs Γ N P cf mk n es
  | [] => q_enil
  | e' :: es => q_econs _ _ (snd e') (sndEs es)
theorem sndVs : ∀ es : List E, SVs Γ N P cf mk n es
  | [] => q_vnil
  | e' :: es => q_vcons _ _ (snd e') (sndVs es)
theorem sndIE : ∀ it : E, SI Γ N P cf mk n it
  | .rng a => q_irng _ (snd a)
  | .rng2 a b => q_irng2 _ _ (snd a) (snd b)
  | .enum a => q_ienum _ (snd a)
  | .k _ => fun _ _ h => nomatch h
  | .v _ => fun _ _ h => nomatch h
  | .g _ _ => fun _ _ h => nomatch h
  | .f _ _ => fun _ _ h => nomatch h
  | .tup _ => fun _ _ h => nomatch h
  | .disp _ => fun _ _ h => nomatch h
  | .comp _ _ _ => fun _ _ h => nomatch h
  | .compI _ _ _ _ => fun _ _ h => nomatch h
  | .comp2 _ _ _ _ _ => fun _ _ h => nomatch h
  | .lof _ => fun _ _ h => nomatch h
  | .lrng _ => fun _ _ h => nomatch h
  | .trng _ => fun _ _ h => nomatch h
  | .tof _ => fun _ _ h => nomatch h
  | .sorted _ => fun _ _ h => nomatch h
  | .sub _ _ => fun _ _ h => nomatch h
  | .slice _ _ _ => fun _ _ h => nomatch h
  | .sliceL _ _ => fun _ _ h => nomatch h
  | .sliceR _ _ => fun _ _ h => nomatch h
  | .op _ _ _ => fun _ _ h => nomatch h
  | .cat _ _ => fun _ _ h => nomatch h
  | .rep _ _ => fun _ _ h => nomatch h
  | .neg _ => fun _ _ h => nomatch h
  | .cmp _ _ _ => fun _ _ h => nomatch h
  | .chain _ _ _ _ _ => fun _ _ h => nomatch h
  | .isK _ _ _ => fun _ _ h => nomatch h
  | .and _ _ => fun _ _ h => nomatch h
  | .or _ _ => fun _ _ h => nomatch h
  | .not _ => fun _ _ h => nomatch h
  | .ife _ _ _ => fun _ _ h => nomatch h
  | .call _ _ => fun _ _ h => nomatch h
  | .callV _ _ => fun _ _ h => nomatch h
  | .meth _ _ _ => fun _ _ h => nomatch h
  | .mk _ _ => fun _ _ h => nomatch h
  | .attr _ _ => fun _ _ h => nomatch h
  | .bi _ _ => fun _ _ h => nomatch h
  | .isi _ _ => fun _ _ h => nomatch h
  | .isi2 _ _ _ => fun _ _ h => nomatch h
  | .isx _ _ => fun _ _ h => nomatch h
  | .cell _ => fun _ _ h => nomatch h
  | .join _ => fun _ _ h => nomatch h
  | .index _ _ => fun _ _ h => nomatch h
  | .setlen _ _ _ => fun _ _ h => nomatch h
  | .dict _ _ => fun _ _ h => nomatch h
end
end
end Hf
end

section
set_option Elab.async false
set_option linter.all false
set_option maxRecDepth 100000
set_option maxHeartbeats 4000000
/-! HfS20: is this text this small syntax? the statements. -/
namespace Hf
open PySem PySem.Spec PyProof.Rows L2
def noComp' : Expr → Bool
  | .SetComp _ _ _ _ => false
  | .DictComp _ _ _ _ _ => false
  | _ => true
theorem attr_swap {e o : Expr} {f : PySem.Str} {p : Pos} (h : noComp' e = true) (l : Nat) (env : PySem.Env) : swapsWith e (some (.Attribute o f p)) l env = pure false := by cases e <;> first | rfl | (simp [noComp'] at h)
/-- a list by a comprehension, stored straight into a local name -/
def swT (sc : Scope) (e tg : Expr) : Bool := match e with
  | .ListComp _ _ s pos => (match tg with
    | .Name y py => decide (sc.kind = .function) && decide (sc.names.lookup y = some .local) && (py.line == pos.line) && !(s.names.any fun (n, k) => n == y && (k == .local || k == .cell))
    | _ => false)
  | _ => false
/-- .. not so -/
def swF (sc : Scope) (e tg : Expr) : Bool := match e with
  | .ListComp _ _ s pos => (match tg with
    | .Name y py => !(decide (sc.names.lookup y = some .local)) || !(py.line == pos.line) || (s.names.any fun (n, k) => n == y && (k == .local || k == .cell))
    | _ => true)
  | .SetComp _ _ _ _ => false
  | .DictComp _ _ _ _ _ => false
  | _ => true
theorem swF_ok {e tg : Expr} {env : PySem.Env} (h : swF env.scope e tg = true) (l : Nat) : swapsWith e (some tg) l env = pure false := by
  cases e <;> first | rfl | (simp [swF] at h; done) | skip
  rename_i el gs s pos
  cases tg <;> first | rfl | skip
  rename_i y py
  simp only [swF, Bool.or_eq_true, Bool.not_eq_true', decide_eq_false_iff_not] at h
  unfold swapsWith
  have ky : env.kindOf y = env.scope.names.lookup y := rfl
  simp only [ky, Expr.pos]
  rcases h with (h | h) | h
  · have : (List.lookup y env.scope.names == some NameKind.local) = false := by
      cases q : (List.lookup y env.scope.names == some NameKind.local) with
      | false => rfl
      | true => exact absurd (beq_iff_eq.mp q) h
    simp [this]
  · simp [h]
  · simp only [h, Bool.not_true, Bool.and_false]
theorem swT_lc {sc : Scope} {e tg : Expr} (h : swT sc e tg = true) : isLc e = true ∧ ∃ y py, tg = .Name y py ∧ sc.names.lookup y = some .local := by
  cases e <;> simp only [swT] at h <;> try contradiction
  cases tg <;> simp only [] at h <;> try contradiction
  simp only [Bool.and_eq_true, decide_eq_true_eq] at h
  exact ⟨rfl, _, _, rfl, h.1.1.2⟩
theorem swT_ok {e : Expr} {y : PySem.Str} {py : Pos} {env : PySem.Env} (h : swT env.scope e (.Name y py) = true) (l : Nat) : swapsWith e (some (.Name y py)) l env = pure true := by
  cases e <;> simp only [swT] at h <;> try contradiction
  simp only [Bool.and_eq_true, decide_eq_true_eq, Bool.not_eq_true'] at h
  exact sw_true h.1.1.1 h.1.1.2 h.1.2 h.2
section
variable (Γ : Gam) (N : List PySem.Str)
def excC (sc : Scope) (x : PySem.Str) (c : Nat) : Bool := glC sc x && (match Γ.names.lookup x with
  | some (.exc c') => decide (c' = c)
  | _ => false)
/-- either of two new lists -/
def isIfN : E → Bool
  | .ife _ a b => isNew a && isNew b
  | _ => false
mutual
def chkS : Bool → Scope → S → Stmt → Bool
  | h, sc, .asg tg e', st => (match st with
    | .Assign [tgE] e _ => !h && noStar tgE && (swF sc e tgE || (swT sc e tgE && isNew e')) && (noTup e || isName tgE) && tgC N sc sc tg tgE && chkE Γ N none h sc e' e
    | _ => false)
  | h, sc, .own i e', st => (match st with
    | .Assign [.Name x p] e _ => !h && ((swF sc e (.Name x p) || swT sc e (.Name x p)) && isNew e' || swF sc e (.Name x p) && isIfN e') && locC N sc sc i (.Name x p) && chkE Γ N none h sc e' e
    | _ => false)
  | h, sc, .push i e', st => (match st with
    | .Expr (.Call (.Attribute (.Name x p) m ap) [e] [] cp) _ => !h && decide (m = "append") && nameC N sc i (.Name x p) && noStar e && (ap.endLine == cp.line) && chkE Γ N none h sc e' e
    | _ => false)
  | h, sc, .ext i e', st => (match st with
    | .Expr (.Call (.Attribute (.Name x p) m ap) [e] [] cp) _ => !h && decide (m = "extend") && nameC N sc i (.Name x p) && noStar e && isNew e' && (ap.endLine == cp.line) && chkE Γ N none h sc e' e
    | _ => false)
  | h, sc, .seti i k e', st => (match st with
    | .Assign [.Subscript (.Name x p) y _] e _ => !h && noComp e && noTup e && noSlice y && nameC N sc i (.Name x p) && chkE Γ N none h sc k y && chkE Γ N none h sc e' e
    | _ => false)
  | h, sc, .setc a k e', st => (match st with
    | .Assign [.Subscript x y _] e _ => !h && noComp e && noTup e && noSlice y && chkE Γ N none h sc a x && chkE Γ N none h sc k y && chkE Γ N none h sc e' e
    | _ => false)
  | h, sc, .pushc a e', st => (match st with
    | .Expr (.Call (.Attribute o m ap) [e] [] cp) _ => !h && decide (m = "append") && noCall o && noStar e && (ap.endLine == cp.line) && chkE Γ N none h sc a o && chkE Γ N none h sc e' e
    | _ => false)
  | h, sc, .attr i a e', st => (match st with
    | .Assign [.Attribute (.Name x p) m _] e _ => !h && noComp' e && nameC N sc i (.Name x p) && decide (Γ.attrs.lookup a = some m) && chkE Γ N none h sc e' e
    | _ => false)
  | h, sc, .ex e', st => (match st with
    | .Expr e _ => noComp e && chkE Γ N none h sc e' e
    | _ => false)
  | h, sc, .ret e', st => (match st with
    | .Return (some e) _ => chkE Γ N none h sc e' e
    | _ => false)
  | _, _, .retN, st => (match st with
    | .Return none _ => true
    | _ => false)
  | h, sc, .ife c a b, st => (match st with
    | .If t x y _ => chkT t && chkE Γ N none h sc c t && chkB h sc a x && chkB h sc b y
    | _ => false)
  | h, sc, .loop tg it b, st => (match st with
    | .For tgE itE body [] _ => !h && noSet itE && chkE Γ N (some (isTupTg tgE)) false sc it itE && tgC N sc sc tg tgE && chkB h sc b body
    | _ => false)
  | h, sc, .raise c, st => (match st with
    | .Raise (some (.Call (.Name x _) [.Constant (.str _) _ _] [] _)) none _ => !h && excC Γ sc x c
    | _ => false)
  | h, sc, .tryx b c hb, st => (match st with
    | .Try body [.ExceptHandler (some (.Name x _)) none (s :: suite) _] [] [] _ => !h && excC Γ sc x c && chkB h sc b body && chkB true sc hb (s :: suite)
    | _ => false)
  | h, sc, .tryn b c i hb, st => (match st with
    | .Try body [.ExceptHandler (some (.Name x _)) (some m) (s :: suite) _] [] [] _ => !h && decide (N[i]? = some m) && decide (sc.names.lookup m = some .local) && excC Γ sc x c && chkB h sc b body && chkB true sc hb (s :: suite)
    | _ => false)
  | h, sc, .tryn2 b c hb c2 hb2 i, st => (match st with
    | .Try body [.ExceptHandler (some (.Name x _)) (some m) (s :: suite) _, .ExceptHandler (some (.Name x2 _)) (some m2) (s2 :: suite2) _] [] [] _ => !h && decide (N[i]? = some m) && decide (m2 = m) && decide (sc.names.lookup m = some .local) && excC Γ sc x c && excC Γ sc x2 c2 && chkB h sc b body && chkB true sc hb (s :: suite) && chkB true sc hb2 (s2 :: suite2)
    | _ => false)
  | _, _, .brk, st => (match st with
    | .Break _ => true
    | _ => false)
  | _, _, .cont, st => (match st with
    | .Continue _ => true
    | _ => false)
  | _, _, .pass, st => (match st with
    | .Pass _ => true
    | _ => false)
  | _, _, _, _ => false
def chkB : Bool → Scope → List S → List Stmt → Bool
  | _, _, [], sts => sts.isEmpty
  | h, sc, s :: l, sts => (match s with
    | .frz _ => chkB h sc l sts
    | _ => false) || (match sts with
    | [] => false
    | st :: sts => chkS h sc s st && chkB h sc l sts)
end
theorem chkS_pass (h : Bool) (sc : Scope) (p : Pos) : chkS Γ N h sc .pass (.Pass p) = true := by simp only [chkS]
theorem chkB_nil (h : Bool) (sc : Scope) : chkB Γ N h sc [] [] = true := by simp only [chkB]; rfl
end
section
variable {Γ : Gam} {N : List PySem.Str} {P : Prog} {cf mk : Nat → List T → Store → Res T} {n : Nat} {hot : Bool} {sc : Scope} {X : Cx} {d : D} {W : WX}
/-- the classes of errors ask isinstance rightly -/
def ExcsOk (X : Cx) (d : D) : Prop := ∀ e E, d.xa e = some E → ExcC X.K E
structure OkS (Γ : Gam) (N : List PySem.Str) (P : Prog) (cf mk : Nat → List T → Store → Res T) (n : Nat) (hot : Bool) (sc : Scope) (X : Cx) (d : D) (W : WX) : Prop where
  o : Ok Γ N P cf mk n hot sc X d W
  st : X.stack = X.env :: X.outer
  fr : X.env.frame = some X.env.locals
  fn : X.fn = fun _ => true
  po : hot = false → PassesOwn (model X.prog X.w) X.A X.env X.xe
  xs : ExcsOk X d
def SS (Γ : Gam) (N : List PySem.Str) (P : Prog) (cf mk : Nat → List T → Store → Res T) (n : Nat) (s : S) : Prop := ∀ {hot : Bool} {sc : Scope} {X : Cx} {d : D} {W : WX} {st : Stmt}, OkS Γ N P cf mk n hot sc X d W → chkS Γ N hot sc s st = true → PS X st (tS d W (ex P cf mk s))
def SB (Γ : Gam) (N : List PySem.Str) (P : Prog) (cf mk : Nat → List T → Store → Res T) (n : Nat) (l : List S) : Prop := ∀ {hot : Bool} {sc : Scope} {X : Cx} {d : D} {W : WX} {sts : List Stmt}, OkS Γ N P cf mk n hot sc X d W → chkB Γ N hot sc l sts = true → PSs X sts (tS d W (exs P cf mk l))
theorem OkS.tr (k : OkS Γ N P cf mk n false sc X d W) {pn : List (Addr × Obj)} {xe : Value → Shared → Prop} {W' : WX} (tk : Takes (X.tr pn xe) W') (po : PassesOwn (model X.prog X.w) X.A X.env xe) : OkS Γ N P cf mk n false sc (X.tr pn xe) d W' := by
  obtain ⟨c1, c2, c3, c4⟩ := k.o.calm rfl
  refine ⟨⟨k.o.hK, k.o.hw, k.o.hN, k.o.nd, k.o.hsc, k.o.un, fun _ => ⟨c1, c2, tk, c4⟩, k.o.val, k.o.fn, fun x c h => ?_, k.o.free, k.o.at_, k.o.inj, k.o.mt, k.o.cl, k.o.fv⟩, k.st, k.fr, k.fn, fun _ => po, fun e E h => k.xs e E h⟩
  obtain ⟨C, h1, h2, h3, ⟨b1, b2, b3, b4, r1, r2, r3, r4⟩, h5⟩ := k.o.exc x c h
  exact ⟨C, h1, h2, (fun a e hm => absurd (c4 ▸ hm) (by simp)), ⟨b1, b2, b3, b4, r1, r2, r3, r4⟩, h5⟩
theorem const_at {t : T} {v : V} {p : List (Addr × Nat)} (h : ∀ G, RepV d G t v) : ∀ G, RepV (d.at p) G t v := fun G => RepV.at t (h G)
theorem fnG_at {k : Nat} {fa : Addr} {fd : FuncData} {ps : List PySem.Str} {np : Nat} {sem : List T → Store → Res T} {p : List (Addr × Nat)} (F : FnG X.prog X.w X.K X.mg X.base k fa fd ps (spT d np sem)) : FnG X.prog X.w X.K X.mg X.base k fa fd ps (spT (d.at p) np sem) := by
  have imp : ∀ vs H Q E, spT (d.at p) np sem vs H Q E → spT d np sem vs H Q E := fun vs H Q E ⟨hl, G, xs, S, R, ra, q⟩ => by
    refine ⟨hl, G, xs, S, R.back, RepAll.at (d := d.at p) (p := d.pn) xs ra, ?_⟩
    cases es : sem xs S with
    | bad => rw [es] at q; exact q
    | exn c S' => rw [es] at q; exact fun x G' H' ex s' R' => q x G' H' ex s' R'.at
    | ok t S' => rw [es] at q; exact fun G' v H' s' R' rv => q G' v H' s' R'.at (RepV.at t rv)
  exact ⟨fun vs H Q E h => F.len vs H Q E (imp _ _ _ _ h), fun A outer s H args us vs Q E hr e0 hb r h => F.run A outer s H args us vs Q E hr e0 hb r (imp _ _ _ _ h)⟩
theorem OkS.suite (k : OkS Γ N P cf mk n false sc X d W) {a : Addr} {oe : Obj} {e : Nat} {C : Addr} {pn : List (Addr × Obj)} (hx : d.xa e = some C) (hz : Zc (.ref C) none oe) (hf : ∃ vs, oe.data = .fields vs) :
    OkS Γ N P cf mk n true sc (X.suite a ((a, oe) :: pn)) (d.at [(a, e)]) W0 := by
  refine ⟨⟨k.o.hK, k.o.hw, k.o.hN, k.o.nd, k.o.hsc, k.o.un, (fun z => by cases z), fun x t h => ?_, fun x f np h => ?_, fun x c h => ?_, k.o.free, k.o.at_, k.o.inj, (fun z => by cases z), (fun z => by cases z), (fun z => by cases z)⟩, k.st, k.fr, k.fn, (fun z => by cases z), fun e E h => k.xs e E h⟩
  · obtain ⟨u, v, h1, h2, h3⟩ := k.o.val x t h
    exact ⟨u, v, h1, h2, const_at h3⟩
  · obtain ⟨fa, fd, ps, k1, k2, k3, k4, k5, k6⟩ := k.o.fn x f np h
    exact ⟨fa, fd, ps, k1, k2, k3, k4, k5, fnG_at k6⟩
  · obtain ⟨C', h1, h2, h3, ⟨b1, b2, b3, b4, r1, r2, r3, r4⟩, h5⟩ := k.o.exc x c h
    refine ⟨C', h1, h2, fun a' e' hm => ?_, ⟨b1, b2, b3, b4, r1, r2, r3, r4⟩, h5⟩
    have hm := List.mem_singleton.mp hm
    cases hm
    exact ⟨C, hx, call_isE (k.xs e C hx) hz hf, (h5 e C hx).2⟩
theorem OkS.cls (k : OkS Γ N P cf mk n false sc X d W) {x : PySem.Str} {c : Nat} (h : excC Γ sc x c = true) : ∃ C, d.xa c = some C ∧ ClsX X d P.sub x c (.ref C) ∧ RaiseOk X x C ∧ X.mg x = some (.ref C) ∧ Gl X x ∧ (x == ("__debug__" : PySem.Str)) = false := by
  unfold excC at h
  simp only [Bool.and_eq_true] at h
  obtain ⟨g1, g2, g3⟩ := k.o.gl h.1
  have h2 := h.2
  split at h2 <;> try contradiction
  rename_i c' hl
  have hc := of_decide_eq_true h2
  subst hc
  obtain ⟨C, h1, h2, h3, h4, h5⟩ := k.o.exc x _ hl
  exact ⟨C, h1, ⟨⟨g1, g2, .inl h2⟩, fun e E he => (h5 e E he).1⟩, h4, h2, g1, g2⟩
theorem assign_one {tg : Expr} (h : noStar tg = true) (env : PySem.Env) : (assignEach [tg] env).map (·.2) = [assign tg env] := by cases tg <;> first | rfl | (simp [noStar] at h)
theorem no_sole {t e : Expr} (h : noComp e = true) (l : Nat) (env : PySem.Env) : swapsWithSole [t] e l env = pure false := no_swap h (some t) l env
theorem toB_if {m : Env → Store → Res T} {m1 m2 : Env → Store → SRes} {r : Env} {S : Store} : ((m r S).toS r fun x S => match x with
    | .bl true => m1 r S
    | .bl false => m2 r S
    | _ => .bad) = ifM (toB m) m1 m2 r S := by
  unfold ifM toB
  cases m r S with
  | ok t S' => cases t <;> first | rfl | (rename_i b; cases b <;> rfl)
  | _ => rfl
theorem eq_fun {s : S} {m : Env → Store → SRes} (h : ∀ r S, ex P cf mk s r S = m r S) : ex P cf mk s = m := by funext r S; exact h r S
theorem new_lst' {e' : E} (h : isNew e' = true) : ∀ {r : Env} {S : Store} {t : T} {S' : Store}, ev P cf mk r e' S = .ok t S' → ∃ xs, t = .lst xs := by
  intro r S t S' he
  have bd : ∀ {α : Type} {x : Res α} {k : α → Store → Res T}, (∀ a S1 t S', k a S1 = .ok t S' → ∃ xs, t = .lst xs) → x.bind k = .ok t S' → ∃ xs, t = .lst xs := by
    intro α x k hk hx
    cases x with
    | ok a S1 => exact hk a S1 _ _ hx
    | exn c S1 => cases hx
    | bad => cases hx
  cases e' <;> simp only [isNew] at h <;> try contradiction
  · simp only [ev] at he
    exact bd (fun a S1 t S' q => by cases q; exact ⟨_, rfl⟩) he
  · simp only [ev] at he
    exact bd (fun p S1 t S' q => by
      cases hz : compLoop _ _ p.2 S1 with
      | ok ys S2 => rw [hz] at q; cases q; exact ⟨_, rfl⟩
      | exn c S2 => rw [hz] at q; cases q
      | bad => rw [hz] at q; cases q) he
  · simp only [ev] at he
    exact bd (fun p S1 t S' q => by
      cases hz : compLoop _ _ p.2 S1 with
      | ok ys S2 => rw [hz] at q; cases q; exact ⟨_, rfl⟩
      | exn c S2 => rw [hz] at q; cases q
      | bad => rw [hz] at q; cases q) he
  · simp only [ev] at he
    exact bd (fun a S1 t S' q => by
      split at q
      · cases q; exact ⟨_, rfl⟩
      · cases q; exact ⟨_, rfl⟩
      · cases q) he
  · simp only [ev] at he
    exact bd (fun a S1 t S' q => by
      cases a <;> simp only [asI] at q <;> try (cases q; done)
      split at q
      · cases q; exact ⟨_, rfl⟩
      · cases q) he
  · simp only [ev] at he
    exact bd (fun a S1 t S' q => by
      cases hz : look S1 a <;> rw [hz] at q <;> simp only [T.sorted, Res.of] at q <;> try (cases q; done)
      cases hy : intsOf _ <;> rw [hy] at q
      · cases q
      · cases q; exact ⟨_, rfl⟩) he
  · simp only [ev] at he
    exact bd (fun a S1 t S' q => by
      cases hz : view _ _ S1 _ with
      | ok y S2 =>
        rw [hz] at q
        simp only [Res.bind] at q
        split at q
        · split at q
          · cases q; exact ⟨_, rfl⟩
          · cases q
        · cases q
      | exn c S2 => rw [hz] at q; cases q
      | bad => rw [hz] at q; cases q) he
  · simp only [ev] at he
    exact bd (fun a S1 t S' q => by
      cases hz : ev P cf mk _ _ S1 with
      | ok y S2 =>
        rw [hz] at q
        simp only [Res.bind] at q
        split at q
        · split at q
          · cases q; exact ⟨_, rfl⟩
          · cases q
        · cases q
      | exn c S2 => rw [hz] at q; cases q
      | bad => rw [hz] at q; cases q) he
theorem p_asg (tg : Tg) (e' : E) : SS Γ N P cf mk n (.asg tg e') := by
  intro hot sc X d W st k h
  simp only [chkS] at h
  split at h <;> try contradiction
  rename_i tgE e pos
  simp only [Bool.and_eq_true, Bool.not_eq_true', Bool.or_eq_true] at h
  obtain ⟨⟨⟨⟨⟨h1, h2⟩, h3⟩, h4⟩, h5⟩, h6⟩ := h
  subst h1
  obtain ⟨c1, c2, c3, c4⟩ := k.o.calm rfl
  have sa := snd (mk := mk) e' k.o h6 (it_none h6)
  rw [eq_fun (m := asgM tg fun r S => ev P cf mk r e' S) fun r S => by simp only [ex]; rfl]
  rcases h3 with h3 | ⟨h3, h7⟩
  · exact s_asg k.o.hK sa.ex (tg_of k.o c1 (fun x hx => by rw [k.fn]) h5) (swF_ok (by rw [k.o.hsc]; exact h3) _) (h4.elim (fun z => no_pair z _) fun z => name_pair z _) (assign_one h2 _)
  · obtain ⟨l1, y, py, rfl, l2⟩ := swT_lc h3
    cases tg with
    | t is => cases h5
    | n i =>
      have h5 : locC N sc sc i (.Name y py) = true := h5
      obtain ⟨x', p', he, n1, n2, n3⟩ := k.o.loc h5
      cases he
      refine PS_imp (sa.sto l1 h7 n1 (by rw [k.o.hsc]; exact l2) (swT_ok (by rw [k.o.hsc]; exact h3) _)) fun D σ H q => ?_
      have q2 : tE d W (fun r S => ev P cf mk r e' S) σ H (fun v H1 => tBind X.K (.n i) v σ H1 D.nx) := asg_imp k.o.hK q
      exact tE_tN q2 fun r S t S' z => new_lst' h7 z
theorem new_if {e' : E} {e : Expr} {hot : Bool} {sc : Scope} {X : Cx} {d : D} {W : WX} (o : Ok Γ N P cf mk n hot sc X d W) (h : chkE Γ N none hot sc e' e = true) (hn : isIfN e' = true) : PE X e (tN d W fun r S => ev P cf mk r e' S) := by
  cases e' <;> simp only [isIfN] at hn <;> try contradiction
  rename_i c a b
  simp only [chkE] at h
  split at h <;> try contradiction
  simp only [Bool.and_eq_true] at h hn
  obtain ⟨⟨⟨h1, h2⟩, h3⟩, h4⟩ := h
  have sc' := snd (mk := mk) c o h2 (it_none h2)
  have sa := snd (mk := mk) a o h3 (it_none h3)
  have sb := snd (mk := mk) b o h4 (it_none h4)
  simp only [ev]
  exact s_ifeN (sc'.test h1) (sa.new hn.1) (sb.new hn.2)
theorem p_own (i : Nat) (e' : E) : SS Γ N P cf mk n (.own i e') := by
  intro hot sc X d W st k h
  simp only [chkS] at h
  split at h <;> try contradiction
  rename_i x p e pos
  simp only [Bool.and_eq_true, Bool.not_eq_true', Bool.or_eq_true] at h
  obtain ⟨⟨⟨h1, h2⟩, h4⟩, h5⟩ := h
  subst h1
  have sa := snd (mk := mk) e' k.o h5 (it_none h5)
  obtain ⟨x', p', he, n1, n2, n3⟩ := k.o.loc h4
  cases he
  rw [eq_fun (m := ownM i fun r S => ev P cf mk r e' S) fun r S => by simp only [ex]; rfl]
  rcases h2 with ⟨h2 | h2, h3⟩ | ⟨h2, h3⟩
  · exact s_own (by rw [k.o.hN]; exact k.o.nd) n1 n2 (sa.new h3) (swF_ok (by rw [k.o.hsc]; exact h2) _) (.inl (by rw [k.fn]))
  · obtain ⟨l1, y, py, he, l2⟩ := swT_lc h2
    cases he
    refine PS_imp (sa.sto l1 h3 n1 (by rw [k.o.hsc]; exact l2) (swT_ok (by rw [k.o.hsc]; exact h2) _)) fun D σ H q => own_imp q
  · exact s_own (by rw [k.o.hN]; exact k.o.nd) n1 n2 (new_if k.o h5 h3) (swF_ok (by rw [k.o.hsc]; exact h2) _) (.inl (by rw [k.fn]))
theorem p_attr (i a : Nat) (e' : E) : SS Γ N P cf mk n (.attr i a e') := by
  intro hot sc X d W st k h
  simp only [chkS] at h
  split at h <;> try contradiction
  simp only [Bool.and_eq_true, Bool.not_eq_true', decide_eq_true_eq] at h
  obtain ⟨⟨⟨⟨h1, h2⟩, h3⟩, h4⟩, h5⟩ := h
  subst h1
  have sa := snd (mk := mk) e' k.o h5 (it_none h5)
  obtain ⟨x', p', he, n1, n2, n3, n4⟩ := k.o.name h3
  cases he
  obtain ⟨rfl, k2, k3⟩ := k.o.at_ _ _ h4
  rw [eq_fun (m := attrSM i a fun r S => ev P cf mk r e' S) fun r S => by simp only [ex]; rfl]
  exact s_attrSM n1 n2 n3 n4 k.o.inj k2 k3 sa.ex (attr_swap h2 _ _)
theorem p_push (i : Nat) (e' : E) : SS Γ N P cf mk n (.push i e') := by
  intro hot sc X d W st k h
  simp only [chkS] at h
  split at h <;> try contradiction
  simp only [Bool.and_eq_true, Bool.not_eq_true', decide_eq_true_eq] at h
  obtain ⟨⟨⟨⟨⟨h1, rfl⟩, h3⟩, h4⟩, h5⟩, h6⟩ := h
  subst h1
  have sa := snd (mk := mk) e' k.o h6 (it_none h6)
  obtain ⟨x', p', he, n1, n2, n3, n4⟩ := k.o.name h3
  cases he
  rw [eq_fun (m := pushM i fun r S => ev P cf mk r e' S) fun r S => by simp only [ex]; rfl]
  exact s_push n1 n2 n3 n4 sa.ex (star_cons h4 _ _) (few_of h4 _ _) h5 rfl
theorem p_ext (i : Nat) (e' : E) : SS Γ N P cf mk n (.ext i e') := by
  intro hot sc X d W st k h
  simp only [chkS] at h
  split at h <;> try contradiction
  simp only [Bool.and_eq_true, Bool.not_eq_true', decide_eq_true_eq] at h
  obtain ⟨⟨⟨⟨⟨⟨h1, rfl⟩, h3⟩, h4⟩, h0⟩, h5⟩, h6⟩ := h
  subst h1
  have sa := snd (mk := mk) e' k.o h6 (it_none h6)
  obtain ⟨x', p', he, n1, n2, n3, n4⟩ := k.o.name h3
  cases he
  rw [eq_fun (m := extM i fun r S => ev P cf mk r e' S) fun r S => by simp only [ex]; rfl]
  exact s_ext n1 n2 n3 n4 (sa.new h0) (star_cons h4 _ _) (few_of h4 _ _) h5 rfl
theorem p_seti (i : Nat) (kk e' : E) : SS Γ N P cf mk n (.seti i kk e') := by
  intro hot sc X d W st k h
  simp only [chkS] at h
  split at h <;> try contradiction
  simp only [Bool.and_eq_true, Bool.not_eq_true'] at h
  obtain ⟨⟨⟨⟨⟨⟨h1, h2⟩, h3⟩, h4⟩, h5⟩, h6⟩, h7⟩ := h
  subst h1
  have sk' := snd (mk := mk) kk k.o h6 (it_none h6)
  have sa := snd (mk := mk) e' k.o h7 (it_none h7)
  obtain ⟨x', p', he, n1, n2, n3, n4⟩ := k.o.name h5
  cases he
  rw [eq_fun (m := setiM i (fun r S => ev P cf mk r kk S) fun r S => ev P cf mk r e' S) fun r S => by simp only [ex]; rfl]
  exact s_seti n1 n2 n3 n4 sa.ex sk'.ex (plain_set h4) (no_sole h2 _ _) (no_pair h3 _)
theorem p_setc (a kk e' : E) : SS Γ N P cf mk n (.setc a kk e') := by
  intro hot sc X d W st k h
  simp only [chkS] at h
  split at h <;> try contradiction
  simp only [Bool.and_eq_true, Bool.not_eq_true'] at h
  obtain ⟨⟨⟨⟨⟨⟨h1, h2⟩, h3⟩, h4⟩, h5⟩, h6⟩, h7⟩ := h
  subst h1
  have so := snd (mk := mk) a k.o h5 (it_none h5)
  have sk' := snd (mk := mk) kk k.o h6 (it_none h6)
  have sa := snd (mk := mk) e' k.o h7 (it_none h7)
  rw [eq_fun (m := setcM (fun r S => ev P cf mk r a S) (fun r S => ev P cf mk r kk S) fun r S => ev P cf mk r e' S) fun r S => by simp only [ex]; rfl]
  exact s_setc so.ex sa.ex sk'.ex (plain_set h4) (no_sole h2 _ _) (no_pair h3 _)
theorem p_pushc (a e' : E) : SS Γ N P cf mk n (.pushc a e') := by
  intro hot sc X d W st k h
  simp only [chkS] at h
  split at h <;> try contradiction
  simp only [Bool.and_eq_true, Bool.not_eq_true', decide_eq_true_eq] at h
  obtain ⟨⟨⟨⟨⟨⟨h1, rfl⟩, h3⟩, h4⟩, h5⟩, h6⟩, h7⟩ := h
  subst h1
  have so := snd (mk := mk) a k.o h6 (it_none h6)
  have sa := snd (mk := mk) e' k.o h7 (it_none h7)
  rw [eq_fun (m := pushcM (fun r S => ev P cf mk r a S) fun r S => ev P cf mk r e' S) fun r S => by simp only [ex]; rfl]
  exact s_pushc so.ex sa.ex (no_base h3 _ _ _) (star_cons h4 _ _) (few_of h4 _ _) h5 rfl
theorem p_ex (e' : E) : SS Γ N P cf mk n (.ex e') := by
  intro hot sc X d W st k h
  simp only [chkS] at h
  split at h <;> try contradiction
  simp only [Bool.and_eq_true] at h
  have sa := snd (mk := mk) e' k.o h.2 (it_none h.2)
  rw [eq_fun (m := exM fun r S => ev P cf mk r e' S) fun r S => by simp only [ex]; rfl]
  exact s_ex sa.ex (no_swap h.1 _ _ _)
theorem p_ret (e' : E) : SS Γ N P cf mk n (.ret e') := by
  intro hot sc X d W st k h
  simp only [chkS] at h
  split at h <;> try contradiction
  have sa := snd (mk := mk) e' k.o h (it_none h)
  rw [eq_fun (m := retM fun r S => ev P cf mk r e' S) fun r S => by simp only [ex]; rfl]
  exact s_ret sa.ex
theorem p_retN : SS Γ N P cf mk n .retN := by
  intro hot sc X d W st k h
  simp only [chkS] at h
  split at h <;> try contradiction
  rw [eq_fun (m := fun _ S => .ret .non S) fun r S => by simp only [ex]]
  exact s_retN
theorem p_ife (c : E) (a b : List S) (ha : SB Γ N P cf mk n a) (hb : SB Γ N P cf mk n b) : SS Γ N P cf mk n (.ife c a b) := by
  intro hot sc X d W st k h
  simp only [chkS] at h
  split at h <;> try contradiction
  simp only [Bool.and_eq_true] at h
  obtain ⟨⟨⟨h1, h2⟩, h3⟩, h4⟩ := h
  have sc' := snd (mk := mk) c k.o h2 (it_none h2)
  rw [eq_fun (m := ifM (toB fun r S => ev P cf mk r c S) (exs P cf mk a) (exs P cf mk b)) fun r S => by simp only [ex]; exact toB_if (m := fun r S => ev P cf mk r c S)]
  exact s_if (sc'.test h1) (ha k h3) (hb k h4)
theorem p_loop (tg : Tg) (it : E) (b : List S) (hb : SB Γ N P cf mk n b) : SS Γ N P cf mk n (.loop tg it b) := by
  intro hot sc X d W st k h
  simp only [chkS] at h
  split at h <;> try contradiction
  simp only [Bool.and_eq_true, Bool.not_eq_true'] at h
  obtain ⟨⟨⟨⟨h1, h2⟩, h3⟩, h4⟩, h5⟩ := h
  subst h1
  obtain ⟨c1, c2, c3, c4⟩ := k.o.calm rfl
  rw [eq_fun (m := loopM tg (fun r S => itM (ev P cf mk r it S)) (exs P cf mk b)) fun r S => by simp only [ex]; rfl]
  refine s_loop k.o.hK (fun r S p S' q => still_itM q) (k.po rfl) c1 ?_ (tg_of k.o c1 (fun x hx => by rw [k.fn]) h4) (hb k h5) (no_fold h2 _)
  by_cases hi : isIt it = true
  · exact sndIE it k.o h3 hi
  · exact i_anyE k.o.hK (snd it k.o h3 (by simpa using hi)).ex
theorem p_raise (c : Nat) : SS Γ N P cf mk n (.raise c) := by
  intro hot sc X d W st k h
  simp only [chkS] at h
  split at h <;> try contradiction
  simp only [Bool.and_eq_true, Bool.not_eq_true'] at h
  obtain ⟨h1, h2⟩ := h
  subst h1
  obtain ⟨c1, c2, c3, c4⟩ := k.o.calm rfl
  obtain ⟨C, h1, _, ⟨b1, b2, b3, b4, r1, r2, r3, r4⟩, h4, h5, h6⟩ := k.cls h2
  rw [eq_fun (m := fun r S => .exn c r S) fun r S => by simp only [ex]]
  exact s_raise c1 c3 h1 (pmk_own r1 r2 h4 r3 r4 h5 h6)
theorem p_tryx (b : List S) (c : Nat) (hb : List S) (ib : SB Γ N P cf mk n b) (ih : SB Γ N P cf mk n hb) : SS Γ N P cf mk n (.tryx b c hb) := by
  intro hot sc X d W st k h
  simp only [chkS] at h
  split at h <;> try contradiction
  simp only [Bool.and_eq_true, Bool.not_eq_true'] at h
  obtain ⟨⟨⟨h1, h2⟩, h3⟩, h4⟩ := h
  subst h1
  obtain ⟨c1, c2, c3, c4⟩ := k.o.calm rfl
  obtain ⟨C, k1, k2, _⟩ := k.cls h2
  rw [eq_fun (m := tryM P.sub (exs P cf mk b) [(c, none, exs P cf mk hb)]) fun r S => by
    simp only [ex]
    unfold tryM
    cases exs P cf mk b r S <;> rfl]
  exact s_try k.st k.fr (by rw [k.o.hN]; exact k.o.nd) c3 c4 (fun W' pn xe tk po => ib (k.tr tk po) h3) (.plain k2 (fun a oe e E pn hx hz hf => ih (k.suite hx hz hf) h4) .nil)
theorem p_tryn (b : List S) (c i : Nat) (hb : List S) (ib : SB Γ N P cf mk n b) (ih : SB Γ N P cf mk n hb) : SS Γ N P cf mk n (.tryn b c i hb) := by
  intro hot sc X d W st k h
  simp only [chkS] at h
  split at h <;> try contradiction
  simp only [Bool.and_eq_true, Bool.not_eq_true', decide_eq_true_eq] at h
  obtain ⟨⟨⟨⟨⟨h1, h5⟩, h6⟩, h2⟩, h3⟩, h4⟩ := h
  subst h1
  obtain ⟨c1, c2, c3, c4⟩ := k.o.calm rfl
  obtain ⟨C, k1, k2, _⟩ := k.cls h2
  rw [eq_fun (m := tryM P.sub (exs P cf mk b) [(c, some i, exs P cf mk hb)]) fun r S => by
    simp only [ex]
    unfold tryM
    cases exs P cf mk b r S <;> rfl]
  exact s_try k.st k.fr (by rw [k.o.hN]; exact k.o.nd) c3 c4 (fun W' pn xe tk po => ib (k.tr tk po) h3) (.named (by rw [k.o.hN]; exact h5) (by show X.env.scope.names.lookup _ = _; rw [k.o.hsc]; exact h6) k2 (fun a oe e E pn hx hz hf => ih (k.suite hx hz hf) h4) .nil)
theorem p_tryn2 (b : List S) (c : Nat) (hb : List S) (c2 : Nat) (hb2 : List S) (i : Nat) (ib : SB Γ N P cf mk n b) (ih : SB Γ N P cf mk n hb) (ih2 : SB Γ N P cf mk n hb2) : SS Γ N P cf mk n (.tryn2 b c hb c2 hb2 i) := by
  intro hot sc X d W st k h
  simp only [chkS] at h
  split at h <;> try contradiction
  simp only [Bool.and_eq_true, Bool.not_eq_true', decide_eq_true_eq] at h
  obtain ⟨⟨⟨⟨⟨⟨⟨⟨h1, h5⟩, rfl⟩, h6⟩, h2⟩, h7⟩, h3⟩, h4⟩, h8⟩ := h
  subst h1
  obtain ⟨c1, c2', c3, c4⟩ := k.o.calm rfl
  obtain ⟨C, k1, k2, _⟩ := k.cls h2
  obtain ⟨C2, k3, k4, _⟩ := k.cls h7
  rw [eq_fun (m := tryM P.sub (exs P cf mk b) [(c, some i, exs P cf mk hb), (c2, some i, exs P cf mk hb2)]) fun r S => by
    simp only [ex]
    unfold tryM
    cases exs P cf mk b r S <;> rfl]
  have n1 := (show X.N[i]? = some _ from by rw [k.o.hN]; exact h5)
  have n2 := k.o.hsc.symm ▸ h6
  exact s_try k.st k.fr (by rw [k.o.hN]; exact k.o.nd) c3 c4 (fun W' pn xe tk po => ib (k.tr tk po) h3)
    (.named n1 n2 k2 (fun a oe e E pn hx hz hf => ih (k.suite hx hz hf) h4) (.named n1 n2 k4 (fun a oe e E pn hx hz hf => ih2 (k.suite hx hz hf) h8) .nil))
theorem p_brk : SS Γ N P cf mk n .brk := by
  intro hot sc X d W st k h
  simp only [chkS] at h
  split at h <;> try contradiction
  rw [eq_fun (m := fun r S => .brk r S) fun r S => by simp only [ex]]
  exact s_brk
theorem p_cont : SS Γ N P cf mk n .cont := by
  intro hot sc X d W st k h
  simp only [chkS] at h
  split at h <;> try contradiction
  rw [eq_fun (m := fun r S => .cnt r S) fun r S => by simp only [ex]]
  exact s_cnt
theorem p_pass : SS Γ N P cf mk n .pass := by
  intro hot sc X d W st k h
  simp only [chkS] at h
  split at h <;> try contradiction
  rw [eq_fun (m := fun r S => .nx r S) fun r S => by simp only [ex]]
  exact s_pass
theorem p_nil : SB Γ N P cf mk n [] := by
  intro hot sc X d W sts k h
  simp only [chkB] at h
  cases sts with
  | cons _ _ => simp at h
  | nil =>
    have : exs P cf mk [] = fun r S => .nx r S := by funext r S; simp only [exs]
    rw [this]
    exact s_snil
theorem p_cons (s : S) (l : List S) (hs : SS Γ N P cf mk n s) (hl : SB Γ N P cf mk n l) : SB Γ N P cf mk n (s :: l) := by
  intro hot sc X d W sts k h
  have e1 : exs P cf mk (s :: l) = seqM (ex P cf mk s) (exs P cf mk l) := by
    funext r S
    simp only [exs]
    rfl
  rw [e1]
  simp only [chkB, Bool.or_eq_true] at h
  rcases h with h | h
  · cases s <;> simp only [] at h <;> try contradiction
    rename_i i
    have e2 : ex P cf mk (.frz i) = frzM i := by
      funext r S
      simp only [ex]
      rfl
    rw [e2]
    exact s_frz (hl k h)
  · cases sts with
    | nil => cases h
    | cons st sts =>
      simp only [Bool.and_eq_true] at h
      exact s_scons (hs k h.1) (hl k h.2)
mutual
theorem sndS : ∀ s : S, SS Γ N P cf mk n s
  | .asg tg e => p_asg tg e
  | .own i e => p_own i e
  | .push i e => p_push i e
  | .ext i e => p_ext i e
  | .seti i k e => p_seti i k e
  | .setc a k e => p_setc a k e
  | .pushc a e => p_pushc a e
  | .attr i a e => p_attr i a e
  | .ex e => p_ex e
  | .ret e => p_ret e
  | .retN => p_retN
  | .ife c a b => p_ife c a b (sndB a) (sndB b)
  | .loop tg it b => p_loop tg it b (sndB b)
  | .raise c => p_raise c
  | .tryx b c h => p_tryx b c h (sndB b) (sndB h)
  | .tryn b c i h => p_tryn b c i h (sndB b) (sndB h)
  | .tryn2 b c h c2 h2 i => p_tryn2 b c h c2 h2 i (sndB b) (sndB h) (sndB h2)
  | .frz _ => fun _ h => by simp [chkS] at h
  | .brk => p_brk
  | .cont => p_cont
  | .pass => p_pass
theorem sndB : ∀ l : List S, SB Γ N P cf mk n l
  | [] => p_nil
  | s :: l => p_cons s l (sndS s) (sndB l)
end
end
end Hf
end

section
set_option Elab.async false
set_option linter.all false
set_option maxRecDepth 100000
set_option maxHeartbeats 4000000
/-! HfS21: every def of the text keeps what the evaluator says, by the fuel; so does every __init__. -/
namespace Hf
open PySem PySem.Spec PyProof.Rows L2
/-- a def of the text beside its small syntax -/
structure DefOk (Γ : Gam) (K : PySem.W.Frag) (D : FDef) (fa : Addr) (fd : FuncData) (ps : List PySem.Str) : Prop where
  ex : ∃ (name qual : PySem.Str) (params : Arguments) (body : List Stmt) (scope : Scope) (dvs : List V) (kws : List (PySem.Str × V)) (N : List PySem.Str), FunD K name qual params body scope dvs kws fa fd ∧ FnScope N ps scope ∧ N.length = D.ns ∧ chkB Γ N false scope D.body body = true
  np : ps.length = D.np
  bd : Binds K fd ps []
/-- what the top has left behind -/
structure TopOk (Γ : Gam) (P : Prog) (K : PySem.W.Frag) (mg : PySem.Str → Option Value) (w : World) (d : D) : Prop where
  hK : d.K = K
  hw : d.w = w
  pn : d.pn = []
  val : ∀ x t, Γ.names.lookup x = some (.val t) → ∃ u v, mg x = some u ∧ RelV v u ∧ ∀ G, RepV d G t v
  fn : ∀ x f np, Γ.names.lookup x = some (.fn f np) → ∃ D fa fd ps, P.defs f = some D ∧ D.np = np ∧ mg x = some (.ref fa) ∧ d.fa f = some fa ∧ DefOk Γ K D fa fd ps
  exc : ∀ x c, Γ.names.lookup x = some (.exc c) → ∃ C, d.xa c = some C ∧ mg x = some (.ref C) ∧ (∃ (bmB : List Value) (B newId initId : String), ExcBaseFacts B newId initId bmB ∧ PySem.W.excIn K C bmB newId = true ∧ PySem.W.keepIn K (.ref C) = true ∧ PySem.W.subIn K (.ref C) (.type "BaseException") = some true ∧ PySem.W.typeIn K (.ref C) = some (.type "type")) ∧
    ∀ e E, d.xa e = some E → PySem.W.exmOne K (.ref E) (.ref C) = some (P.sub e c) ∧ PySem.W.kitOne K (.ref E) (.ref C) = some (P.sub e c)
  xs : ∀ e E, d.xa e = some E → ExcC K E
  free : ∀ x, Γ.free.contains x = true → mg x = none
  at_ : ∀ f m, Γ.attrs.lookup f = some m → d.an f = m ∧ f ∈ d.as ∧ ∀ c C, d.ca c = some C → Cls K C ∧ NoAttr K C m
  inj : ∀ a b, a ∈ d.as → b ∈ d.as → d.an a = d.an b → a = b
  mt : ∀ m mm, Γ.meths.lookup m = some mm → (∀ a ∈ d.as, ¬ d.an a = mm) ∧ ∀ c C f, d.ca c = some C → P.meth c m = some f → ∃ D fa fd ps, P.defs f = some D ∧ Cls K C ∧ Meth K C mm fa ∧ DefOk Γ K D fa fd ps
  cl : ∀ x c np, Γ.names.lookup x = some (.cls c np) → ∃ D C fi fd ps, P.init c = some D ∧ D.np = np + 1 ∧ mg x = some (.ref C) ∧ d.ca c = some C ∧ Mk K C fi ∧ DefOk Γ K D fi fd ps
  fv : ∀ f a, d.fa f = some a → ∃ D fd ps, P.defs f = some D ∧ DefOk Γ K D a fd ps
section
variable {Γ : Gam} {P : Prog} {K : PySem.W.Frag} {mg : PySem.Str → Option Value} {w : World} {d : D} {prog : Program} {base : Heap}
theorem call_len {n f : Nat} {D : FDef} (hD : P.defs f = some D) {xs : List T} {S : Store} (h : call P n f xs S ≠ .bad) : xs.length = D.np := by
  cases n with
  | zero => simp only [call] at h; exact absurd rfl h
  | succ n =>
    simp only [call, hD, runF] at h
    by_cases q : xs.length = D.np
    · exact q
    · rw [if_neg q] at h; exact absurd rfl h
theorem make_len {n c : Nat} {D : FDef} (hD : P.init c = some D) {xs : List T} {S : Store} (h : make P n c xs S ≠ .bad) : xs.length + 1 = D.np := by
  cases n with
  | zero => simp only [make] at h; exact absurd rfl h
  | succ n =>
    simp only [make, hD, runI] at h
    by_cases q : xs.length + 1 = D.np
    · exact q
    · rw [if_neg q] at h; exact absurd rfl h
/-- both promises at a fuel -/
def AllAt (Γ : Gam) (P : Prog) (K : PySem.W.Frag) (mg : PySem.Str → Option Value) (w : World) (d : D) (prog : Program) (base : Heap) (n : Nat) : Prop :=
  (∀ {f : Nat} {D : FDef} {fa : Addr} {fd : FuncData} {ps : List PySem.Str}, P.defs f = some D → DefOk Γ K D fa fd ps → FnG prog w K mg base (2 * n) fa fd ps (spT d D.np (call P n f))) ∧
  ∀ {c np : Nat} {D : FDef} {C fi : Addr} {fd : FuncData} {ps : List PySem.Str}, P.init c = some D → D.np = np + 1 → d.ca c = some C → DefOk Γ K D fi fd ps → FnG prog w K mg base (2 * n) fi fd ps (spI d C np (make P n c))
theorem okS_of {n : Nat} (tp : TopOk Γ P K mg w d) (all : AllAt Γ P K mg w d prog base n) {N : List PySem.Str} {scope : Scope} {X : Cx} {W : WX} (s : Option (Addr × Addr)) (nd : N.Nodup) (hp : X.prog = prog) (hw : X.w = w) (hXK : X.K = K) (hmg : X.mg = mg) (hbase : X.base = base) (hN : X.N = N) (hsc : X.env.scope = scope)
    (hfn : X.fn = fun _ => true) (hcalm : X.calm = true) (hfr : X.env.frame = some X.env.locals) (hst : X.stack = X.env :: X.outer) (hroom : RoomG (2 * n + 1) X.A) (tk : Takes X W) (po : PassesOwn (model X.prog X.w) X.A X.env X.xe) : OkS Γ N P (call P n) (make P n) n false scope X (d.sfa s) W := by
  obtain ⟨a1, a2⟩ := all
  refine ⟨⟨tp.hK.trans hXK.symm, tp.hw.trans hw.symm, hN, nd, hsc, by have := hroom.r.un; omega, fun _ => ⟨hcalm, hroom, tk, tp.pn⟩, fun x t h => ?_, fun x f' np h => ?_, fun x c h => ?_, fun x h => by rw [hmg]; exact tp.free x h, fun f m h => ?_, tp.inj, fun _ m mm h => ?_, fun _ x c np h => ?_, fun _ f a h => ?_⟩, hst, hfr, hfn, fun _ => po, fun e E h => by rw [hXK]; exact tp.xs e E h⟩
  · obtain ⟨u, v, h1, h2, h3⟩ := tp.val x t h
    exact ⟨u, v, by rw [hmg]; exact h1, h2, fun G => RepV.sfa t (h3 G)⟩
  · obtain ⟨D', fa', fd', ps', k1, k2, k3, k4, k5⟩ := tp.fn x f' np h
    have IH := a1 k1 k5
    obtain ⟨_, _, _, _, _, _, _, _, F', _⟩ := k5.ex
    refine ⟨fa', fd', ps', by rw [hmg]; exact k3, k4, by rw [hXK]; exact F'.kp, by rw [hXK]; exact k5.bd, by rw [k5.np]; exact k2, ?_⟩
    rw [hp, hw, hXK, hmg, hbase, ← k2]
    exact IH.imp fun _ _ _ _ => spT_sfa
  · obtain ⟨C, h1, h2, ⟨b1, b2, b3, b4, r0, r1, r2, r3, r4⟩, h5⟩ := tp.exc x c h
    exact ⟨C, h1, by rw [hmg]; exact h2, (fun a e hm => by
      have hm : (a, e) ∈ d.pn := hm
      rw [tp.pn] at hm; cases hm), ⟨b1, b2, b3, b4, r0, by rw [hXK]; exact r1, by rw [hXK]; exact r2, raises_own (by rw [hXK]; exact r3) (by rw [hXK]; exact r4)⟩, fun e E he => by rw [hXK]; exact h5 e E he⟩
  · rw [hXK]; exact tp.at_ f m h
  · obtain ⟨h1, h2⟩ := tp.mt m mm h
    refine ⟨h1, fun c C f hc hm => ?_⟩
    obtain ⟨D', fa', fd', ps', k1, k2, k3, k4⟩ := h2 c C f hc hm
    refine ⟨fa', fd', ps', D'.np, by rw [hXK]; exact k2, by rw [hXK]; exact k3, by rw [hXK]; exact k4.bd, ?_, fun xs S z => call_len k1 z⟩
    rw [hp, hw, hXK, hmg, hbase]
    exact (a1 k1 k4).imp fun _ _ _ _ => spT_sfa
  · obtain ⟨D', C, fi, fd', ps', k1, k2, k3, k4, k5, k6⟩ := tp.cl x c np h
    refine ⟨C, fi, fd', ps', np, by rw [hmg]; exact k3, by rw [hXK]; exact k5, by rw [hXK]; exact k6.bd, ?_, fun xs S z => by have := make_len k1 z; omega⟩
    rw [hp, hw, hXK, hmg, hbase]
    exact (a2 k1 k2 k4 k6).imp fun _ _ _ _ => spI_sfa
  · obtain ⟨D', fd', ps', k1, k2⟩ := tp.fv f a h
    obtain ⟨_, _, _, _, _, _, _, _, F', _⟩ := k2.ex
    refine ⟨fd', ps', D'.np, by rw [hXK]; exact F'.kp, by rw [hXK]; exact k2.bd, ?_, fun xs S z => call_len k1 z⟩
    rw [hp, hw, hXK, hmg, hbase]
    exact (a1 k1 k2).imp fun _ _ _ _ => spT_sfa
theorem fn_alls (tp : TopOk Γ P K mg w d) : ∀ n : Nat, AllAt Γ P K mg w d prog base n
  | 0 => by
    refine ⟨fun {f D fa fd ps} hD ok => ?_, fun {c np D C fi fd ps} hD hnp hc ok => ?_⟩
    · have no : ∀ vs H Q E, ¬ spT d D.np (call P 0 f) vs H Q E := fun vs H Q E ⟨_, G, xs, S, _, _, q⟩ => by
        simp only [call] at q
        exact q
      exact ⟨fun vs H Q E h => (no _ _ _ _ h).elim, fun A outer s H args us vs Q E _ _ _ _ h => (no _ _ _ _ h).elim⟩
    · have no : ∀ vs H Q E, ¬ spI d C np (make P 0 c) vs H Q E := fun vs H Q E ⟨x, dx, us, H0, G, xs, S, _, _, _, _, _, _, _, _, q⟩ => by
        simp only [make] at q
        exact q
      exact ⟨fun vs H Q E h => (no _ _ _ _ h).elim, fun A outer s H args us vs Q E _ _ _ _ h => (no _ _ _ _ h).elim⟩
  | n + 1 => by
    have all : AllAt Γ P K mg w d prog base n := fn_alls tp n
    refine ⟨fun {f D fa fd ps} hD ok => ?_, fun {c np D C fi fd ps} hD hnp hc ok => ?_⟩
    · obtain ⟨name, qual, params, body, scope, dvs, kws, N, F, SC, hns, hchk⟩ := ok.ex
      obtain ⟨oc, od, dV, kV, doc, pm, an, cdv, ct, osl, rfl, lk, hcd, _, _⟩ := F.ex
      have e1 : call P (n + 1) f = runM ps.length N.length (exs P (call P n) (make P n) D.body) := by
        funext xs S
        simp only [call, hD]
        unfold runF runM startE
        rw [ok.np, hns]
      rw [e1, ← ok.np]
      refine fn_tree (k := 2 * n + 1) lk hcd SC fun X W hp hw hXK hmg hbase hN hsc hfn hcalm hfr hst hroom tk po => ?_
      exact sndB (mk := make P n) D.body (okS_of tp all d.sf SC.nd hp hw hXK hmg hbase hN hsc hfn hcalm hfr hst hroom tk po) hchk
    · obtain ⟨name, qual, params, body, scope, dvs, kws, N, F, SC, hns, hchk⟩ := ok.ex
      obtain ⟨oc, od, dV, kV, doc, pm, an, cdv, ct, osl, rfl, lk, hcd, _, _⟩ := F.ex
      have e1 : make P (n + 1) c = runIM c np N.length (exs P (call P n) (make P n) D.body) := by
        funext xs S
        simp only [make, hD]
        unfold runI runIM startE
        rw [hnp, hns]
        by_cases q : xs.length = np
        · rw [if_pos q, if_pos (by omega)] <;> rfl
        · rw [if_neg q, if_neg (by omega)]
      rw [e1]
      refine fn_init (k := 2 * n + 1) lk hcd SC (by rw [ok.np, hnp]) hc fun X W s hp hw hXK hmg hbase hN hsc hfn hcalm hfr hst hroom tk po => ?_
      exact sndB (mk := make P n) D.body (okS_of tp all s SC.nd hp hw hXK hmg hbase hN hsc hfn hcalm hfr hst hroom tk po) hchk
theorem fn_all (tp : TopOk Γ P K mg w d) (n : Nat) {f : Nat} {D : FDef} {fa : Addr} {fd : FuncData} {ps : List PySem.Str} (hD : P.defs f = some D) (ok : DefOk Γ K D fa fd ps) : FnG prog w K mg base (2 * n) fa fd ps (spT d D.np (call P n f)) := (fn_alls tp n).1 hD ok
end
end Hf
end

section
set_option Elab.async false
set_option linter.all false
set_option maxRecDepth 100000
set_option maxHeartbeats 4000000
/-! HfS22: the law's end. -/
namespace Hf
open PySem PySem.Spec PyProof.Rows L2
/-- no list stands in the module's own part -/
def NoLists (K : PySem.W.Frag) : Prop := ∀ b o, K.lookup b = some o → o.cls ≠ .type "list"
theorem law_callG {P : Program} {w : World} {K : PySem.W.Frag} {mg mb : PySem.Str → Option Value} {k : Nat} {fa a : Addr} {fd : FuncData} {x : PySem.Str} {sp : Sp} {s₁ : Shared} {vs : List Value} {ns : List Int}
    (KX : K.In s₁.heap) (hns : s₁.heap.Ns mainGlobals mg) (hb : s₁.heap.Ns builtinsNs mb) (hbb : ∀ x : PySem.Str, x ≠ "__name__" → mb x = bootBuiltins x) (hlim : s₁.heap.NoLimit) (hg : s₁.gens = #[])
    (ha : s₁.heap.get? a = some { cls := .type "list", data := .seq vs.toArray }) (hi : IntsAre vs ns) (hl : ns.length ≤ sizeLine) (hr : RoomG k callerA) (nl : NoLists K)
    (F : ∀ base : Heap, K.In base → base.Ns mainGlobals mg → FnG P w K mg base k fa fd [x] sp) (hbind : ∀ (s : Shared) (u : Value), BindsTo s fd ⟨[u], []⟩ [(x, u)])
    (hsp : ∀ H : Hp, Only H → L2.Rd H a (.lst (ns.map V.int)) → sp [.ref a] H (fun v _ => v = .bl true) fun _ _ _ => False)
    (hCX : ∀ H e s', L2.CX P w [] H s₁ (fun _ _ _ => False) e s' → False) :
    codeAny (model P w) callerA (.call (.ref fa) ⟨[.ref a], []⟩) (fun r s' => r = .ok (.ret (.bool true)) ∧ OldK s₁.heap s'.heap ∧ s'.os = s₁.os ∧ AllBare s'.gens) s₁ := by
  have rv := vals_ints hi
  have lenV := hi.length
  have hKa : K.lookup a = none := by
    cases hk : K.lookup a with
    | none => rfl
    | some o =>
      have e := KX a o hk
      rw [ha] at e
      cases e
      exact absurd rfl (nl a _ hk)
  obtain ⟨H, hH⟩ : ∃ H : Hp, H = fun b => if b = a then some (.frz { cls := .type "list", data := .seq vs.toArray } (.lst (ns.map V.int))) else none := ⟨_, rfl⟩
  have Ha : H a = some (.frz { cls := .type "list", data := .seq vs.toArray } (.lst (ns.map V.int))) := by rw [hH]; exact if_pos rfl
  have Hn : ∀ b, b ≠ a → H b = none := fun b hb => by rw [hH]; exact if_neg hb
  have hO : Only H := fun b => by
    by_cases hb : b = a
    · rw [hb]; exact .inr ⟨_, _, Ha⟩
    · exact .inl (Hn b hb)
  have hA : ∀ b, H b ≠ none → b = a := fun b z => by
    by_cases hb : b = a
    · exact hb
    · exact absurd (Hn b hb) z
  have hok : HOk P w H s₁.heap := fun b u z => by
    by_cases hb : b = a
    · subst hb
      rw [Ha] at z; cases z
      exact ⟨ha, by rw [List.length_map]; exact hl, vs, _, rv, ha⟩
    · rw [Hn b hb] at z; cases z
  have base_of : ∀ {b : Addr} {o : Obj}, s₁.heap.get? b = some o → H b = none → (hidT s₁.heap H).get? b = some o := fun e n => hidT_get e n
  have noA : ∀ {b : Addr} {o : Obj} {es : Array DictEntry} {ep : Nat}, s₁.heap.get? b = some o → o.data = .dict es ep → H b = none := fun {b o es ep} e d => by
    cases q : H b with
    | none => rfl
    | some u =>
      have e' : b = a := hA b (by rw [q]; simp)
      subst e'
      rw [ha] at e; cases e
      have d' : Data.seq vs.toArray _ = Data.dict es ep := d
      cases d'
  have nsK : ∀ {b : Addr} {m : PySem.Str → Option Value}, s₁.heap.Ns b m → (hidT s₁.heap H).Ns b m := fun {b m} ⟨o, es, ep, e, d, r⟩ => ⟨o, es, ep, base_of e (noA e d), d, r⟩
  have hKb : K.In (hidT s₁.heap H) := fun b o e => base_of (KX b o e) (by
    cases q : H b with
    | none => rfl
    | some u =>
      have e' : b = a := hA b (by rw [q]; simp)
      subst e'
      rw [hKa] at e; cases e)
  have hM : Mod K mg (hidT s₁.heap H) := ⟨hKb, nsK hns, ⟨mb, nsK hb, hbb⟩, let ⟨mc, h1, h2⟩ := hlim; ⟨mc, nsK h1, h2⟩⟩
  have e0 : Env0 P w K mg (hidT s₁.heap H) callerA [] s₁ H := ⟨rfl, hM, fun b o e => of_hidT e, Nat.le_of_eq (hidT_size _ _), trivial, fun b hb => absurd (show b ∈ ([] : List Addr) from hb) (by simp), hok, .of_eq hg⟩
  refine codeAny_mono ((F _ hKb (nsK hns)).run callerA [] s₁ H ⟨[.ref a], []⟩ [.ref a] [.ref a] _ _ hr e0 (hbind s₁ (.ref a)) (.cons rfl .nil) (hsp H hO (.inr ⟨_, Ha⟩))) fun r s' h => ?_
  cases r with
  | error e => exact (hCX H e s' h).elim
  | ok fl =>
    cases fl with
    | next => exact False.elim h
    | brk => exact False.elim h
    | cont => exact False.elim h
    | ret u =>
      obtain ⟨v, H', os, bare, un, hok', r', q⟩ := h
      have q' : v = .bl true := q
      subst q'
      obtain rfl : u = Value.bool true := r'
      refine ⟨rfl, OldK.of_keep fun b o e => ?_, os, bare⟩
      cases q : H b with
      | none => exact un.keep b o e q (by intro z; exact absurd (show b ∈ ([] : List Addr) from z) (by simp)) (by simp)
      | some u =>
        rcases hO b with z | ⟨ob, xs, z⟩
        · rw [q] at z; cases z
        · have z2 := un.frzs b ob _ z
          obtain ⟨e1, _⟩ := hok b _ z
          obtain ⟨e2, _⟩ := hok' b _ z2
          rw [e] at e1; cases e1
          exact e2
/-- the law's promise, from the evaluator's answer -/
theorem sp_law {d : D} {n : Nat} {sem : List T → Store → Res T} {ns : List Int} {H : Hp} {a : Addr} (hn : n = 1) (hl : ns.length ≤ sizeLine) (hO : Only H) (hr : L2.Rd H a (.lst (ns.map V.int))) (law : ∃ S', sem [.lst (ns.map .int)] [] = .ok (.bl true) S') :
    spT d n sem [.ref a] H (fun v _ => v = .bl true) fun _ _ _ => False := by
  obtain ⟨S', e⟩ := law
  refine ⟨hn.symm ▸ rfl, ⟨H, []⟩, [.lst (ns.map .int)], [], ⟨fun _ _ z => z, rfl, fun n xs z => by simp at z, List.nodup_nil, fun _ z => by cases z⟩, ⟨⟨a, ns.map V.int, rfl, hr, by rw [List.length_map]; exact hl, ints_reps ns⟩, trivial⟩, ?_⟩
  rw [e]
  exact fun G' v H' _ _ rv => rv
/-- a law by trees: F gives what the top has left, the law's def among it -/
theorem walk_ofG {l : PySem.W.OpenLaw} {n k : Nat} {q : Program} {loose : List PySem.Str} {XP : (PySem.Str → Option Value) → Heap → Prop} {YP : World → Heap → Prop} {d : DefRec} {x : PySem.Str}
    (hn : l.most = some n) (hn2 : n ≤ sizeLine) (hdf : d.params.defaults = []) (hr : Room k callerA)
    (F : ∀ (w : World) (mg : PySem.Str → Option Value) (fa : Addr) (h : Heap), YP w h → h.Ns mainGlobals mg → mg d.name = some (.ref fa) →
      ∃ (K : PySem.W.Frag) (fd : FuncData) (sp : Sp), K.In h ∧ NoLists K ∧ (∀ (s : Shared) (u : Value), BindsTo s fd ⟨[u], []⟩ [(x, u)]) ∧
        (∀ (H : Hp) (a : Addr) (ns : List Int), ns.length ≤ n → Only H → L2.Rd H a (.lst (ns.map V.int)) → sp [.ref a] H (fun v _ => v = .bl true) fun _ _ _ => False) ∧
        ∀ base : Heap, K.In base → base.Ns mainGlobals mg → FnG l.prog w K mg base k fa fd [x] sp)
    (hCX : ∀ (w : World) (H : Hp) (s : Shared) (e : Value) (s' : Shared), L2.CX l.prog w [] H s (fun _ _ _ => False) e s' → False) :
    PySem.W.WalkO q loose XP YP l.row.toRowW d [] (fun f vs => PySem.call f vs) := by
  refine Att.attach_call hn hdf fun w s₀ s₁ mg mb fa o pm cd doc a vs ns G Y ho hd hcd hmg hobj hints hlen hg => ?_
  obtain ⟨K, fd, sp, KX, nl, hb, hsp, hF⟩ := F w mg fa _ Y G.T.g hmg
  exact law_callG KX G.T.g G.T.b G.T.builtins G.T.nolimit hg hobj hints (Nat.le_trans hlen hn2) ⟨hr, rfl⟩ nl hF hb (fun H hO hS => hsp H a ns hlen hO hS) fun H e s' => hCX w H s₁ e s'
/-- nothing is wished of an error: none is let out -/
theorem cx_none {P : Program} {w : World} {H : Hp} {s : Shared} {e : Value} {s' : Shared} (h : L2.CX P w [] H s (fun _ _ _ => False) e s') : False := by
  obtain ⟨_, _, _, _, _, _, _, _, _, _, _, _, h⟩ := h
  exact h
end Hf
end

section
set_option Elab.async false
set_option linter.all false
set_option maxRecDepth 100000
set_option maxHeartbeats 4000000
/-! HfS23: the module's own values as trees, checked. -/
namespace Hf
open PySem PySem.Spec PyProof.Rows L2
section
variable (K : PySem.W.Frag) (ts : List Addr) (fa : Nat → Option Addr)
mutual
def vB : T → Value → Bool
  | .non, u => (match u with
    | .none => true
    | _ => false)
  | .bl b, u => (match u with
    | .bool c => b == c
    | _ => false)
  | .int i, u => (match u with
    | .int j _ => decide (i = j)
    | _ => false)
  | .str s, u => (match u with
    | .str x _ => decide (x = sk s) && decide (s.length ≤ 16777216) && s.all fun k => decide (k < 0x110000)
    | _ => false)
  | .tup xs, u => (match u with
    | .ref a => (match K.lookup a with
      | some ⟨c, _, .seq its _, _⟩ => decide (c = .type "tuple") && decide (its.size ≤ 16777216) && vsB xs its.toList
      | _ => false)
    | _ => false)
  | .dic kvs, u => (match u with
    | .ref a => ts.contains a && (match K.lookup a with
      | some ⟨_, _, .dict es _, _⟩ => kB kvs es.toList
      | _ => false)
    | _ => false)
  | .fn f, u => (match u with
    | .ref a => (match fa f with
      | some b => a == b
      | none => false)
    | _ => false)
  | _, _ => false
def vsB : List T → List Value → Bool
  | [], [] => true
  | x :: xs, u :: us => vB x u && vsB xs us
  | _, _ => false
def kB : List (T × T) → List DictEntry → Bool
  | [], [] => true
  | (k, x) :: xs, e :: es => (match k with
    | .str s => (match e.key with
      | .str y _ => decide (y = sk s)
      | _ => false)
    | _ => false) && vB x e.val && kB xs es
  | _, _ => false
end
end
section
variable {K : PySem.W.Frag} {w : World} {d : D} {ts : List Addr} {fa : Nat → Option Addr}
theorem kB_find : ∀ {kvs : List (T × T)} {es : List DictEntry} {vs : List V} (z : List Nat), kB K ts fa kvs es = true → Vals vs (es.map (·.val)) → es.any (·.refKey) = false ∧ ((es.find? (·.key.isStr (sk z)) = none ∧ dlookV (kvs.map (·.1)) vs z = none) ∨ ∃ e v, es.find? (·.key.isStr (sk z)) = some e ∧ dlookV (kvs.map (·.1)) vs z = some v ∧ RelV v e.val)
  | [], [], vs, z, _, r => by
    cases r
    exact ⟨rfl, .inl ⟨rfl, rfl⟩⟩
  | [], _ :: _, _, _, h, _ => by simp [kB] at h
  | _ :: _, [], _, _, h, _ => by simp [kB] at h
  | (k, x) :: kvs, e :: es, vs, z, h, r => by
    simp only [kB, Bool.and_eq_true] at h
    obtain ⟨⟨h1, h2⟩, h3⟩ := h
    cases k <;> simp only [] at h1 <;> try contradiction
    rename_i s
    cases ek : e.key <;> rw [ek] at h1 <;> simp only [] at h1 <;> try contradiction
    rename_i y t
    have hy := of_decide_eq_true h1
    subst hy
    cases r with
    | cons r rr =>
      rename_i v vs
      obtain ⟨a1, a2⟩ := kB_find z h3 rr
      refine ⟨?_, ?_⟩
      · show (e.refKey || es.any (·.refKey)) = false
        rw [a1]
        unfold PySem.DictEntry.refKey
        rw [ek]; rfl
      · by_cases q : s = z
        · subst q
          refine .inr ⟨e, v, ?_, ?_, r⟩
          · rw [List.find?_cons]
            have : e.key.isStr (sk s) = true := by rw [ek]; simp [Value.isStr]
            rw [this]
          · show (if s = s then some v else _) = _
            rw [if_pos rfl]
        · have f1 : e.key.isStr (sk z) = false := by
            rw [ek]
            have : ¬ sk s = sk z := fun e => q (skInj e)
            simp [Value.isStr, this]
          rw [List.find?_cons, f1]
          have f2 : dlookV (((T.str s, x) :: kvs).map (·.1)) (v :: vs) z = dlookV (kvs.map (·.1)) vs z := by
            show (if s = z then some v else dlookV (kvs.map (·.1)) vs z) = _
            rw [if_neg q]
          rw [f2]
          exact a2
mutual
theorem vB_ok (hK : d.K = K) (hw : d.w = w) (hf : d.fa = fa) (kd : ∀ a, ts.contains a = true → ∃ es n, KDict K w a es n) : ∀ (t : T) {u : Value}, vB K ts fa t u = true → ∃ v, RelV v u ∧ ∀ G, RepV d G t v
  | .non, u, h => by
    cases u <;> simp [vB] at h
    exact ⟨.non, rfl, fun _ => rfl⟩
  | .bl b, u, h => by
    cases u <;> simp [vB] at h
    subst h
    exact ⟨.bl _, rfl, fun _ => rfl⟩
  | .int i, u, h => by
    cases u <;> simp [vB] at h
    subst h
    exact ⟨.int _, ⟨_, rfl⟩, fun _ => rfl⟩
  | .str s, u, h => by
    cases u <;> simp only [vB, Bool.and_eq_true, decide_eq_true_eq] at h <;> try contradiction
    obtain ⟨⟨rfl, h2⟩, h3⟩ := h
    exact ⟨.str _, ⟨_, rfl⟩, fun _ => ⟨rfl, by rw [sizeLine_eq]; exact h2, h3⟩⟩
  | .tup xs, u, h => by
    cases u <;> simp only [vB] at h <;> try contradiction
    rename_i a
    split at h <;> try contradiction
    rename_i c dd its n sl hl
    simp only [Bool.and_eq_true, decide_eq_true_eq] at h
    obtain ⟨⟨rfl, h2⟩, h3⟩ := h
    obtain ⟨vs, r1, r2⟩ := vsB_ok hK hw hf kd xs h3
    have hz : vs.length ≤ sizeLine := by rw [r1.length, sizeLine_eq]; simpa using h2
    exact ⟨.ref a, rfl, fun G => ⟨a, vs, rfl, .inr ⟨_, its, n, by rw [hK]; exact hl, rfl, rfl, by rw [sizeLine_eq]; exact h2, r1⟩, hz, r2 G⟩⟩
  | .dic kvs, u, h => by
    cases u <;> simp only [vB, Bool.and_eq_true] at h <;> try contradiction
    rename_i a
    obtain ⟨h1, h2⟩ := h
    split at h2 <;> try contradiction
    rename_i c dd es n sl hl
    obtain ⟨es', n', KD⟩ := kd a h1
    have he := KD.at_
    rw [hl] at he
    cases he
    obtain ⟨vs, r1, r2⟩ := kB_ok hK hw hf kd kvs h2
    refine ⟨.ref a, rfl, fun G => ⟨a, vs, rfl, .inr ⟨es, n, by rw [hK, hw]; exact KD, fun z => ?_⟩, r2 G⟩⟩
    obtain ⟨f1, f2⟩ := kB_find z h2 r1
    rw [hK]
    unfold PySem.W.nsIn
    rw [hl]
    rcases f2 with ⟨g1, g2⟩ | ⟨e, v, g1, g2, g3⟩
    · refine ⟨none, ?_, by rw [g2]; exact trivial⟩
      simp only [g1, f1]
      rfl
    · refine ⟨some e.val, ?_, by rw [g2]; exact g3⟩
      simp only [g1]
  | .lst _, _, h => by simp [vB] at h
  | .ref _, _, h => by simp [vB] at h
  | .fn f, u, h => by
    cases u <;> simp only [vB] at h <;> try contradiction
    rename_i a
    split at h <;> try contradiction
    rename_i b hb
    have e : a = b := by simpa using h
    subst e
    exact ⟨.ref a, rfl, fun G => ⟨a, rfl, by rw [hf]; exact hb⟩⟩
  | .ins _ _, _, h => by simp [vB] at h
theorem kB_ok (hK : d.K = K) (hw : d.w = w) (hf : d.fa = fa) (kd : ∀ a, ts.contains a = true → ∃ es n, KDict K w a es n) : ∀ (xs : List (T × T)) {es : List DictEntry}, kB K ts fa xs es = true → ∃ vs, Vals vs (es.map (·.val)) ∧ ∀ G, RepKs d G xs vs
  | [], es, h => by
    cases es with
    | cons _ _ => simp [kB] at h
    | nil => exact ⟨[], .nil, fun _ => trivial⟩
  | (k, x) :: xs, es, h => by
    cases es with
    | nil => simp [kB] at h
    | cons e es =>
      simp only [kB, Bool.and_eq_true] at h
      obtain ⟨v, r1, r2⟩ := vB_ok hK hw hf kd x h.1.2
      obtain ⟨vs, s1, s2⟩ := kB_ok hK hw hf kd xs h.2
      exact ⟨v :: vs, .cons r1 s1, fun G => ⟨r2 G, s2 G⟩⟩
theorem vsB_ok (hK : d.K = K) (hw : d.w = w) (hf : d.fa = fa) (kd : ∀ a, ts.contains a = true → ∃ es n, KDict K w a es n) : ∀ (xs : List T) {us : List Value}, vsB K ts fa xs us = true → ∃ vs, Vals vs us ∧ ∀ G, RepAll d G xs vs
  | [], us, h => by
    cases us with
    | cons _ _ => simp [vsB] at h
    | nil => exact ⟨[], .nil, fun _ => trivial⟩
  | x :: xs, us, h => by
    cases us with
    | nil => simp [vsB] at h
    | cons u us =>
      simp only [vsB, Bool.and_eq_true] at h
      obtain ⟨v, r1, r2⟩ := vB_ok hK hw hf kd x h.1
      obtain ⟨vs, s1, s2⟩ := vsB_ok hK hw hf kd xs h.2
      exact ⟨v :: vs, .cons r1 s1, fun G => ⟨r2 G, s2 G⟩⟩
end
end
end Hf
end

section
set_option Elab.async false
set_option linter.all false
set_option maxRecDepth 100000
set_option maxHeartbeats 4000000
/-! HfS24: what the top has left behind, from the head's facts. -/
namespace Hf
open PySem PySem.Spec PyProof.Rows L2
/-- what a text names: defs (name, number, parameters), values, errors, what stays a built-in -/
structure Tell where
  fns : List (PySem.Str × Nat × Nat)
  vals : List (PySem.Str × T)
  excs : List (PySem.Str × Nat)
  free : List PySem.Str
  cls : List (PySem.Str × Nat × Nat) := []
  attrs : List (Nat × PySem.Str) := []
  meths : List (Nat × PySem.Str) := []
def Tell.gam (t : Tell) : Gam := ⟨t.fns.map (fun p => (p.1, .fn p.2.1 p.2.2)) ++ t.vals.map (fun p => (p.1, .val p.2)) ++ t.excs.map (fun p => (p.1, .exc p.2)) ++ t.cls.map (fun p => (p.1, .cls p.2.1 p.2.2)), t.free, t.attrs, t.meths⟩
def Tell.an (t : Tell) (a : Nat) : PySem.Str := (t.attrs.lookup a).getD ""
def Tell.d (t : Tell) (K : PySem.W.Frag) (w : World) : D where
  K := K
  w := w
  fa := fun f => (t.fns.find? fun p => decide (p.2.1 = f)).map fun p => He.ga K p.1
  ca := fun c => (t.cls.find? fun p => decide (p.2.1 = c)).map fun p => He.ga K p.1
  xa := fun c => (t.excs.find? fun p => decide (p.2 = c)).map fun p => He.ga K p.1
  an := t.an
  as := t.attrs.map (·.1)
  pn := []
  sf := none
def excCB (K : PySem.W.Frag) (D : Addr) : Bool :=
  decide (PySem.W.findIn K (.ref D) "__getattribute__" = some (some (.builtin "BaseException.__getattribute__"))) && decide (PySem.W.findIn K (.ref D) "__getattr__" = some none) && decide (PySem.W.subIn K (.ref D) (.type "BaseException") = some true) && PySem.W.hasDictIn K D &&
    decide (PySem.W.findIn K (.ref D) "__class__" = some (some (.builtin "object.__class__"))) && decide (PySem.W.specialIn K (.builtin "object.__class__") "__get__" = some (some (.builtin "getset_descriptor.__get__"))) && decide (PySem.W.takesIn K (.builtin "object.__class__") = some true) && decide (PySem.W.mroIn K D (.type "object") = some true)
theorem excCB_ok {K : PySem.W.Frag} {D : Addr} (h : excCB K D = true) : ExcC K D := by
  unfold excCB at h
  simp only [Bool.and_eq_true, decide_eq_true_eq] at h
  obtain ⟨⟨⟨⟨⟨⟨⟨h1, h2⟩, h3⟩, h4⟩, h5⟩, h6⟩, h7⟩, h8⟩ := h
  exact ⟨h1, h2, h3, h4, h5, h6, h7, h8⟩
def noListB (K : PySem.W.Frag) : Bool := K.all fun p => !decide (p.2.cls = .type "list")
theorem noListB_ok {K : PySem.W.Frag} (h : noListB K = true) : NoLists K := fun b o e q => by
  have := List.all_eq_true.mp h _ (He.lookup_mem e)
  simp [q] at this
/-- more facts of the module's part -/
def exB (t : Tell) (sub : Nat → Nat → Bool) (ts : List (PySem.W.Frag → Addr)) (K : PySem.W.Frag) : Bool :=
  noListB K && (t.vals.all fun p => match PySem.W.nsIn K mainGlobals p.1 with
    | some (some u) => vB K (ts.map fun f => f K) (fun f => (t.fns.find? fun q => decide (q.2.1 = f)).map fun q => He.ga K q.1) p.2 u
    | _ => false) && (t.excs.all fun p => excCB K (He.ga K p.1) && t.excs.all fun q =>
      decide (PySem.W.exmOne K (.ref (He.ga K q.1)) (.ref (He.ga K p.1)) = some (sub q.2 p.2)) && decide (PySem.W.kitOne K (.ref (He.ga K q.1)) (.ref (He.ga K p.1)) = some (sub q.2 p.2)))
def Tell.wfB (t : Tell) : Bool := (t.fns.all fun p => decide ((t.fns.find? fun q => decide (q.2.1 = p.2.1)).map (·.1) = some p.1)) && (t.excs.all fun p => decide ((t.excs.find? fun q => decide (q.2 = p.2)).map (·.1) = some p.1)) && (t.cls.all fun p => decide ((t.cls.find? fun q => decide (q.2.1 = p.2.1)).map (·.1) = some p.1)) && (t.attrs.all fun p => t.attrs.all fun q => !decide (t.an p.1 = t.an q.1) || decide (p.1 = q.1)) && (t.attrs.all fun p => t.meths.all fun q => !decide (t.an p.1 = q.2))
theorem lookup_memN {β : Type} {a : Nat} {o : β} : ∀ {l : List (Nat × β)}, l.lookup a = some o → (a, o) ∈ l
  | [], h => by cases h
  | (b, u) :: r, h => by
    simp only [List.lookup] at h
    split at h
    · rename_i q
      cases h
      rw [beq_iff_eq.mp q]
      exact List.mem_cons_self
    · exact List.mem_cons_of_mem _ (lookup_memN h)
theorem mem_gam {t : Tell} {x : PySem.Str} {b : Bnd} (h : t.gam.names.lookup x = some b) : (∃ f np, b = .fn f np ∧ (x, f, np) ∈ t.fns) ∨ (∃ u, b = .val u ∧ (x, u) ∈ t.vals) ∨ (∃ c, b = .exc c ∧ (x, c) ∈ t.excs) ∨ ∃ c np, b = .cls c np ∧ (x, c, np) ∈ t.cls := by
  have m : (x, b) ∈ t.gam.names := PySem.mem_of_lookup h
  unfold Tell.gam at m
  simp only [List.mem_append, List.mem_map] at m
  rcases m with ((⟨p, hp, e⟩ | ⟨p, hp, e⟩) | ⟨p, hp, e⟩) | ⟨p, hp, e⟩
  · cases e; exact .inl ⟨_, _, rfl, hp⟩
  · cases e; exact .inr (.inl ⟨_, rfl, hp⟩)
  · cases e; exact .inr (.inr (.inl ⟨_, rfl, hp⟩))
  · cases e; exact .inr (.inr (.inr ⟨_, _, rfl, hp⟩))
theorem top_ok {t : Tell} {P : Prog} {K : PySem.W.Frag} {mg : PySem.Str → Option Value} {w : World} {h : Heap} {ts : List (PySem.W.Frag → Addr)} (KX : K.In h) (G : h.Ns mainGlobals mg) (wf : t.wfB = true)
    (hf : ∀ p ∈ t.fns, (He.Fa.glo p.1).ok K = true) (hx : ∀ p ∈ t.excs, (He.Fa.glo p.1).ok K = true ∧ (He.Fa.exc p.1).ok K = true) (hfr : ∀ x ∈ t.free, (He.Fa.free x).ok K = true) (ex : exB t P.sub ts K = true)
    (kd : ∀ f ∈ ts, ∃ es n, KDict K w (f K) es n) (hd : ∀ p ∈ t.fns, ∃ D fd ps, P.defs p.2.1 = some D ∧ D.np = p.2.2 ∧ DefOk t.gam K D (He.ga K p.1) fd ps)
    (hc : ∀ p ∈ t.cls, (He.Fa.cls p.1).ok K = true ∧ (He.Fa.glo p.1).ok K = true ∧ (He.Fa.mkr p.1).ok K = true ∧ ∀ a ∈ t.attrs, (He.Fa.noat p.1 a.2).ok K = true)
    (hm : ∀ p ∈ t.cls, ∀ m mm f, t.meths.lookup m = some mm → P.meth p.2.1 m = some f → (He.Fa.meth p.1 mm).ok K = true ∧ ∃ D fd ps, P.defs f = some D ∧ DefOk t.gam K D (He.ma K (He.ga K p.1) mm) fd ps)
    (hi : ∀ p ∈ t.cls, ∃ D fd ps, P.init p.2.1 = some D ∧ D.np = p.2.2 + 1 ∧ DefOk t.gam K D (He.ma K (He.ga K p.1) "__init__") fd ps) : TopOk t.gam P K mg w (t.d K w) ∧ NoLists K := by
  unfold exB at ex
  simp only [Bool.and_eq_true, List.all_eq_true] at ex
  obtain ⟨⟨e1, e2⟩, e3⟩ := ex
  unfold Tell.wfB at wf
  simp only [Bool.and_eq_true, List.all_eq_true, decide_eq_true_eq] at wf
  obtain ⟨⟨⟨⟨w1, w2⟩, w3⟩, w4⟩, w5⟩ := wf
  have hca : ∀ p ∈ t.cls, (t.d K w).ca p.2.1 = some (He.ga K p.1) := fun p hp => by
    have q := w3 p hp
    show (t.cls.find? _).map _ = _
    cases r : t.cls.find? fun q => decide (q.2.1 = p.2.1) with
    | none => rw [r] at q; cases q
    | some z =>
      rw [r] at q
      have q' : z.1 = p.1 := Option.some.inj q
      show some (He.ga K z.1) = _
      rw [q']
  have ca_of : ∀ {c : Nat} {C : Addr}, (t.d K w).ca c = some C → ∃ p ∈ t.cls, p.2.1 = c ∧ C = He.ga K p.1 := fun {c C} e => by
    have e : (t.cls.find? fun p => decide (p.2.1 = c)).map (fun p => He.ga K p.1) = some C := e
    obtain ⟨p, h1, h2⟩ := Option.map_eq_some_iff.mp e
    exact ⟨p, List.mem_of_find?_eq_some h1, by simpa using List.find?_some h1, h2.symm⟩
  have an_of : ∀ {f : Nat} {m : PySem.Str}, t.attrs.lookup f = some m → t.an f = m := fun {f m} e => by unfold Tell.an; rw [e]; rfl
  have as_of : ∀ {a : Nat}, a ∈ (t.d K w).as → ∃ m, (a, m) ∈ t.attrs := fun {a} h => by
    have h : a ∈ t.attrs.map (·.1) := h
    obtain ⟨p, hp, rfl⟩ := List.mem_map.mp h
    exact ⟨p.2, hp⟩
  have hfa : ∀ p ∈ t.fns, (t.d K w).fa p.2.1 = some (He.ga K p.1) := fun p hp => by
    have q := w1 p hp
    show (t.fns.find? _).map _ = _
    cases r : t.fns.find? fun q => decide (q.2.1 = p.2.1) with
    | none => rw [r] at q; cases q
    | some z =>
      rw [r] at q
      have q' : z.1 = p.1 := Option.some.inj q
      show some (He.ga K z.1) = _
      rw [q']
  have hxa : ∀ p ∈ t.excs, (t.d K w).xa p.2 = some (He.ga K p.1) := fun p hp => by
    have q := w2 p hp
    show (t.excs.find? _).map _ = _
    cases r : t.excs.find? fun q => decide (q.2 = p.2) with
    | none => rw [r] at q; cases q
    | some z =>
      rw [r] at q
      have q' : z.1 = p.1 := Option.some.inj q
      show some (He.ga K z.1) = _
      rw [q']
  have xa_of : ∀ {c : Nat} {C : Addr}, (t.d K w).xa c = some C → ∃ p ∈ t.excs, p.2 = c ∧ C = He.ga K p.1 := fun {c C} e => by
    have e : (t.excs.find? fun p => decide (p.2 = c)).map (fun p => He.ga K p.1) = some C := e
    obtain ⟨p, h1, h2⟩ := Option.map_eq_some_iff.mp e
    exact ⟨p, List.mem_of_find?_eq_some h1, by simpa using List.find?_some h1, h2.symm⟩
  refine ⟨⟨rfl, rfl, rfl, fun x u hl => ?_, fun x f np hl => ?_, fun x c hl => ?_, fun e E he => ?_, fun x hc => ?_, fun f m h => ?_, fun a b ha hb e => ?_, fun m mm h => ?_, fun x c np hl => ?_, fun f a h => ?_⟩, noListB_ok e1⟩
  · rcases mem_gam hl with ⟨_, _, e, _⟩ | ⟨_, e, hm⟩ | ⟨_, e, _⟩ | ⟨_, _, e, _⟩ <;> cases e
    have q := e2 _ hm
    split at q <;> try contradiction
    rename_i v hv
    obtain ⟨vv, r1, r2⟩ := vB_ok (d := t.d K w) (w := w) rfl rfl rfl (fun a ha => by
      have ha' : a ∈ ts.map fun f => f K := by simpa using ha
      obtain ⟨f, hf', rfl⟩ := List.mem_map.mp ha'
      exact kd f hf') u q
    exact ⟨v, vv, PySem.W.mg_of KX G hv, r1, r2⟩
  · rcases mem_gam hl with ⟨_, _, e, hm⟩ | ⟨_, e, _⟩ | ⟨_, e, _⟩ | ⟨_, _, e, _⟩ <;> cases e
    obtain ⟨D, fd, ps, k1, k2, k3⟩ := hd _ hm
    exact ⟨D, _, fd, ps, k1, k2, He.glo_ok KX G (hf _ hm), hfa _ hm, k3⟩
  · rcases mem_gam hl with ⟨_, _, e, _⟩ | ⟨_, e, _⟩ | ⟨_, e, hm⟩ | ⟨_, _, e, _⟩ <;> cases e
    obtain ⟨g1, g2⟩ := hx _ hm
    obtain ⟨k1, k2, k3, k4⟩ := He.exc_ok g2
    have q := e3 _ hm
    simp only [decide_eq_true_eq] at q
    refine ⟨_, hxa _ hm, He.glo_ok KX G g1, ⟨_, _, _, _, PySem.F.excBase_ValueError, k1, k2, k3, k4⟩, fun e E he => ?_⟩
    obtain ⟨p, hp, rfl, rfl⟩ := xa_of he
    exact q.2 p hp
  · obtain ⟨p, hp, rfl, rfl⟩ := xa_of he
    exact excCB_ok (e3 p hp).1
  · exact He.free_ok KX G (hfr x (by simpa [Tell.gam] using hc))
  · have h : t.attrs.lookup f = some m := h
    have hmem : (f, m) ∈ t.attrs := lookup_memN h
    refine ⟨an_of h, List.mem_map.mpr ⟨(f, m), hmem, rfl⟩, fun c C hC => ?_⟩
    obtain ⟨p, hp, rfl, rfl⟩ := ca_of hC
    obtain ⟨c1, c2, c3, c4⟩ := hc p hp
    exact ⟨He.cls_ok c1, He.noat_ok (c4 _ hmem)⟩
  · obtain ⟨m1, h1⟩ := as_of ha
    obtain ⟨m2, h2⟩ := as_of hb
    have := w4 _ h1 _ h2
    simp only [Bool.or_eq_true, Bool.not_eq_true', decide_eq_false_iff_not, decide_eq_true_eq] at this
    exact this.resolve_left fun q => q e
  · refine ⟨fun a ha q => ?_, fun c C f hC hmm => ?_⟩
    · obtain ⟨m1, h1⟩ := as_of ha
      have h : t.meths.lookup m = some mm := h
      have := w5 _ h1 _ (lookup_memN h)
      simp only [Bool.not_eq_true', decide_eq_false_iff_not] at this
      exact this q
    · obtain ⟨p, hp, rfl, rfl⟩ := ca_of hC
      obtain ⟨c1, c2, c3, c4⟩ := hc p hp
      obtain ⟨m1, D, fd, ps, m2, m3⟩ := hm p hp m mm f h hmm
      exact ⟨D, _, fd, ps, m2, He.cls_ok c1, He.meth_ok m1, m3⟩
  · rcases mem_gam hl with ⟨_, _, e, _⟩ | ⟨_, e, _⟩ | ⟨_, e, _⟩ | ⟨_, _, e, hmm⟩ <;> cases e
    obtain ⟨c1, c2, c3, c4⟩ := hc _ hmm
    obtain ⟨D, fd, ps, i1, i2, i3⟩ := hi _ hmm
    exact ⟨D, _, _, fd, ps, i1, i2, He.glo_ok KX G c2, hca _ hmm, He.mkr_ok c3, i3⟩
  · have h : (t.fns.find? fun p => decide (p.2.1 = f)).map (fun p => He.ga K p.1) = some a := h
    obtain ⟨p, h1, rfl⟩ := Option.map_eq_some_iff.mp h
    have h2 := List.find?_some h1
    simp only [decide_eq_true_eq] at h2
    subst h2
    obtain ⟨D, fd, ps, k1, k2, k3⟩ := hd p (List.mem_of_find?_eq_some h1)
    exact ⟨D, fd, ps, k1, k3⟩
end Hf
end

section
set_option Elab.async false
set_option linter.all false
set_option maxRecDepth 100000
set_option maxHeartbeats 1000000
/-! HfEv: the evaluator as rewriting rules, heads first. -/
namespace Hf
/-! ### heads first: what follows is not looked at before -/
/-- a part on which another one hangs: rewriting leaves it alone -/
structure U {α : Sort u} (k : α) : Type where
def Res.bnd {α β : Type} (x : Res α) (k : α → Store → Res β) (_ : U k := ⟨⟩) : Res β := x.bind k
def Res.toT {α : Type} (x : Res α) (r : Env) (k : α → Store → SRes) (_ : U k := ⟨⟩) : SRes := x.toS r k
@[simp] theorem bnd_ok {α β : Type} (a : α) (S : Store) (k : α → Store → Res β) (u : U k) : (Res.ok a S).bnd k u = k a S := rfl
@[simp] theorem bnd_exn {α β : Type} (a : Nat) (S : Store) (k : α → Store → Res β) (u : U k) : (Res.exn a S).bnd k u = .exn a S := rfl
@[simp] theorem bnd_bad {α β : Type} (k : α → Store → Res β) (u : U k) : (Res.bad).bnd k u = .bad := rfl
@[simp] theorem toT_ok {α : Type} (a : α) (S : Store) (r : Env) (k : α → Store → SRes) (u : U k) : (Res.ok a S).toT r k u = k a S := rfl
@[simp] theorem toT_exn {α : Type} (a : Nat) (S : Store) (r : Env) (k : α → Store → SRes) (u : U k) : (Res.exn a S : Res α).toT r k u = .exn a r S := rfl
@[simp] theorem toT_bad {α : Type} (r : Env) (k : α → Store → SRes) (u : U k) : (Res.bad : Res α).toT r k u = .bad := rfl
@[simp] theorem bind_ok {α β : Type} (a : α) (S : Store) (k : α → Store → Res β) : (Res.ok a S).bind k = k a S := rfl
@[simp] theorem bind_exn {α β : Type} (a : Nat) (S : Store) (k : α → Store → Res β) : (Res.exn a S).bind k = .exn a S := rfl
@[simp] theorem bind_bad {α β : Type} (k : α → Store → Res β) : (Res.bad).bind k = .bad := rfl
@[simp] theorem of_some {α : Type} (a : α) (S : Store) : Res.of (some a) S = .ok a S := rfl
@[simp] theorem of_none {α : Type} (S : Store) : (Res.of none S : Res α) = .bad := rfl
def asJ (t : T) (S : Store) (k : Int → Store → Res T) (_ : U k := ⟨⟩) : Res T := asI t S k
@[simp] theorem asJ_int (b : Int) (S : Store) (k : Int → Store → Res T) (u : U k) : asJ (.int b) S k u = k b S := rfl
@[simp] theorem toB0_bl (b : Bool) (S : Store) : toB0 (.ok (.bl b) S) = .ok b S := rfl
@[simp] theorem fin_ret (t : T) (S : Store) : (SRes.ret t S).fin = .ok t S := rfl
@[simp] theorem fin_nx (r : Env) (S : Store) : (SRes.nx r S).fin = .ok .non S := rfl
@[simp] theorem fin_exn (c : Nat) (r : Env) (S : Store) : (SRes.exn c r S).fin = .exn c S := rfl
@[simp] theorem look_non (S : Store) : look S .non = .non := rfl
@[simp] theorem look_bl (S : Store) (b : Bool) : look S (.bl b) = .bl b := rfl
@[simp] theorem look_int (S : Store) (b : Int) : look S (.int b) = .int b := rfl
@[simp] theorem look_str (S : Store) (s : List Nat) : look S (.str s) = .str s := rfl
@[simp] theorem look_tup (S : Store) (s : List T) : look S (.tup s) = .tup s := rfl
@[simp] theorem look_lst (S : Store) (s : List T) : look S (.lst s) = .lst s := rfl
@[simp] theorem look_dic (S : Store) (s : List (T × T)) : look S (.dic s) = .dic s := rfl
@[simp] theorem look_ins (S : Store) (c : Nat) (s : List (Nat × T)) : look S (.ins c s) = .ins c s := rfl
theorem look_ref (S : Store) (n : Nat) (xs : List T) (h : S[n]? = some (.lst xs)) : look S (.ref n) = .lst xs := by simp [look, h]
theorem look_data (S : Store) {t : T} (h : t.data = true) : look S t = t := by
  cases t <;> first | rfl | simp [T.data] at h
/-! ### forks by a truth value -/
def fork {α : Type} (t : T) (a b : Res α) (_ : U a := ⟨⟩) (_ : U b := ⟨⟩) : Res α := match t with
  | .bl true => a
  | .bl false => b
  | _ => .bad
@[simp] theorem fork_true {α : Type} (a b : Res α) (u : U a) (v : U b) : fork (.bl true) a b u v = a := rfl
@[simp] theorem fork_false {α : Type} (a b : Res α) (u : U a) (v : U b) : fork (.bl false) a b u v = b := rfl
def forkS (t : T) (a b : SRes) (_ : U a := ⟨⟩) (_ : U b := ⟨⟩) : SRes := match t with
  | .bl true => a
  | .bl false => b
  | _ => .bad
@[simp] theorem forkS_true (a b : SRes) (u : U a) (v : U b) : forkS (.bl true) a b u v = a := rfl
@[simp] theorem forkS_false (a b : SRes) (u : U a) (v : U b) : forkS (.bl false) a b u v = b := rfl
def onB (t : T) (S : Store) : Res T := match t with
  | .bl b => .ok (.bl b) S
  | _ => .bad
@[simp] theorem onB_bl (b : Bool) (S : Store) : onB (.bl b) S = .ok (.bl b) S := rfl
def notB (t : T) (S : Store) : Res T := match t with
  | .bl b => .ok (.bl (!b)) S
  | _ => .bad
@[simp] theorem notB_bl (b : Bool) (S : Store) : notB (.bl b) S = .ok (.bl (!b)) S := rfl
/-! ### names -/
def nameV (o : Option Slot) (S : Store) : Res T := match o with
  | some (.val t) => .ok t S
  | _ => .bad
@[simp] theorem nameV_val (t : T) (S : Store) : nameV (some (.val t)) S = .ok t S := rfl
def lookV (o : Option Slot) (S : Store) : Res T := match o with
  | some (.own xs) => .ok (.lst xs) S
  | some (.inst c fs) => .ok (.ins c fs) S
  | some (.val t) => .ok t S
  | _ => .bad
@[simp] theorem lookV_val (t : T) (S : Store) : lookV (some (.val t)) S = .ok t S := rfl
@[simp] theorem lookV_own (t : List T) (S : Store) : lookV (some (.own t)) S = .ok (.lst t) S := rfl
@[simp] theorem lookV_inst (c : Nat) (fs : List (Nat × T)) (S : Store) : lookV (some (.inst c fs)) S = .ok (.ins c fs) S := rfl
section
variable (P : Prog) (cf mk : Nat → List T → Store → Res T) (r : Env) (S : Store)
theorem view_v (i : Nat) (x : Res T) : view r (.v i) S x = lookV r[i]? S := rfl
/-- a part that is looked at only -/
def evL (r : Env) (e : E) (S : Store) : Res T := view r e S (ev P cf mk r e S)
@[simp] theorem evL_v (i : Nat) : evL P cf mk r (.v i) S = lookV r[i]? S := rfl
theorem evL_of (e : E) (h : ∀ i, e ≠ .v i) : evL P cf mk r e S = ev P cf mk r e S := by
  unfold evL view
  cases e <;> first | rfl | exact absurd rfl (h _)
@[simp] theorem evL_k (t : T) : evL P cf mk r (.k t) S = .ok t S := by rw [evL_of _ _ _ _ _ _ (by intro i h; cases h)]; simp only [ev]
@[simp] theorem evL_g (x : List Nat) (t : T) : evL P cf mk r (.g x t) S = .ok t S := by rw [evL_of _ _ _ _ _ _ (by intro i h; cases h)]; simp only [ev]
@[simp] theorem evL_sub (a i : E) : evL P cf mk r (.sub a i) S = ev P cf mk r (.sub a i) S := evL_of _ _ _ _ _ _ (by intro i h; cases h)
@[simp] theorem evL_call (f : Nat) (es : List E) : evL P cf mk r (.call f es) S = ev P cf mk r (.call f es) S := evL_of _ _ _ _ _ _ (by intro i h; cases h)
@[simp] theorem evL_meth (f : Nat) (e : E) (es : List E) : evL P cf mk r (.meth f e es) S = ev P cf mk r (.meth f e es) S := evL_of _ _ _ _ _ _ (by intro i h; cases h)
@[simp] theorem evL_attr (e : E) (a : Nat) : evL P cf mk r (.attr e a) S = ev P cf mk r (.attr e a) S := evL_of _ _ _ _ _ _ (by intro i h; cases h)
@[simp] theorem evL_tup (es : List E) : evL P cf mk r (.tup es) S = ev P cf mk r (.tup es) S := evL_of _ _ _ _ _ _ (by intro i h; cases h)
@[simp] theorem evL_disp (es : List E) : evL P cf mk r (.disp es) S = ev P cf mk r (.disp es) S := evL_of _ _ _ _ _ _ (by intro i h; cases h)
@[simp] theorem evL_comp (a : E) (t : Tg) (b : E) : evL P cf mk r (.comp a t b) S = ev P cf mk r (.comp a t b) S := evL_of _ _ _ _ _ _ (by intro i h; cases h)
@[simp] theorem evL_compI (a : E) (t : Tg) (b c : E) : evL P cf mk r (.compI a t b c) S = ev P cf mk r (.compI a t b c) S := evL_of _ _ _ _ _ _ (by intro i h; cases h)
@[simp] theorem evL_comp2 (a : E) (t : Tg) (b : E) (t2 : Tg) (b2 : E) : evL P cf mk r (.comp2 a t b t2 b2) S = ev P cf mk r (.comp2 a t b t2 b2) S := evL_of _ _ _ _ _ _ (by intro i h; cases h)
@[simp] theorem evL_bi (b : Bi) (es : List E) : evL P cf mk r (.bi b es) S = ev P cf mk r (.bi b es) S := evL_of _ _ _ _ _ _ (by intro i h; cases h)
@[simp] theorem evL_op (o : Op2) (a b : E) : evL P cf mk r (.op o a b) S = ev P cf mk r (.op o a b) S := evL_of _ _ _ _ _ _ (by intro i h; cases h)
@[simp] theorem evL_cat (a b : E) : evL P cf mk r (.cat a b) S = ev P cf mk r (.cat a b) S := evL_of _ _ _ _ _ _ (by intro i h; cases h)
@[simp] theorem evL_ife (c a b : E) : evL P cf mk r (.ife c a b) S = ev P cf mk r (.ife c a b) S := evL_of _ _ _ _ _ _ (by intro i h; cases h)
@[simp] theorem evL_dict (a : List T) (b : List E) : evL P cf mk r (.dict a b) S = ev P cf mk r (.dict a b) S := evL_of _ _ _ _ _ _ (by intro i h; cases h)
@[simp] theorem evL_slice (a b c : E) : evL P cf mk r (.slice a b c) S = ev P cf mk r (.slice a b c) S := evL_of _ _ _ _ _ _ (by intro i h; cases h)
@[simp] theorem evL_sliceL (a b : E) : evL P cf mk r (.sliceL a b) S = ev P cf mk r (.sliceL a b) S := evL_of _ _ _ _ _ _ (by intro i h; cases h)
@[simp] theorem evL_sliceR (a b : E) : evL P cf mk r (.sliceR a b) S = ev P cf mk r (.sliceR a b) S := evL_of _ _ _ _ _ _ (by intro i h; cases h)
@[simp] theorem evL_rng (a : E) : evL P cf mk r (.rng a) S = ev P cf mk r (.rng a) S := evL_of _ _ _ _ _ _ (by intro i h; cases h)
@[simp] theorem evL_rng2 (a b : E) : evL P cf mk r (.rng2 a b) S = ev P cf mk r (.rng2 a b) S := evL_of _ _ _ _ _ _ (by intro i h; cases h)
@[simp] theorem evL_enum (a : E) : evL P cf mk r (.enum a) S = ev P cf mk r (.enum a) S := evL_of _ _ _ _ _ _ (by intro i h; cases h)
@[simp] theorem evL_neg (a : E) : evL P cf mk r (.neg a) S = ev P cf mk r (.neg a) S := evL_of _ _ _ _ _ _ (by intro i h; cases h)
@[simp] theorem evL_lof (a : E) : evL P cf mk r (.lof a) S = ev P cf mk r (.lof a) S := evL_of _ _ _ _ _ _ (by intro i h; cases h)
@[simp] theorem evL_tof (a : E) : evL P cf mk r (.tof a) S = ev P cf mk r (.tof a) S := evL_of _ _ _ _ _ _ (by intro i h; cases h)
@[simp] theorem evL_sorted (a : E) : evL P cf mk r (.sorted a) S = ev P cf mk r (.sorted a) S := evL_of _ _ _ _ _ _ (by intro i h; cases h)
@[simp] theorem evL_lrng (a : E) : evL P cf mk r (.lrng a) S = ev P cf mk r (.lrng a) S := evL_of _ _ _ _ _ _ (by intro i h; cases h)
@[simp] theorem evL_trng (a : E) : evL P cf mk r (.trng a) S = ev P cf mk r (.trng a) S := evL_of _ _ _ _ _ _ (by intro i h; cases h)
@[simp] theorem evL_rep (a b : E) : evL P cf mk r (.rep a b) S = ev P cf mk r (.rep a b) S := evL_of _ _ _ _ _ _ (by intro i h; cases h)
@[simp] theorem evL_cmp (c : Cmp) (a b : E) : evL P cf mk r (.cmp c a b) S = ev P cf mk r (.cmp c a b) S := evL_of _ _ _ _ _ _ (by intro i h; cases h)
/-! ### expressions -/
@[simp] theorem e_k (t : T) : ev P cf mk r (.k t) S = .ok t S := by simp only [ev] <;> rfl
@[simp] theorem e_g (x : List Nat) (t : T) : ev P cf mk r (.g x t) S = .ok t S := by simp only [ev] <;> rfl
@[simp] theorem e_f (x : List Nat) (f : Nat) : ev P cf mk r (.f x f) S = .ok (.fn f) S := by simp only [ev] <;> rfl
@[simp] theorem e_v (i : Nat) : ev P cf mk r (.v i) S = nameV r[i]? S := by simp only [ev] <;> rfl
@[simp] theorem e_tup (es : List E) : ev P cf mk r (.tup es) S = (evs P cf mk r es S).bnd fun xs S => .ok (.tup xs) S := by simp only [ev] <;> rfl
@[simp] theorem e_disp (es : List E) : ev P cf mk r (.disp es) S = (evs P cf mk r es S).bnd fun xs S => .ok (.lst xs) S := by simp only [ev] <;> rfl
@[simp] theorem e_nil : evs P cf mk r [] S = .ok [] S := by simp only [evs] <;> rfl
@[simp] theorem e_cons (e : E) (es : List E) : evs P cf mk r (e :: es) S = (ev P cf mk r e S).bnd fun x S => (evs P cf mk r es S).bnd fun xs S => .ok (x :: xs) S := by simp only [evs] <;> rfl
@[simp] theorem eV_nil : evVs P cf mk r [] S = .ok [] S := by simp only [evVs]
@[simp] theorem eV_cons (e : E) (es : List E) : evVs P cf mk r (e :: es) S = (evL P cf mk r e S).bnd fun x S => (evVs P cf mk r es S).bnd fun xs S => .ok (x :: xs) S := by simp only [evVs]; rfl
/-- the items of what is walked -/
def itemsOf (c : T) (S : Store) : Res (T × List T) := match (look S c).items with
  | some xs => .ok (c, xs) S
  | none => .bad
@[simp] theorem items_tup (xs : List T) (S : Store) : itemsOf (.tup xs) S = .ok (.tup xs, xs) S := rfl
@[simp] theorem items_lst (xs : List T) (S : Store) : itemsOf (.lst xs) S = .ok (.lst xs, xs) S := rfl
@[simp] theorem items_str (s : List Nat) (S : Store) : itemsOf (.str s) S = .ok (.str s, s.map fun c => .str [c]) S := rfl
theorem items_ref (n : Nat) (xs : List T) (S : Store) (h : S[n]? = some (.lst xs)) : itemsOf (.ref n) S = .ok (.ref n, xs) S := by simp [itemsOf, look, h, T.items]
theorem itM_bind (x : Res T) : itM x = x.bind itemsOf := rfl
@[simp] theorem still_tup (xs ys : List T) (S : Store) : still (.tup xs) ys S = true := rfl
@[simp] theorem still_lst (xs ys : List T) (S : Store) : still (.lst xs) ys S = true := rfl
@[simp] theorem still_str (xs : List Nat) (ys : List T) (S : Store) : still (.str xs) ys S = true := rfl
/-- one turn of a comprehension -/
def turn (elt : E) (tg : Tg) (x : T) (S : Store) : Res (Option T) := match bindT tg x (wipeE r tg.slots) with
  | some r' => (ev P cf mk r' elt S).bnd fun y S => .ok (some y) S
  | none => .bad
def ifO (b : Bool) (x : Res (Option T)) (S : Store) (_ : U x := ⟨⟩) : Res (Option T) := if b = true then x else .ok none S
@[simp] theorem ifO_true (x : Res (Option T)) (S : Store) (u : U x) : ifO true x S u = x := rfl
@[simp] theorem ifO_false (x : Res (Option T)) (S : Store) (u : U x) : ifO false x S u = .ok none S := rfl
def turnI (elt : E) (tg : Tg) (t : E) (x : T) (S : Store) : Res (Option T) := match bindT tg x (wipeE r tg.slots) with
  | some r' => (toB0 (ev P cf mk r' t S)).bnd fun b S => ifO b ((ev P cf mk r' elt S).bnd fun y S => .ok (some y) S) S
  | none => .bad
@[simp] theorem e_comp (elt : E) (tg : Tg) (it : E) : ev P cf mk r (.comp elt tg it) S = ((evL P cf mk r it S).bnd itemsOf).bnd fun p S => (compLoop (still p.1 p.2) (turn P cf mk r elt tg) p.2 S).bnd fun ys S => .ok (.lst ys) S := by
  simp only [ev, itM_bind]; rfl
@[simp] theorem e_compI (elt : E) (tg : Tg) (it t : E) : ev P cf mk r (.compI elt tg it t) S = ((evL P cf mk r it S).bnd itemsOf).bnd fun p S => (compLoop (still p.1 p.2) (turnI P cf mk r elt tg t) p.2 S).bnd fun ys S => .ok (.lst ys) S := by
  simp only [ev, itM_bind]; rfl
@[simp] theorem e_setlen (elt : E) (tg : Tg) (it : E) : ev P cf mk r (.setlen elt tg it) S = ((evL P cf mk r it S).bnd itemsOf).bnd fun p S => (compLoop (still p.1 p.2) (turn P cf mk r elt tg) p.2 S).bnd fun ys S => if rowsI ys = true then .ok (.int (unlike ys)) S else .bad := by
  simp only [ev, itM_bind]; rfl
def turn2 (elt : E) (tg : Tg) (tg2 : Tg) (it2 : E) (x : T) (S : Store) : Res (List T) := match bindT tg x (wipeE r (tg.slots ++ tg2.slots)) with
  | some r' => ((evL P cf mk r' it2 S).bnd itemsOf).bnd fun p2 S => if p2.2.length ≤ 2048 then compLoop (still p2.1 p2.2) (turn P cf mk r' elt tg2) p2.2 S else .bad
  | none => .bad
@[simp] theorem e_comp2 (elt : E) (tg : Tg) (it : E) (tg2 : Tg) (it2 : E) : ev P cf mk r (.comp2 elt tg it tg2 it2) S = ((evL P cf mk r it S).bnd itemsOf).bnd fun p S => if p.2.length ≤ 2048 then (compLoop2 (still p.1 p.2) (turn2 P cf mk r elt tg tg2 it2) p.2 S).bnd fun ys S => .ok (.lst ys) S else .bad := by
  simp only [ev, itM_bind]; rfl
def lofV (x : T) (S : Store) : Res T := match x with
  | .lst xs => .ok (.lst xs) S
  | .tup xs => .ok (.lst xs) S
  | _ => .bad
def tofV (x : T) (S : Store) : Res T := match x with
  | .lst xs => .ok (.tup xs) S
  | .tup xs => .ok (.tup xs) S
  | _ => .bad
@[simp] theorem lofV_lst (xs : List T) : lofV (.lst xs) S = .ok (.lst xs) S := rfl
@[simp] theorem lofV_tup (xs : List T) : lofV (.tup xs) S = .ok (.lst xs) S := rfl
@[simp] theorem tofV_lst (xs : List T) : tofV (.lst xs) S = .ok (.tup xs) S := rfl
@[simp] theorem tofV_tup (xs : List T) : tofV (.tup xs) S = .ok (.tup xs) S := rfl
@[simp] theorem e_lof (e : E) : ev P cf mk r (.lof e) S = (evL P cf mk r e S).bnd fun c S => lofV (look S c) S := by simp only [ev] <;> rfl
@[simp] theorem e_tof (e : E) : ev P cf mk r (.tof e) S = (evL P cf mk r e S).bnd fun c S => tofV (look S c) S := by simp only [ev] <;> rfl
@[simp] theorem e_lrng (e : E) : ev P cf mk r (.lrng e) S = (ev P cf mk r e S).bnd fun x S => asJ x S fun i S => if i ≤ 16777216 ∧ -16777216 ≤ i then .ok (.lst (rangeL 0 i)) S else .bad := by simp only [ev] <;> rfl
@[simp] theorem e_trng (e : E) : ev P cf mk r (.trng e) S = (ev P cf mk r e S).bnd fun x S => asJ x S fun i S => if i ≤ 16777216 ∧ -16777216 ≤ i then .ok (.tup (rangeL 0 i)) S else .bad := by simp only [ev] <;> rfl
@[simp] theorem e_sorted (e : E) : ev P cf mk r (.sorted e) S = (evL P cf mk r e S).bnd fun c S => Res.of (look S c).sorted S := by simp only [ev] <;> rfl
@[simp] theorem e_sub (a i : E) : ev P cf mk r (.sub a i) S = (evL P cf mk r a S).bnd fun x S => (ev P cf mk r i S).bnd fun y S => Res.of ((look S x).subI y) S := by simp only [ev] <;> rfl
@[simp] theorem e_slice (a lo hi : E) : ev P cf mk r (.slice a lo hi) S = (evL P cf mk r a S).bnd fun x S => (ev P cf mk r lo S).bnd fun l S => asJ l S fun l S => (ev P cf mk r hi S).bnd fun h S => asJ h S fun h S => Res.of ((look S x).cut (some l) (some h)) S := by simp only [ev] <;> rfl
@[simp] theorem e_sliceL (a lo : E) : ev P cf mk r (.sliceL a lo) S = (evL P cf mk r a S).bnd fun x S => (ev P cf mk r lo S).bnd fun l S => asJ l S fun l S => Res.of ((look S x).cut (some l) none) S := by simp only [ev] <;> rfl
@[simp] theorem e_sliceR (a hi : E) : ev P cf mk r (.sliceR a hi) S = (evL P cf mk r a S).bnd fun x S => (ev P cf mk r hi S).bnd fun h S => asJ h S fun h S => Res.of ((look S x).cut none (some h)) S := by simp only [ev] <;> rfl
@[simp] theorem e_op (o : Op2) (a b : E) : ev P cf mk r (.op o a b) S = (ev P cf mk r a S).bnd fun x S => (ev P cf mk r b S).bnd fun y S => Res.of (o.ev x y) S := by simp only [ev] <;> rfl
def catV (x y : T) (S : Store) : Res T := match x, y with
  | .lst xs, .lst ys => if xs.length + ys.length ≤ sizeLim then .ok (.lst (xs ++ ys)) S else .bad
  | _, _ => .bad
@[simp] theorem catV_lst (xs ys : List T) : catV (.lst xs) (.lst ys) S = if xs.length + ys.length ≤ sizeLim then .ok (.lst (xs ++ ys)) S else .bad := rfl
@[simp] theorem e_cat (a b : E) : ev P cf mk r (.cat a b) S = (evL P cf mk r a S).bnd fun x S => (evL P cf mk r b S).bnd fun y S => catV (look S x) (look S y) S := by simp only [ev] <;> rfl
def repV (x y : T) (S : Store) : Res T := match x, y with
  | .lst xs, .int k => if -(2 ^ 63) ≤ k ∧ k < 2 ^ 63 ∧ xs.length * k.toNat ≤ sizeLim then .ok (.lst (List.replicate k.toNat xs).flatten) S else .bad
  | _, _ => .bad
@[simp] theorem repV_lst (xs : List T) (k : Int) : repV (.lst xs) (.int k) S = if -(2 ^ 63) ≤ k ∧ k < 2 ^ 63 ∧ xs.length * k.toNat ≤ sizeLim then .ok (.lst (List.replicate k.toNat xs).flatten) S else .bad := rfl
@[simp] theorem e_rep (a b : E) : ev P cf mk r (.rep a b) S = (evL P cf mk r a S).bnd fun x S => (ev P cf mk r b S).bnd fun y S => repV (look S x) y S := by simp only [ev] <;> rfl
@[simp] theorem e_neg (a : E) : ev P cf mk r (.neg a) S = (ev P cf mk r a S).bnd fun x S => asJ x S fun i S => .ok (.int (-i)) S := by simp only [ev] <;> rfl
@[simp] theorem e_cmp (c : Cmp) (a b : E) : ev P cf mk r (.cmp c a b) S = (evL P cf mk r a S).bnd fun x S => (evL P cf mk r b S).bnd fun y S => Res.of ((c.ev (look S x) (look S y)).map .bl) S := by simp only [ev] <;> rfl
def optB (o : Option Bool) (a b : Res T) (_ : U a := ⟨⟩) (_ : U b := ⟨⟩) : Res T := match o with
  | some true => a
  | some false => b
  | none => .bad
@[simp] theorem optB_true (a b : Res T) (u : U a) (v : U b) : optB (some true) a b u v = a := rfl
@[simp] theorem optB_false (a b : Res T) (u : U a) (v : U b) : optB (some false) a b u v = b := rfl
@[simp] theorem e_chain (c d : Cmp) (a b e : E) : ev P cf mk r (.chain c d a b e) S = (ev P cf mk r a S).bnd fun x S => (ev P cf mk r b S).bnd fun y S => optB (c.ev x y) ((ev P cf mk r e S).bnd fun z S => Res.of ((d.ev y z).map .bl) S) (.ok (.bl false) S) := by simp only [ev] <;> rfl
@[simp] theorem e_isK (n : Bool) (a : E) (t : T) : ev P cf mk r (.isK n a t) S = (ev P cf mk r a S).bnd fun x S => Res.of ((x.isK t).map fun b => .bl (b != n)) S := by simp only [ev] <;> rfl
@[simp] theorem e_and (a b : E) : ev P cf mk r (.and a b) S = (ev P cf mk r a S).bnd fun x S => fork x ((ev P cf mk r b S).bnd fun y S => onB y S) (.ok (.bl false) S) := by
  simp only [ev]
  congr 1; funext x S
  cases x <;> try rfl
  rename_i b'; cases b' <;> rfl
@[simp] theorem e_or (a b : E) : ev P cf mk r (.or a b) S = (ev P cf mk r a S).bnd fun x S => fork x (.ok (.bl true) S) ((ev P cf mk r b S).bnd fun y S => onB y S) := by
  simp only [ev]
  congr 1; funext x S
  cases x <;> try rfl
  rename_i b'; cases b' <;> rfl
@[simp] theorem e_not (a : E) : ev P cf mk r (.not a) S = (ev P cf mk r a S).bnd fun x S => notB x S := by simp only [ev] <;> rfl
@[simp] theorem e_ife (c a b : E) : ev P cf mk r (.ife c a b) S = (ev P cf mk r c S).bnd fun x S => fork x (ev P cf mk r a S) (ev P cf mk r b S) := by
  simp only [ev]
  congr 1; funext x S
  cases x <;> try rfl
  rename_i b'; cases b' <;> rfl
@[simp] theorem e_call (f : Nat) (es : List E) : ev P cf mk r (.call f es) S = (evs P cf mk r es S).bnd fun xs S => cf f xs S := by simp only [ev] <;> rfl
@[simp] theorem e_mk (c : Nat) (es : List E) : ev P cf mk r (.mk c es) S = (evs P cf mk r es S).bnd fun xs S => mk c xs S := by simp only [ev] <;> rfl
def methV (P : Prog) (m : Nat) (x : T) (k : Nat → Res T) (_ : U k := ⟨⟩) : Res T := match x with
  | .ins c _ => (match P.meth c m with
    | some f => k f
    | none => .bad)
  | _ => .bad
@[simp] theorem e_meth (m : Nat) (e : E) (es : List E) : ev P cf mk r (.meth m e es) S = (ev P cf mk r e S).bnd fun x S => methV P m x fun f => (evs P cf mk r es S).bnd fun xs S => cf f (x :: xs) S := by simp only [ev] <;> rfl
@[simp] theorem e_attr (e : E) (a : Nat) : ev P cf mk r (.attr e a) S = (evL P cf mk r e S).bnd fun x S => Res.of (x.attr a) S := by simp only [ev] <;> rfl
@[simp] theorem e_bi (b : Bi) (es : List E) : ev P cf mk r (.bi b es) S = (evVs P cf mk r es S).bnd fun xs S => Res.of (b.ev (xs.map (look S))) S := by simp only [ev] <;> rfl
@[simp] theorem e_isi (e : E) (ty : Ty) : ev P cf mk r (.isi e ty) S = (evL P cf mk r e S).bnd fun x S => Res.of ((ty.ev (look S x)).map .bl) S := by simp only [ev] <;> rfl
@[simp] theorem e_isi2 (e : E) (ty ty2 : Ty) : ev P cf mk r (.isi2 e ty ty2) S = (evL P cf mk r e S).bnd fun x S => Res.of ((ty.ev (look S x)).bind fun a => (ty2.ev (look S x)).map fun b => .bl (a || b)) S := by simp only [ev] <;> rfl
def isxV (P : Prog) (o : Option Slot) (c : Nat) (S : Store) : Res T := match o with
  | some (.exc d) => .ok (.bl (P.sub d c)) S
  | _ => .bad
@[simp] theorem isxV_exc (d c : Nat) : isxV P (some (.exc d)) c S = .ok (.bl (P.sub d c)) S := rfl
@[simp] theorem e_isx (i c : Nat) : ev P cf mk r (.isx i c) S = isxV P r[i]? c S := by simp only [ev] <;> rfl
def cellV (x : T) (S : Store) : Res T := match x with
  | .lst xs => .ok (.ref S.length) (S ++ [.lst xs])
  | _ => .bad
@[simp] theorem cellV_lst (xs : List T) : cellV (.lst xs) S = .ok (.ref S.length) (S ++ [.lst xs]) := rfl
@[simp] theorem e_cell (e : E) : ev P cf mk r (.cell e) S = (ev P cf mk r e S).bnd fun x S => cellV x S := by simp only [ev] <;> rfl
def joinV (x : T) (S : Store) : Res T := match x with
  | .lst xs => (match joined xs with
    | some z => if z.length ≤ sizeLim then .ok (.str z) S else .bad
    | none => .bad)
  | _ => .bad
@[simp] theorem e_join (e : E) : ev P cf mk r (.join e) S = (evL P cf mk r e S).bnd fun x S => joinV (look S x) S := by simp only [ev] <;> rfl
@[simp] theorem e_index (a b : E) : ev P cf mk r (.index a b) S = (evL P cf mk r a S).bnd fun x S => match look S x with
    | .lst _ => (ev P cf mk r b S).bnd fun y S => Res.of ((look S x).index y) S
    | _ => .bad := by simp only [ev] <;> rfl
@[simp] theorem e_dict (ks : List T) (es : List E) : ev P cf mk r (.dict ks es) S = (evs P cf mk r es S).bnd fun xs S => .ok (.dic (ks.zip xs)) S := by simp only [ev] <;> rfl
@[simp] theorem e_rng (e : E) : ev P cf mk r (.rng e) S = (ev P cf mk r e S).bnd fun x S => asJ x S fun i S => if i ≤ 16777216 ∧ -(2 ^ 60) < i then .ok (.lst (rangeL 0 i)) S else .bad := by simp only [ev] <;> rfl
@[simp] theorem e_rng2 (a b : E) : ev P cf mk r (.rng2 a b) S = (ev P cf mk r a S).bnd fun x S => (ev P cf mk r b S).bnd fun y S => asJ x S fun i S => asJ y S fun j S => if (-(2 ^ 60) < i ∧ i < 2 ^ 60) ∧ -(2 ^ 60) < j ∧ j < 2 ^ 60 ∧ j - i ≤ 16777216 then .ok (.lst (rangeL i j)) S else .bad := by simp only [ev] <;> rfl
def enumV (x : T) (S : Store) : Res T := match x with
  | .lst xs => .ok (.lst (enumL 0 xs)) S
  | .tup xs => .ok (.lst (enumL 0 xs)) S
  | _ => .bad
@[simp] theorem enumV_lst (xs : List T) : enumV (.lst xs) S = .ok (.lst (enumL 0 xs)) S := rfl
@[simp] theorem enumV_tup (xs : List T) : enumV (.tup xs) S = .ok (.lst (enumL 0 xs)) S := rfl
@[simp] theorem e_enum (e : E) : ev P cf mk r (.enum e) S = (ev P cf mk r e S).bnd enumV := by simp only [ev] <;> rfl
/-! ### statements -/
def SRes.seq (x : SRes) (k : Env → Store → SRes) (_ : U k := ⟨⟩) : SRes := match x with
  | .nx r' S' => k r' S'
  | x => x
@[simp] theorem seq_nx (k : Env → Store → SRes) (u : U k) : (SRes.nx r S).seq k u = k r S := rfl
@[simp] theorem seq_ret (t : T) (k : Env → Store → SRes) (u : U k) : (SRes.ret t S).seq k u = .ret t S := rfl
@[simp] theorem seq_brk (k : Env → Store → SRes) (u : U k) : (SRes.brk r S).seq k u = .brk r S := rfl
@[simp] theorem seq_cnt (k : Env → Store → SRes) (u : U k) : (SRes.cnt r S).seq k u = .cnt r S := rfl
@[simp] theorem seq_exn (c : Nat) (k : Env → Store → SRes) (u : U k) : (SRes.exn c r S).seq k u = .exn c r S := rfl
@[simp] theorem seq_bad (k : Env → Store → SRes) (u : U k) : SRes.bad.seq k u = .bad := rfl
@[simp] theorem q_nil : exs P cf mk [] r S = .nx r S := by simp only [exs]
theorem q_one (s : Hf.S) : exs P cf mk [s] r S = ex P cf mk s r S := by
  simp only [exs]; cases ex P cf mk s r S <;> rfl
@[simp] theorem q_cons (s : Hf.S) (l : List Hf.S) : exs P cf mk (s :: l) r S = (ex P cf mk s r S).seq fun r' S' => exs P cf mk l r' S' := by
  simp only [exs]; cases ex P cf mk s r S <;> rfl
def nxO (o : Option Env) (S : Store) : SRes := match o with
  | some r' => .nx r' S
  | none => .bad
@[simp] theorem nxO_some : nxO (some r) S = .nx r S := rfl
@[simp] theorem q_asg (tg : Tg) (e : E) : ex P cf mk (.asg tg e) r S = (ev P cf mk r e S).toT r fun t S => nxO (bindT tg t r) S := by simp only [ex] <;> rfl
def ownS (i : Nat) (t : T) (r : Env) (S : Store) : SRes := match t with
  | .lst xs => .nx (r.set i (.own xs)) S
  | _ => .bad
@[simp] theorem ownS_lst (i : Nat) (xs : List T) : ownS i (.lst xs) r S = .nx (r.set i (.own xs)) S := rfl
@[simp] theorem q_own (i : Nat) (e : E) : ex P cf mk (.own i e) r S = (ev P cf mk r e S).toT r fun t S => ownS i t r S := by simp only [ex] <;> rfl
def onOwn (o : Option (List T)) (k : List T → SRes) (_ : U k := ⟨⟩) : SRes := match o with
  | some xs => k xs
  | none => .bad
@[simp] theorem onOwn_some (xs : List T) (k : List T → SRes) (u : U k) : onOwn (some xs) k u = k xs := rfl
def ownOf' (o : Option Slot) : Option (List T) := match o with
  | some (.own xs) => some xs
  | _ => none
@[simp] theorem ownOf_own (xs : List T) : ownOf' (some (.own xs)) = some xs := rfl
theorem ownAt_eq (i : Nat) : ownAt r i = ownOf' r[i]? := rfl
@[simp] theorem q_push (i : Nat) (e : E) : ex P cf mk (.push i e) r S = onOwn (ownOf' r[i]?) fun xs => (ev P cf mk r e S).toT r fun t S => if xs.length < sizeLim then .nx (r.set i (.own (xs ++ [t]))) S else .bad := by simp only [ex] <;> rfl
def extS (i : Nat) (xs : List T) (t : T) (r : Env) (S : Store) : SRes := match t with
  | .lst ys => if xs.length + ys.length ≤ sizeLim then .nx (r.set i (.own (xs ++ ys))) S else .bad
  | _ => .bad
@[simp] theorem extS_lst (i : Nat) (xs ys : List T) : extS i xs (.lst ys) r S = if xs.length + ys.length ≤ sizeLim then .nx (r.set i (.own (xs ++ ys))) S else .bad := rfl
@[simp] theorem q_ext (i : Nat) (e : E) : ex P cf mk (.ext i e) r S = onOwn (ownOf' r[i]?) fun xs => (ev P cf mk r e S).toT r fun t S => extS i xs t r S := by simp only [ex] <;> rfl
def setiS (i : Nat) (xs : List T) (t y : T) (r : Env) (S : Store) : SRes := match y with
  | .int z => (match ixN xs.length z with
    | some j => .nx (r.set i (.own (xs.set j t))) S
    | none => .bad)
  | _ => .bad
theorem setiS_at (i : Nat) (xs : List T) (t : T) (z : Int) (j : Nat) (h : ixN xs.length z = some j) : setiS i xs t (.int z) r S = .nx (r.set i (.own (xs.set j t))) S := by simp [setiS, h]
@[simp] theorem q_seti (i : Nat) (k e : E) : ex P cf mk (.seti i k e) r S = (ev P cf mk r e S).toT r fun t S => onOwn (ownOf' r[i]?) fun xs => (ev P cf mk r k S).toT r fun y S => setiS i xs t y r S := by simp only [ex] <;> rfl
def setcS (x y t : T) (r : Env) (S : Store) : SRes := match x, y with
  | .ref n, .int z => (match S[n]? with
    | some (.lst xs) => (match ixN xs.length z with
      | some j => .nx r (S.set n (.lst (xs.set j t)))
      | none => .bad)
    | _ => .bad)
  | _, _ => .bad
@[simp] theorem q_setc (a k e : E) : ex P cf mk (.setc a k e) r S = (ev P cf mk r e S).toT r fun t S => (ev P cf mk r a S).toT r fun x S => (ev P cf mk r k S).toT r fun y S => setcS x y t r S := by simp only [ex] <;> rfl
def pushcS (n : Nat) (t : T) (r : Env) (S : Store) : SRes := match S[n]? with
  | some (.lst xs) => if xs.length < sizeLim then .nx r (S.set n (.lst (xs ++ [t]))) else .bad
  | _ => .bad
def onRef (x : T) (k : Nat → SRes) (_ : U k := ⟨⟩) : SRes := match x with
  | .ref n => k n
  | _ => .bad
@[simp] theorem onRef_ref (n : Nat) (k : Nat → SRes) (u : U k) : onRef (.ref n) k u = k n := rfl
@[simp] theorem q_pushc (a e : E) : ex P cf mk (.pushc a e) r S = (ev P cf mk r a S).toT r fun x S => onRef x fun n => (ev P cf mk r e S).toT r fun t S => pushcS n t r S := by simp only [ex] <;> rfl
def attrS (o : Option Slot) (i a : Nat) (t : T) (r : Env) (S : Store) : SRes := match o with
  | some (.inst c fs) => if fs.length < 500 ∧ noInst (r.set i .no) = true then .nx (r.set i (.inst c (putFs a t fs))) S else .bad
  | _ => .bad
@[simp] theorem attrS_inst (i a c : Nat) (fs : List (Nat × T)) (t : T) : attrS (some (.inst c fs)) i a t r S = if fs.length < 500 ∧ noInst (r.set i .no) = true then .nx (r.set i (.inst c (putFs a t fs))) S else .bad := rfl
@[simp] theorem q_attr (i a : Nat) (e : E) : ex P cf mk (.attr i a e) r S = (ev P cf mk r e S).toT r fun t S => attrS r[i]? i a t r S := by simp only [ex] <;> rfl
@[simp] theorem q_ex (e : E) : ex P cf mk (.ex e) r S = (ev P cf mk r e S).toT r fun _ S => .nx r S := by simp only [ex] <;> rfl
@[simp] theorem q_ret (e : E) : ex P cf mk (.ret e) r S = (ev P cf mk r e S).toT r fun t S => .ret t S := by simp only [ex] <;> rfl
@[simp] theorem q_retN : ex P cf mk .retN r S = .ret .non S := by simp only [ex] <;> rfl
@[simp] theorem qq_ife (c : E) (a b : List Hf.S) : ex P cf mk (.ife c a b) r S = (ev P cf mk r c S).toT r fun x S => forkS x (exs P cf mk a r S) (exs P cf mk b r S) := by simp only [ex] <;> rfl
/-- one turn of a for -/
def goS (tg : Tg) (b : List Hf.S) (x : T) (r : Env) (S : Store) : SRes := match bindT tg x r with
  | some r' => exs P cf mk b r' S
  | none => .bad
@[simp] theorem q_loop (tg : Tg) (it : E) (b : List Hf.S) : ex P cf mk (.loop tg it b) r S = ((ev P cf mk r it S).bnd itemsOf).toT r fun p S => forLoop (still p.1 p.2) (goS P cf mk tg b) p.2 r S := by simp only [ex, itM_bind]; rfl
@[simp] theorem q_raise (c : Nat) : ex P cf mk (.raise c) r S = .exn c r S := by simp only [ex] <;> rfl
@[simp] theorem q_pass : ex P cf mk .pass r S = .nx r S := by simp only [ex] <;> rfl
@[simp] theorem q_brk : ex P cf mk .brk r S = .brk r S := by simp only [ex] <;> rfl
@[simp] theorem q_cont : ex P cf mk .cont r S = .cnt r S := by simp only [ex] <;> rfl
def frzS (o : Option (List T)) (i : Nat) (r : Env) (S : Store) : SRes := match o with
  | some xs => .nx (r.set i (.val (.lst xs))) S
  | none => .nx r S
@[simp] theorem frzS_some (xs : List T) (i : Nat) : frzS (some xs) i r S = .nx (r.set i (.val (.lst xs))) S := rfl
@[simp] theorem frzS_none (i : Nat) : frzS none i r S = .nx r S := rfl
@[simp] theorem q_frz (i : Nat) : ex P cf mk (.frz i) r S = frzS (ownOf' r[i]?) i r S := by simp only [ex] <;> rfl
def SRes.catch (x : SRes) (k : Nat → Env → Store → SRes) (_ : U k := ⟨⟩) : SRes := match x with
  | .exn d r' S' => k d r' S'
  | x => x
@[simp] theorem catch_nx (k : Nat → Env → Store → SRes) (u : U k) : (SRes.nx r S).catch k u = .nx r S := rfl
@[simp] theorem catch_ret (t : T) (k : Nat → Env → Store → SRes) (u : U k) : (SRes.ret t S).catch k u = .ret t S := rfl
@[simp] theorem catch_exn (c : Nat) (k : Nat → Env → Store → SRes) (u : U k) : (SRes.exn c r S).catch k u = k c r S := rfl
theorem q_tryx (b : List Hf.S) (c : Nat) (h : List Hf.S) : ex P cf mk (.tryx b c h) r S = (exs P cf mk b r S).catch fun d r' S' => if P.sub d c = true then (exs P cf mk h r' S').hot else .exn d r' S' := by
  simp only [ex]; cases exs P cf mk b r S <;> rfl
theorem q_tryn (b : List Hf.S) (c i : Nat) (h : List Hf.S) : ex P cf mk (.tryn b c i h) r S = (exs P cf mk b r S).catch fun d r' S' => if P.sub d c = true then (exs P cf mk h (r'.set i (.exc d)) S').drop i else .exn d r' S' := by
  simp only [ex]; cases exs P cf mk b r S <;> rfl
theorem q_tryn2 (b : List Hf.S) (c : Nat) (h : List Hf.S) (c2 : Nat) (h2 : List Hf.S) (i : Nat) : ex P cf mk (.tryn2 b c h c2 h2 i) r S = (exs P cf mk b r S).catch fun d r' S' => if P.sub d c = true then (exs P cf mk h (r'.set i (.exc d)) S').drop i
      else if P.sub d c2 = true then (exs P cf mk h2 (r'.set i (.exc d)) S').drop i else .exn d r' S' := by
  simp only [ex]; cases exs P cf mk b r S <;> rfl
end
/-! ### targets -/
@[simp] theorem bindT_n (i : Nat) (x : T) (r : Env) : bindT (.n i) x r = some (r.set i (.val x)) := rfl
@[simp] theorem bindT_t (is : List Nat) (xs : List T) (r : Env) : bindT (.t is) (.tup xs) r = bindTs is xs r := rfl
@[simp] theorem bindTs_nil (r : Env) : bindTs [] [] r = some r := rfl
@[simp] theorem bindTs_cons (i : Nat) (is : List Nat) (x : T) (xs : List T) (r : Env) : bindTs (i :: is) (x :: xs) r = bindTs is xs (r.set i (.val x)) := rfl
@[simp] theorem slots_n (i : Nat) : (Tg.n i).slots = [i] := rfl
@[simp] theorem slots_t (is : List Nat) : (Tg.t is).slots = is := rfl
@[simp] theorem wipe_nil (r : Env) : wipeE r [] = r := rfl
@[simp] theorem wipe_cons (r : Env) (i : Nat) (is : List Nat) : wipeE r (i :: is) = (wipeE r is).set i .no := rfl
/-! ### operations on what is known -/
@[simp] theorem o_eq (a b : T) : Cmp.ev .eq a b = T.eqs a b := by cases a <;> cases b <;> rfl
@[simp] theorem o_ne (a b : T) : Cmp.ev .ne a b = (T.eqs a b).map (!·) := by cases a <;> cases b <;> rfl
@[simp] theorem o_in (a b : T) : Cmp.ev .isin a b = T.isin a b := by cases a <;> cases b <;> rfl
@[simp] theorem o_notin (a b : T) : Cmp.ev .notin a b = (T.isin a b).map (!·) := by cases a <;> cases b <;> rfl
@[simp] theorem o_lt (a b : Int) : Cmp.ev .lt (.int a) (.int b) = some (decide (a < b)) := rfl
@[simp] theorem o_le (a b : Int) : Cmp.ev .le (.int a) (.int b) = some (decide (a ≤ b)) := rfl
@[simp] theorem o_gt (a b : Int) : Cmp.ev .gt (.int a) (.int b) = some (decide (b < a)) := rfl
@[simp] theorem o_ge (a b : Int) : Cmp.ev .ge (.int a) (.int b) = some (decide (b ≤ a)) := rfl
@[simp] theorem eqs_str (x y : List Nat) : T.eqs (.str x) (.str y) = some (decide (x = y)) := by
  simp only [T.eqs, T.data, T.depth, eqLine, T.eqv]
  by_cases h : x = y <;> simp [h]
@[simp] theorem eqs_int (x y : Int) : T.eqs (.int x) (.int y) = some (decide (x = y)) := by
  simp only [T.eqs, T.data, T.depth, eqLine, T.eqv]
  by_cases h : x = y <;> simp [h]
@[simp] theorem eqs_bl (x y : Bool) : T.eqs (.bl x) (.bl y) = some (decide (x = y)) := by
  simp only [T.eqs, T.data, T.depth, eqLine, T.eqv]
  by_cases h : x = y <;> simp [h]
@[simp] theorem eqs_ns (y : List Nat) : T.eqs .non (.str y) = some false := by simp [T.eqs, T.data, T.depth, eqLine, T.eqv]
@[simp] theorem eqs_sn (y : List Nat) : T.eqs (.str y) .non = some false := by simp [T.eqs, T.data, T.depth, eqLine, T.eqv]
theorem eqs_of {a b : T} (ha : a.data = true) (hb : b.data = true) (h : a.depth ≤ 60 ∨ b.depth ≤ 60) : T.eqs a b = some (T.eqv a b) := by
  have : min a.depth b.depth ≤ 60 := by omega
  simp [T.eqs, ha, hb, eqLine, this]
@[simp] theorem isin_tup (x : T) (xs : List T) : T.isin x (.tup xs) = inItems x xs := by cases x <;> rfl
@[simp] theorem isin_lst (x : T) (xs : List T) : T.isin x (.lst xs) = inItems x xs := by cases x <;> rfl
@[simp] theorem isin_dic (x : List Nat) (kvs : List (T × T)) : T.isin (.str x) (.dic kvs) = some (dlook kvs x).isSome := rfl
@[simp] theorem isin_chr (c : Nat) (t : List Nat) : T.isin (.str [c]) (.str t) = some (t.contains c) := rfl
@[simp] theorem add_int (a b : Int) : Op2.ev .add (.int a) (.int b) = some (.int (a + b)) := rfl
@[simp] theorem sub_int (a b : Int) : Op2.ev .sub (.int a) (.int b) = some (.int (a - b)) := rfl
@[simp] theorem isK_non : T.isK .non .non = some true := rfl
@[simp] theorem isK_str (s : List Nat) : T.isK (.str s) .non = some false := rfl
@[simp] theorem isK_int (s : Int) : T.isK (.int s) .non = some false := rfl
@[simp] theorem isK_tup (s : List T) : T.isK (.tup s) .non = some false := rfl
@[simp] theorem isK_lst (s : List T) : T.isK (.lst s) .non = some false := rfl
@[simp] theorem isK_bl (s : Bool) : T.isK (.bl s) .non = some false := rfl
@[simp] theorem isK_bb (s b : Bool) : T.isK (.bl s) (.bl b) = some (b == s) := rfl
@[simp] theorem len_str (s : List Nat) : Bi.ev .len [.str s] = some (.int s.length) := rfl
@[simp] theorem len_tup (s : List T) : Bi.ev .len [.tup s] = some (.int s.length) := rfl
@[simp] theorem len_lst (s : List T) : Bi.ev .len [.lst s] = some (.int s.length) := rfl
@[simp] theorem bint_int (i : Int) : Bi.ev .int [.int i] = some (.int i) := rfl
@[simp] theorem abs_int (i : Int) : Bi.ev .abs [.int i] = some (.int (if i < 0 then -i else i)) := rfl
@[simp] theorem max2_int (i j : Int) : Bi.ev .max2 [.int i, .int j] = some (.int (if j > i then j else i)) := rfl
@[simp] theorem min2_int (i j : Int) : Bi.ev .min2 [.int i, .int j] = some (.int (if j < i then j else i)) := rfl
@[simp] theorem subI_tup (xs : List T) (i : Int) : (T.tup xs).subI (.int i) = atI xs i := rfl
@[simp] theorem subI_lst (xs : List T) (i : Int) : (T.lst xs).subI (.int i) = atI xs i := rfl
@[simp] theorem subI_dic (kvs : List (T × T)) (k : List Nat) : (T.dic kvs).subI (.str k) = dlook kvs k := rfl
theorem atI_nat {α : Type} (xs : List α) (i : Nat) : atI xs (i : Int) = xs[i]? := by
  unfold atI ixN
  by_cases h : i < xs.length
  · rw [if_pos (by omega), if_pos (by omega)]; simp
  · rw [if_pos (by omega), if_neg (by omega)]
    simp; omega
@[simp] theorem atI_0 {α : Type} (x : α) (xs : List α) : atI (x :: xs) 0 = some x := atI_nat (x :: xs) 0
@[simp] theorem atI_1 {α : Type} (x y : α) (xs : List α) : atI (x :: y :: xs) 1 = some y := atI_nat (x :: y :: xs) 1
@[simp] theorem atI_2 {α : Type} (x y z : α) (xs : List α) : atI (x :: y :: z :: xs) 2 = some z := atI_nat (x :: y :: z :: xs) 2
@[simp] theorem atI_3 {α : Type} (x y z u : α) (xs : List α) : atI (x :: y :: z :: u :: xs) 3 = some u := atI_nat (x :: y :: z :: u :: xs) 3
@[simp] theorem atI_4 {α : Type} (x y z u v : α) (xs : List α) : atI (x :: y :: z :: u :: v :: xs) 4 = some v := atI_nat (x :: y :: z :: u :: v :: xs) 4
@[simp] theorem atI_5 {α : Type} (x y z u v w : α) (xs : List α) : atI (x :: y :: z :: u :: v :: w :: xs) 5 = some w := atI_nat (x :: y :: z :: u :: v :: w :: xs) 5
theorem ixN_nat (n i : Nat) (h : i < n) : ixN n (i : Int) = some i := by
  unfold ixN
  rw [if_pos (by omega), if_pos (by omega)]; simp
/-! ### loops -/
theorem compLoop_map {g : Store → Bool} {f : T → Store → Res (Option T)} {S : Store} (hg : g S = true) (h : T → T) : ∀ {xs : List T}, (∀ x ∈ xs, f x S = .ok (some (h x)) S) → compLoop g f xs S = .ok (xs.map h) S
  | [], _ => rfl
  | x :: xs, hf => by
    have e := compLoop_map hg h (xs := xs) fun y hy => hf y (List.mem_cons_of_mem _ hy)
    simp [compLoop, hf x (List.mem_cons_self ..), hg, e]
theorem compLoop_filter {g : Store → Bool} {f : T → Store → Res (Option T)} {S : Store} (hg : g S = true) (p : T → Bool) (h : T → T) : ∀ {xs : List T}, (∀ x ∈ xs, f x S = .ok (if p x = true then some (h x) else none) S) → compLoop g f xs S = .ok ((xs.filter p).map h) S
  | [], _ => rfl
  | x :: xs, hf => by
    have e := compLoop_filter hg p h (xs := xs) fun y hy => hf y (List.mem_cons_of_mem _ hy)
    cases q : p x <;> simp [compLoop, hf x (List.mem_cons_self ..), hg, e, q]
/-- items told by an outer list -/
theorem compLoop_of {α : Type} {g : Store → Bool} {f : T → Store → Res (Option T)} {S : Store} (hg : g S = true) (t : α → T) (h : α → T) : ∀ {xs : List α}, (∀ x ∈ xs, f (t x) S = .ok (some (h x)) S) → compLoop g f (xs.map t) S = .ok (xs.map h) S
  | [], _ => rfl
  | x :: xs, hf => by
    have e := compLoop_of hg t h (xs := xs) fun y hy => hf y (List.mem_cons_of_mem _ hy)
    simp [compLoop, hf x (List.mem_cons_self ..), hg, e]
theorem compLoop_ofI {α : Type} {g : Store → Bool} {f : T → Store → Res (Option T)} {S : Store} (hg : g S = true) (t : α → T) (p : α → Bool) (h : α → T) : ∀ {xs : List α}, (∀ x ∈ xs, f (t x) S = .ok (if p x = true then some (h x) else none) S) → compLoop g f (xs.map t) S = .ok ((xs.filter p).map h) S
  | [], _ => rfl
  | x :: xs, hf => by
    have e := compLoop_ofI hg t p h (xs := xs) fun y hy => hf y (List.mem_cons_of_mem _ hy)
    cases q : p x <;> simp [compLoop, hf x (List.mem_cons_self ..), hg, e, q]
theorem boolsOf_map {α : Type} (p : α → Bool) : ∀ xs : List α, boolsOf (xs.map fun x => T.bl (p x)) = some (xs.map p)
  | [] => rfl
  | x :: xs => by simp [boolsOf, boolsOf_map p xs]
@[simp] theorem bi_all_map {α : Type} (p : α → Bool) (xs : List α) : Bi.ev .all [.lst (xs.map fun x => T.bl (p x))] = some (.bl (xs.all p)) := by
  simp [Bi.ev, boolsOf_map, List.all_map, Function.comp_def]
@[simp] theorem bi_any_map {α : Type} (p : α → Bool) (xs : List α) : Bi.ev .any [.lst (xs.map fun x => T.bl (p x))] = some (.bl (xs.any p)) := by
  simp [Bi.ev, boolsOf_map, List.any_map, Function.comp_def]
theorem dataAll_mem {xs : List T} (h : T.dataAll xs = true) : ∀ {x : T}, x ∈ xs → x.data = true := by
  induction xs with
  | nil => intro x hx; cases hx
  | cons y ys ih =>
    intro x hx
    simp only [T.dataAll, Bool.and_eq_true] at h
    rcases List.mem_cons.mp hx with rfl | hx
    · exact h.1
    · exact ih h.2 hx
theorem dataAll_of {xs : List T} (h : ∀ x ∈ xs, x.data = true) : T.dataAll xs = true := by
  induction xs with
  | nil => rfl
  | cons y ys ih => simp only [T.dataAll, Bool.and_eq_true]; exact ⟨h y (List.mem_cons_self ..), ih fun x hx => h x (List.mem_cons_of_mem _ hx)⟩
theorem depth_mem {xs : List T} {x : T} (h : x ∈ xs) : x.depth ≤ T.depthAll xs := by
  induction xs with
  | nil => cases h
  | cons y ys ih =>
    simp only [T.depthAll]
    rcases List.mem_cons.mp h with rfl | h
    · omega
    · have := ih h; omega
theorem depthAll_le {xs : List T} {n : Nat} (h : ∀ x ∈ xs, x.depth ≤ n) : T.depthAll xs ≤ n := by
  induction xs with
  | nil => simp [T.depthAll]
  | cons y ys ih =>
    simp only [T.depthAll]
    have := h y (List.mem_cons_self ..)
    have := ih fun x hx => h x (List.mem_cons_of_mem _ hx)
    omega
mutual
theorem eqv_refl : ∀ t : T, t.data = true → T.eqv t t = true
  | .non, _ => rfl
  | .bl b, _ => by simp [T.eqv]
  | .int i, _ => by simp [T.eqv]
  | .str s, _ => by simp [T.eqv]
  | .tup xs, h => by simp only [T.eqv]; exact eqvAll_refl xs (by simpa [T.data] using h)
  | .lst xs, h => by simp only [T.eqv]; exact eqvAll_refl xs (by simpa [T.data] using h)
  | .dic _, h => by simp [T.data] at h
  | .ref _, h => by simp [T.data] at h
  | .fn _, h => by simp [T.data] at h
  | .ins _ _, h => by simp [T.data] at h
theorem eqvAll_refl : ∀ xs : List T, T.dataAll xs = true → T.eqvAll xs xs = true
  | [], _ => rfl
  | x :: xs, h => by
    simp only [T.dataAll, Bool.and_eq_true] at h
    simp [T.eqvAll, eqv_refl x h.1, eqvAll_refl xs h.2]
end
theorem call_of {P : Prog} {n f : Nat} {xs : List T} {S : Store} {d : FDef} (h : P.defs f = some d) (hl : xs.length = d.np) : call P (n + 1) f xs S = (exs P (call P n) (make P n) d.body (startE d xs) S).fin := by
  simp only [call, h, runF, hl, if_true]
end Hf
namespace Hf
/-! ### enumerate -/
def enumB (p : Nat → T → Bool) : Nat → List T → List Bool
  | _, [] => []
  | k, x :: xs => p k x :: enumB p (k + 1) xs
theorem compLoop_enum {g : Store → Bool} {f : T → Store → Res (Option T)} {S : Store} (hg : g S = true) (p : Nat → T → Bool) : ∀ (xs : List T) (k : Nat), (∀ j x, xs[j]? = some x → f (.tup [.int ((k + j : Nat) : Int), x]) S = .ok (some (.bl (p (k + j) x))) S) → compLoop g f (enumL k xs) S = .ok ((enumB p k xs).map .bl) S
  | [], _, _ => rfl
  | x :: xs, k, hf => by
    have e := compLoop_enum hg p xs (k + 1) fun j y hy => by
      have := hf (j + 1) y (by simpa using hy)
      rw [show k + (j + 1) = k + 1 + j by omega] at this
      exact this
    have h0 := hf 0 x rfl
    simp only [Nat.add_zero] at h0
    simp [enumL, compLoop, h0, hg, e, enumB]
theorem enumB_all (p : Nat → T → Bool) : ∀ (xs : List T) (k : Nat), (enumB p k xs).all id = true ↔ ∀ j x, xs[j]? = some x → p (k + j) x = true
  | [], _ => by simp [enumB]
  | x :: xs, k => by
    have ih := enumB_all p xs (k + 1)
    simp only [enumB, List.all_cons, Bool.and_eq_true, id]
    rw [ih]
    constructor
    · intro ⟨h1, h2⟩ j y hy
      cases j with
      | zero => simp at hy; subst hy; exact h1
      | succ j => have := h2 j y (by simpa using hy); rwa [show k + 1 + j = k + (j + 1) by omega] at this
    · intro h
      refine ⟨h 0 x rfl, fun j y hy => ?_⟩
      have := h (j + 1) y (by simpa using hy)
      rwa [show k + (j + 1) = k + 1 + j by omega] at this
@[simp] theorem bi_all_bl (bs : List Bool) : Bi.ev .all [.lst (bs.map .bl)] = some (.bl (bs.all id)) := by
  have : boolsOf (bs.map .bl) = some bs := by
    induction bs with
    | nil => rfl
    | cons b bs ih => simp [boolsOf, ih]
  simp [Bi.ev, this]
theorem dlook_mem : ∀ {kvs : List (T × T)} {k : List Nat} {v : T}, dlook kvs k = some v → (.str k, v) ∈ kvs
  | [], _, _, h => by simp [dlook] at h
  | (a, b) :: r, k, v, h => by
    cases a <;> simp only [dlook] at h <;> try exact List.mem_cons_of_mem _ (dlook_mem h)
    split at h
    · rename_i e; subst e; cases h; exact List.mem_cons_self ..
    · exact List.mem_cons_of_mem _ (dlook_mem h)
end Hf
namespace Hf
@[simp] theorem eqv_str (x y : List Nat) : T.eqv (.str x) (.str y) = decide (x = y) := by
  simp only [T.eqv]
  by_cases h : x = y <;> simp [h]
@[simp] theorem eqv_int (x y : Int) : T.eqv (.int x) (.int y) = decide (x = y) := by
  simp only [T.eqv]
  by_cases h : x = y <;> simp [h]
@[simp] theorem eqv_ns (y : List Nat) : T.eqv .non (.str y) = false := rfl
@[simp] theorem eqv_sn (y : List Nat) : T.eqv (.str y) .non = false := rfl
@[simp] theorem eqv_nn : T.eqv .non .non = true := rfl
@[simp] theorem eqv_is (i : Int) (y : List Nat) : T.eqv (.int i) (.str y) = false := rfl
@[simp] theorem data_str (x : List Nat) : T.data (.str x) = true := rfl
@[simp] theorem data_int (x : Int) : T.data (.int x) = true := rfl
@[simp] theorem data_bl (x : Bool) : T.data (.bl x) = true := rfl
@[simp] theorem data_non : T.data .non = true := rfl
@[simp] theorem data_tup (x : List T) : T.data (.tup x) = T.dataAll x := by simp [T.data]
@[simp] theorem data_lst (x : List T) : T.data (.lst x) = T.dataAll x := by simp [T.data]
@[simp] theorem data_nil : T.dataAll [] = true := rfl
@[simp] theorem data_cons (x : T) (xs : List T) : T.dataAll (x :: xs) = (T.data x && T.dataAll xs) := by simp [T.dataAll]
@[simp] theorem depth_str (x : List Nat) : T.depth (.str x) = 0 := rfl
@[simp] theorem depth_int (x : Int) : T.depth (.int x) = 0 := rfl
@[simp] theorem depth_bl (x : Bool) : T.depth (.bl x) = 0 := rfl
@[simp] theorem depth_non : T.depth .non = 0 := rfl
@[simp] theorem depth_tup (x : List T) : T.depth (.tup x) = T.depthAll x + 1 := by simp [T.depth]
@[simp] theorem depth_lst (x : List T) : T.depth (.lst x) = T.depthAll x + 1 := by simp [T.depth]
@[simp] theorem depth_nil : T.depthAll [] = 0 := rfl
@[simp] theorem depth_cons (x : T) (xs : List T) : T.depthAll (x :: xs) = max x.depth (T.depthAll xs) := by simp [T.depthAll]
@[simp] theorem inItems_str (x : List Nat) (xs : List T) (h : T.dataAll xs = true) : inItems (.str x) xs = some (xs.any fun y => T.eqv y (.str x)) := by
  simp [inItems, h]
@[simp] theorem inItems_non (xs : List T) (h : T.dataAll xs = true) : inItems .non xs = some (xs.any fun y => T.eqv y .non) := by
  simp [inItems, h]
end Hf
namespace Hf
@[simp] theorem fork_same {α : Type} (b : Bool) (a : Res α) (u v : U a) : fork (.bl b) a a u v = a := by cases b <;> rfl
@[simp] theorem forkS_same (b : Bool) (a : SRes) (u v : U a) : forkS (.bl b) a a u v = a := by cases b <;> rfl
end Hf
end

section
set_option Elab.async false
set_option linter.all false
set_option maxRecDepth 100000
set_option maxHeartbeats 400000
/-! HfShow: the text of what is small: its length, its signs. -/
namespace Hf
open PySem
mutual
/-- a measure of what is shown -/
def blk : T → Nat
  | .str s => s.length
  | .tup xs => blks xs
  | .lst xs => blks xs
  | _ => 0
def blks : List T → Nat
  | [] => 0
  | x :: xs => blk x + 1 + blks xs
end
@[simp] theorem blk_str (s : List Nat) : blk (.str s) = s.length := by simp only [blk]
@[simp] theorem blk_tup (s : List T) : blk (.tup s) = blks s := by simp only [blk]
@[simp] theorem blk_lst (s : List T) : blk (.lst s) = blks s := by simp only [blk]
@[simp] theorem blk_int (s : Int) : blk (.int s) = 0 := by simp only [blk]
@[simp] theorem blk_bl (s : Bool) : blk (.bl s) = 0 := by simp only [blk]
@[simp] theorem blk_non : blk .non = 0 := by simp only [blk]
@[simp] theorem blks_nil : blks [] = 0 := by simp only [blks]
@[simp] theorem blks_cons (x : T) (xs : List T) : blks (x :: xs) = blk x + 1 + blks xs := by simp only [blks]
theorem blk_mem {xs : List T} {x : T} (h : x ∈ xs) : blk x + 1 ≤ blks xs := by
  induction xs with
  | nil => cases h
  | cons y ys ih =>
    simp only [blks_cons]
    rcases List.mem_cons.mp h with rfl | h
    · omega
    · have := ih h; omega
mutual
/-- small ints, texts of small letters -/
def fine : T → Bool
  | .non => true
  | .bl _ => true
  | .int i => decide (-1 ≤ i) && decide (i < 100)
  | .str s => s.all fun c => decide (97 ≤ c) && decide (c ≤ 122)
  | .tup xs => fines xs
  | .lst xs => fines xs
  | _ => false
def fines : List T → Bool
  | [] => true
  | x :: xs => fine x && fines xs
end
@[simp] theorem fine_str (s : List Nat) : fine (.str s) = s.all fun c => decide (97 ≤ c) && decide (c ≤ 122) := by simp only [fine]
@[simp] theorem fine_int (i : Int) : fine (.int i) = (decide (-1 ≤ i) && decide (i < 100)) := by simp only [fine]
@[simp] theorem fine_tup (s : List T) : fine (.tup s) = fines s := by simp only [fine]
@[simp] theorem fine_lst (s : List T) : fine (.lst s) = fines s := by simp only [fine]
@[simp] theorem fine_non : fine .non = true := by simp only [fine]
@[simp] theorem fine_bl (b : Bool) : fine (.bl b) = true := by simp only [fine]
@[simp] theorem fines_nil : fines [] = true := by simp only [fines]
@[simp] theorem fines_cons (x : T) (xs : List T) : fines (x :: xs) = (fine x && fines xs) := by simp only [fines]
mutual
theorem fine_data : ∀ t : T, fine t = true → t.data = true
  | .non, _ => rfl
  | .bl _, _ => rfl
  | .int _, _ => rfl
  | .str _, _ => rfl
  | .tup xs, h => by rw [data_tup]; exact fines_data xs (by simpa using h)
  | .lst xs, h => by rw [data_lst]; exact fines_data xs (by simpa using h)
  | .dic _, h => by simp [fine] at h
  | .ref _, h => by simp [fine] at h
  | .fn _, h => by simp [fine] at h
  | .ins _ _, h => by simp [fine] at h
theorem fines_data : ∀ xs : List T, fines xs = true → T.dataAll xs = true
  | [], _ => rfl
  | x :: xs, h => by
    simp only [fines_cons, Bool.and_eq_true] at h
    rw [data_cons, fine_data x h.1, fines_data xs h.2]; rfl
end
theorem fines_mem {xs : List T} (h : fines xs = true) {x : T} (hx : x ∈ xs) : fine x = true := by
  induction xs with
  | nil => cases hx
  | cons y ys ih =>
    simp only [fines_cons, Bool.and_eq_true] at h
    rcases List.mem_cons.mp hx with rfl | hx
    · exact h.1
    · exact ih h.2 hx
theorem fines_of {xs : List T} (h : ∀ x ∈ xs, fine x = true) : fines xs = true := by
  induction xs with
  | nil => rfl
  | cons y ys ih => simp only [fines_cons, Bool.and_eq_true]; exact ⟨h y (List.mem_cons_self ..), ih fun x hx => h x (List.mem_cons_of_mem _ hx)⟩
/-- signs that there are -/
def Asc (x : PySem.Str) : Prop := ∀ c ∈ x.cps.toList, c < 1114112
theorem Asc.append {a b : PySem.Str} (h : Asc a) (k : Asc b) : Asc (a ++ b) := by
  intro c hc
  rw [PySem.Str.cps_append, Array.toList_append, List.mem_append] at hc
  exact hc.elim (h c) (k c)
theorem char_lt (c : Char) : c.toNat < 1114112 := by
  have h := c.valid
  have ht : c.toNat = c.val.toNat := rfl
  rw [ht]
  simp only [UInt32.isValidChar, Nat.isValidChar] at h
  omega
theorem asc_string (s : String) : Asc (PySem.Str.ofString s) := by
  intro c hc
  rw [PySem.Str.ofString_eq_toList] at hc
  simp only [List.mem_map] at hc
  obtain ⟨d, _, rfl⟩ := hc
  exact char_lt d
theorem asc_textFrom : ∀ (ts : List PySem.Str) (k : Nat) (acc : PySem.Str), Asc acc → (∀ t ∈ ts, Asc t) → Asc (textFrom k acc ts)
  | [], _, _, h, _ => h
  | t :: ts, k, acc, h, ht => asc_textFrom ts (k + 1) _ ((h.append (asc_string _)).append (ht t (List.mem_cons_self ..))) fun u hu => ht u (List.mem_cons_of_mem _ hu)
theorem asc_join (sep : PySem.Str) (hs : Asc sep) : ∀ ts : List PySem.Str, (∀ t ∈ ts, Asc t) → Asc (PySem.Str.join sep ts)
  | [], _ => fun c hc => by simp [PySem.Str.join, PySem.Str.empty] at hc
  | [x], h => h x (List.mem_cons_self ..)
  | x :: y :: r, h => ((h x (List.mem_cons_self ..)).append hs).append (asc_join sep hs (y :: r) fun t ht => h t (List.mem_cons_of_mem _ ht))
theorem asc_reprChar (q c : Nat) (hc : c < 1114112) : ∀ d ∈ Builtin.Str.reprChar q c, d < 1114112 := by
  have hx : ∀ w, ∀ d ∈ (List.replicate (w - ((Nat.toDigits 16 c).map Char.toNat).length) 48 ++ (Nat.toDigits 16 c).map Char.toNat), d < 1114112 := by
    intro w d hd
    rw [List.mem_append] at hd
    rcases hd with hd | hd
    · rw [List.mem_replicate] at hd; omega
    · rw [List.mem_map] at hd
      obtain ⟨e, _, rfl⟩ := hd
      exact char_lt e
  intro d hd
  unfold Builtin.Str.reprChar at hd
  dsimp only at hd
  split at hd
  · simp at hd; omega
  · split at hd
    · simp at hd; omega
    · split at hd
      · simp at hd; omega
      · split at hd
        · simp at hd; omega
        · split at hd
          · simp at hd; omega
          · split at hd
            · rw [List.mem_append] at hd
              rcases hd with hd | hd
              · simp at hd; omega
              · exact hx _ d hd
            · split at hd
              · rw [List.mem_append] at hd
                rcases hd with hd | hd
                · simp at hd; omega
                · exact hx _ d hd
              · rw [List.mem_append] at hd
                rcases hd with hd | hd
                · simp at hd; omega
                · exact hx _ d hd
theorem asc_foldl (q : Nat) : ∀ (l : List Nat) (acc : Array Nat), (∀ c ∈ l, c < 1114112) → (∀ c ∈ acc.toList, c < 1114112) → ∀ c ∈ (l.foldl (fun out c => out ++ (Builtin.Str.reprChar q c).toArray) acc).toList, c < 1114112
  | [], acc, _, h => h
  | x :: l, acc, hl, h => by
    refine asc_foldl q l _ (fun c hc => hl c (List.mem_cons_of_mem _ hc)) fun c hc => ?_
    rw [Array.toList_append, List.mem_append] at hc
    rcases hc with hc | hc
    · exact h c hc
    · exact asc_reprChar q x (hl x (List.mem_cons_self ..)) c hc
theorem asc_repr (x : PySem.Str) (h : Asc x) : Asc (reprText x) := by
  have hq : reprQuote x < 1114112 := by unfold reprQuote; split <;> decide
  intro c hc
  unfold reprText at hc
  simp only [Array.toList_push, List.mem_append, List.mem_singleton] at hc
  rcases hc with hc | rfl
  · rw [← Array.foldl_toList] at hc
    exact asc_foldl _ _ _ h (by simp; exact hq) c hc
  · exact hq
mutual
theorem asc_show : ∀ t : T, fine t = true → Asc t.py.shown
  | .non, _ => asc_string _
  | .bl b, _ => by cases b <;> exact asc_string _
  | .int i, _ => asc_string _
  | .str s, h => by
    simp only [T.py, PyData.shown]
    refine asc_repr _ fun c hc => ?_
    have := List.all_eq_true.mp (by simpa only [fine_str] using h) c (by simpa using hc)
    simp at this
    omega
  | .tup xs, h => by
    simp only [T.py, PyData.shown]
    unfold tupleText
    refine ((asc_string _).append (asc_join _ (asc_string _) _ ?_)).append (asc_string _)
    exact asc_shows xs (by simpa using h)
  | .lst xs, h => by
    simp only [T.py, PyData.shown]
    unfold listText
    exact (asc_textFrom _ _ _ (asc_string _) (asc_shows xs (by simpa using h))).append (asc_string _)
  | .dic _, h => by simp [fine] at h
  | .ref _, h => by simp [fine] at h
  | .fn _, h => by simp [fine] at h
  | .ins _ _, h => by simp [fine] at h
theorem asc_shows : ∀ xs : List T, fines xs = true → ∀ t ∈ PyData.shownAll (T.pys xs), Asc t
  | [], _, t, ht => by simp [T.pys, PyData.shownAll] at ht
  | x :: xs, h, t, ht => by
    simp only [fines_cons, Bool.and_eq_true] at h
    simp only [T.pys, PyData.shownAll, List.mem_cons] at ht
    rcases ht with rfl | ht
    · exact asc_show x h.1
    · exact asc_shows xs h.2 t ht
end
theorem int_short : ∀ i : Int, -1 ≤ i → i < 100 → (PyData.shown (.int i)).length ≤ 8 ∧ i.natAbs.log2 < 1920 := by
  intro i h1 h2
  have : ∀ j : Fin 101, (PyData.shown (.int ((j.val : Int) - 1))).length ≤ 8 ∧ ((j.val : Int) - 1).natAbs.log2 < 1920 := by decide +kernel
  have := this ⟨(i + 1).toNat, by omega⟩
  have e : (((i + 1).toNat : Nat) : Int) - 1 = i := by omega
  simpa only [e] using this
mutual
theorem short_show : ∀ t : T, fine t = true → t.py.leavesShort 8 = true ∧ t.py.bulk = blk t ∧ t.py.showable = true
  | .non, _ => by simp [T.py, PyData.leavesShort, PyData.bulk, PyData.showable]
  | .bl b, _ => by simp [T.py, PyData.leavesShort, PyData.bulk, PyData.showable]
  | .int i, h => by
    simp only [fine_int, Bool.and_eq_true, decide_eq_true_eq] at h
    have := int_short i h.1 h.2
    simp [T.py, PyData.leavesShort, PyData.bulk, PyData.showable, this]
  | .str s, h => by
    refine ⟨?_, by simp [T.py, PyData.bulk], by simp [T.py, PyData.showable]⟩
    simp only [T.py, PyData.leavesShort, List.all_eq_true]
    intro c hc
    have := List.all_eq_true.mp (by simpa only [fine_str] using h) c (by simpa using hc)
    simp at this
    simp; omega
  | .tup xs, h => by
    obtain ⟨h1, h2, h3⟩ := short_shows xs (by simpa using h)
    simp [T.py, PyData.leavesShort, PyData.bulk, PyData.showable, h1, h2, h3]
  | .lst xs, h => by
    obtain ⟨h1, h2, h3⟩ := short_shows xs (by simpa using h)
    simp [T.py, PyData.leavesShort, PyData.bulk, PyData.showable, h1, h2, h3]
  | .dic _, h => by simp [fine] at h
  | .ref _, h => by simp [fine] at h
  | .fn _, h => by simp [fine] at h
  | .ins _ _, h => by simp [fine] at h
theorem short_shows : ∀ xs : List T, fines xs = true → PyData.leavesShortAll 8 (T.pys xs) = true ∧ PyData.bulkAll (T.pys xs) = blks xs ∧ PyData.showableAll (T.pys xs) = true
  | [], _ => by simp [T.pys, PyData.leavesShortAll, PyData.bulkAll, PyData.showableAll]
  | x :: xs, h => by
    simp only [fines_cons, Bool.and_eq_true] at h
    obtain ⟨h1, h2, h3⟩ := short_shows xs h.2
    obtain ⟨k1, k2, k3⟩ := short_show x h.1
    simp [T.pys, PyData.leavesShortAll, PyData.bulkAll, PyData.showableAll, h1, h2, h3, k1, k2, k3]
end
/-- repr of what is small -/
theorem repr_fine {t : T} (hs : t.seq = true) (hf : fine t = true) (hd : t.depth ≤ 60) (hb : blk t ≤ 1600000) : Bi.ev .repr [t] = some (.str t.show) := by
  obtain ⟨h1, h2, h3⟩ := short_show t hf
  have l := PyData.shown_le_bulk 8 (by decide) t.py h1
  have a := asc_show t hf
  have e : t.show.length = t.py.shown.length := by simp [T.show, PySem.Str.length]
  have h4 : t.show.length ≤ sizeLim := by unfold sizeLim; rw [e]; omega
  have h5 : (t.show.all fun c => decide (c < 0x110000)) = true := by
    rw [List.all_eq_true]
    intro c hc
    have := a c hc
    simpa using this
  have : t.showable = true := by
    simp only [T.showable, Bool.and_eq_true, decide_eq_true_eq]
    exact ⟨⟨⟨⟨⟨hs, fine_data t hf⟩, h3⟩, hd⟩, h4⟩, h5⟩
  simp [Bi.ev, this]
end Hf
end

section
set_option Elab.async false
set_option linter.all false
set_option maxRecDepth 100000
set_option maxHeartbeats 200000
/-! HfLaw: what most laws have in common, for any program that holds it: drawing from a box, reading a value back. -/
namespace Hf
theorem mod_int (i j : Int) (h : 0 < j) : Op2.ev .mod (.int i) (.int j) = some (.int (i % j)) := by simp [Op2.ev, h]
theorem fdiv_int (i j : Int) (h : 0 < j) (h2 : j < 1073741824) : Op2.ev .fdiv (.int i) (.int j) = some (.int (i / j)) := by simp [Op2.ev, h, h2]
theorem mul_int (i j : Int) (h : -(2 ^ 64) < j) (h2 : j < 2 ^ 64) : Op2.ev .mul (.int i) (.int j) = some (.int (i * j)) := by
  simp only [Op2.ev]
  rw [if_pos (Or.inl ⟨h, h2⟩)]
theorem mul_int' (i j : Int) (h : -(2 ^ 64) < i) (h2 : i < 2 ^ 64) : Op2.ev .mul (.int i) (.int j) = some (.int (i * j)) := by
  simp only [Op2.ev]
  rw [if_pos (Or.inr ⟨h, h2⟩)]
theorem forS_exn {g : Store → Bool} {f : T → Env → Store → SRes} {x : T} {l : List T} {r : Env} {S : Store} {c : Nat} {r' : Env} {S' : Store} (h : f x r S = .exn c r' S') : forLoop g f (x :: l) r S = .exn c r' S' := by simp [forLoop, h]
theorem forS_nx {g : Store → Bool} {f : T → Env → Store → SRes} {x : T} {l : List T} {r : Env} {S : Store} {r' : Env} {S' : Store} (h : f x r S = .nx r' S') (hg : g S' = true) : forLoop g f (x :: l) r S = forLoop g f l r' S' := by simp [forLoop, h, hg]
theorem forS_ret {g : Store → Bool} {f : T → Env → Store → SRes} {x : T} {l : List T} {r : Env} {S : Store} {c : T} {S' : Store} (h : f x r S = .ret c S') : forLoop g f (x :: l) r S = .ret c S' := by simp [forLoop, h]
/-- a for over a told list: what holds goes on -/
theorem forS_inv {α : Type} {g : Store → Bool} {f : T → Env → Store → SRes} (t : α → T) (I : Nat → Env → Store → Prop) (hg : ∀ S, g S = true) : ∀ (xs : List α) (k : Nat) (r : Env) (S : Store), (∀ (j : Nat) (x : α), xs[j]? = some x → ∀ r S, I (k + j) r S → ∃ r' S', f (t x) r S = .nx r' S' ∧ I (k + j + 1) r' S') → I k r S → ∃ r' S', forLoop g f (xs.map t) r S = .nx r' S' ∧ I (k + xs.length) r' S'
  | [], k, r, S, _, h => ⟨r, S, rfl, h⟩
  | x :: xs, k, r, S, hf, h => by
    obtain ⟨r1, S1, e, h1⟩ := hf 0 x rfl r S h
    obtain ⟨r2, S2, e2, h2⟩ := forS_inv t I hg xs (k + 1) r1 S1 (fun j y hy r S h => by
      have := hf (j + 1) y (by simpa using hy) r S (by rw [show k + (j + 1) = k + 1 + j by omega]; exact h)
      rw [show k + (j + 1) = k + 1 + j by omega] at this
      exact this) h1
    exact ⟨r2, S2, by rw [List.map_cons, forS_nx e (hg _), e2], by rw [show k + (x :: xs).length = k + 1 + xs.length by simp; omega]; exact h2⟩
def DRAW : FDef := ⟨2, 3, [
  .ife (.cmp .gt (.sub (.v 0) (.k (.int 0))) (.k (.int 0))) [.asg (.n 2) (.op .mod (.sub (.v 0) (.k (.int 0))) (.v 1)), .setc (.v 0) (.k (.int 0)) (.op .fdiv (.sub (.v 0) (.k (.int 0))) (.v 1)), .ret (.bi .int [(.v 2)])] [],
  .setc (.v 0) (.k (.int 1)) (.op .mod (.bi .int [(.op .add (.op .mul (.sub (.v 0) (.k (.int 1))) (.k (.int 48271))) (.k (.int 12345)))]) (.k (.int 2147483647))),
  .ret (.op .mod (.bi .int [(.op .fdiv (.sub (.v 0) (.k (.int 1))) (.k (.int 64)))]) (.v 1))]⟩
/-- a box of two numbers stands at n -/
def Box (S : Store) (n : Nat) : Prop := ∃ a b : Int, S[n]? = some (.lst [.int a, .int b])
/-- S' is S with other numbers in the box at n -/
def Drawn (n : Nat) (S S' : Store) : Prop := Box S' n ∧ S'.length = S.length ∧ ∀ i, i ≠ n → S'[i]? = S[i]?
theorem Drawn.trans {n : Nat} {A B C : Store} (h : Drawn n A B) (h' : Drawn n B C) : Drawn n A C := ⟨h'.1, h'.2.1.trans h.2.1, fun i hi => (h'.2.2 i hi).trans (h.2.2 i hi)⟩
theorem Drawn.refl {n : Nat} {A : Store} (h : Box A n) : Drawn n A A := ⟨h, rfl, fun _ _ => rfl⟩
theorem look_at {S : Store} {n : Nat} {xs : List T} (h : S[n]? = some (.lst xs)) : look S (.ref n) = .lst xs := by simp [look, h]
theorem setc_at {S : Store} {n : Nat} {xs : List T} {z : Int} {j : Nat} (h : S[n]? = some (.lst xs)) (e : ixN xs.length z = some j) (t : T) (r : Env) : setcS (.ref n) (.int z) t r S = .nx r (S.set n (.lst (xs.set j t))) := by simp [setcS, h, e]
theorem drawn_set {S : Store} {n : Nat} {a b : Int} (h : n < S.length) : Drawn n S (S.set n (.lst [.int a, .int b])) :=
  ⟨⟨a, b, by simp [h]⟩, by simp, fun i hi => by rw [List.getElem?_set_ne (by omega)]⟩
theorem draw_of {P : Prog} (hd : P.defs 12 = some DRAW) (m : Nat) (k : Int) (h : 0 < k) (h2 : k < 1073741824) {S : Store} {n : Nat} (hb : Box S n) : ∃ r S', (0 ≤ r ∧ r < k) ∧ call P (m + 1) 12 [.ref n, .int k] S = .ok (.int r) S' ∧ Drawn n S S' := by
  obtain ⟨a, b, hn⟩ := hb
  have hl : n < S.length := by
    rw [List.getElem?_eq_some_iff] at hn
    exact hn.1
  rw [call_of hd rfl]
  simp only [DRAW, startE]
  have lk := look_at hn
  by_cases ha : 0 < a
  · have s0 := fun t r => setc_at hn (z := 0) (j := 0) rfl t r
    refine ⟨a % k, _, ⟨Int.emod_nonneg _ (by omega), Int.emod_lt_of_pos _ h⟩, ?_, drawn_set (a := a / k) (b := b) hl⟩
    simp [lk, ha, mod_int _ _ h, fdiv_int _ _ h h2, s0]
  · have s1 := fun t r => setc_at hn (z := 1) (j := 1) rfl t r
    refine ⟨((b * 48271 + 12345) % 2147483647 / 64) % k, _, ⟨Int.emod_nonneg _ (by omega), Int.emod_lt_of_pos _ h⟩, ?_, drawn_set (a := a) (b := (b * 48271 + 12345) % 2147483647) hl⟩
    have lk2 : look (S.set n (.lst [.int a, .int ((b * 48271 + 12345) % 2147483647)])) (.ref n) = .lst [.int a, .int ((b * 48271 + 12345) % 2147483647)] := look_at (by simp [hl])
    simp [lk, ha, mod_int _ _ h, mul_int b 48271 (by decide) (by decide), mod_int _ 2147483647 (by decide), fdiv_int _ 64 (by decide) (by decide), s1, lk2]
def CELL : FDef := ⟨2, 2, [
  .ret (.ife (.cmp .lt (.v 1) (.bi .len [(.v 0)])) (.bi .int [(.sub (.v 0) (.v 1))]) (.k (.int 0)))]⟩
def STREAM : FDef := ⟨2, 2, [
  .ret (.cell (.disp [(.bi .abs [(.call 10 [(.v 0), (.v 1)])]), (.op .add (.op .mod (.bi .abs [(.call 10 [(.v 0), (.v 1)])]) (.k (.int 1000003))) (.k (.int 7)))]))]⟩
theorem cell_of {P : Prog} (hd : P.defs 10 = some CELL) (m : Nat) (ns : List Int) (k : Nat) (S : Store) : ∃ c : Int, call P (m + 1) 10 [.lst (ns.map .int), .int k] S = .ok (.int c) S := by
  rw [call_of hd rfl]
  by_cases h : k < ns.length
  · have h' : (k : Int) < ns.length := by omega
    exact ⟨ns[k], by simp [CELL, startE, h', atI_nat, h]⟩
  · have h' : ¬ (k : Int) < ns.length := by omega
    exact ⟨0, by simp [CELL, startE, h']⟩
theorem stream_of {P : Prog} (hd : P.defs 10 = some CELL) (hs : P.defs 11 = some STREAM) (m : Nat) (ns : List Int) (k : Nat) (S : Store) : ∃ S', call P (m + 2) 11 [.lst (ns.map .int), .int k] S = .ok (.ref S.length) S' ∧ Box S' S.length ∧ S'.length = S.length + 1 ∧ ∀ i, i < S.length → S'[i]? = S[i]? := by
  rw [call_of hs rfl]
  obtain ⟨c, ec⟩ := cell_of hd m ns k S
  refine ⟨S ++ [.lst [.int (if c < 0 then -c else c), .int ((if c < 0 then -c else c) % 1000003 + 7)]], ?_, ⟨_, _, by simp; exact ⟨rfl, rfl⟩⟩, by simp, fun i hi => List.getElem?_append_left hi⟩
  simp [STREAM, startE, ec, mod_int _ 1000003 (by decide), cellV]
theorem joined_chars (s : List Nat) : joined (s.map fun c => T.str [c]) = some s := by
  induction s with
  | nil => rfl
  | cons c s ih => simp [joined, ih]
def READ : FDef := ⟨1, 3, [
  .ife (.or (.isK false (.v 0) (.non)) (.or (.isK false (.v 0) (.bl true)) (.isK false (.v 0) (.bl false)))) [.ret (.v 0)] [],
  .ife (.isi (.v 0) .int) [.ret (.bi .int [(.v 0)])] [],
  .ife (.isi (.v 0) .str) [.ret (.join (.comp (.v 2) (.n 2) (.v 0)))] [],
  .ife (.isi (.v 0) .tup) [.ret (.tof (.comp (.call 9 [(.v 1)]) (.n 1) (.v 0)))] [],
  .ret (.ife (.isi (.v 0) .lst) (.comp (.call 9 [(.v 1)]) (.n 1) (.v 0)) (.k (.str [115, 111, 109, 101, 116, 104, 105, 110, 103, 32, 101, 108, 115, 101])))]⟩
theorem read_of {P : Prog} (hr : P.defs 9 = some READ) : ∀ (n : Nat) (t : T), t.data = true → t.depth < n → blk t ≤ 16777216 → ∀ S, call P n 9 [t] S = .ok t S
  | n + 1, t, h, hd, hb, S => by
    rw [call_of hr rfl]
    cases t <;> try (simp [T.data] at h; done)
    case non => simp [READ, startE]
    case bl b => cases b <;> simp [READ, startE]
    case int i => simp [READ, startE, Ty.ev, T.isK]
    case str s =>
      have e : compLoop (fun _ => true) (turn P (call P n) (make P n) [.val (.str s), .no, .no] (.v 2) (.n 2)) (s.map fun c => T.str [c]) S = .ok (s.map fun c => T.str [c]) S := by
        refine compLoop_of rfl _ _ fun c _ => ?_
        simp [turn]
      simp only [blk_str] at hb
      simp [READ, startE, Ty.ev, T.isK]
      rw [show (still (T.str s) (s.map fun c => T.str [c])) = fun _ => true from rfl, e]
      simp [joinV, joined_chars, sizeLim, hb]
    case tup xs =>
      have e : compLoop (fun _ => true) (turn P (call P n) (make P n) [.val (.tup xs), .no, .no] (.call 9 [(.v 1)]) (.n 1)) xs S = .ok xs S := by
        have := compLoop_map (g := fun _ => true) (f := turn P (call P n) (make P n) [.val (.tup xs), .no, .no] (.call 9 [(.v 1)]) (.n 1)) (S := S) rfl id (xs := xs) fun x hx => by
          simp only [data_tup, depth_tup, blk_tup] at h hd hb
          have i1 := read_of hr n x (dataAll_mem h hx) (by have := depth_mem hx; omega) (by have := blk_mem hx; omega) S
          simp [turn, i1]
        simpa using this
      simp [READ, startE, Ty.ev, T.isK]
      rw [show (still (T.tup xs) xs) = fun _ => true from rfl, e]
      simp
    case lst xs =>
      have e : compLoop (fun _ => true) (turn P (call P n) (make P n) [.val (.lst xs), .no, .no] (.call 9 [(.v 1)]) (.n 1)) xs S = .ok xs S := by
        have := compLoop_map (g := fun _ => true) (f := turn P (call P n) (make P n) [.val (.lst xs), .no, .no] (.call 9 [(.v 1)]) (.n 1)) (S := S) rfl id (xs := xs) fun x hx => by
          simp only [data_lst, depth_lst, blk_lst] at h hd hb
          have i1 := read_of hr n x (dataAll_mem h hx) (by have := depth_mem hx; omega) (by have := blk_mem hx; omega) S
          simp [turn, i1]
        simpa using this
      simp [READ, startE, Ty.ev, T.isK]
      rw [show (still (T.lst xs) xs) = fun _ => true from rfl, e]
      simp
end Hf
namespace Hf
/-- a comprehension whose turns change the store -/
theorem compS_inv {α : Type} {g : Store → Bool} {f : T → Store → Res (Option T)} (t : α → T) (I : Nat → Store → Prop) (Q : Nat → T → Prop) (hg : ∀ S, g S = true) : ∀ (xs : List α) (k : Nat) (S : Store), (∀ (j : Nat) (x : α), xs[j]? = some x → ∀ S, I (k + j) S → ∃ y S', f (t x) S = .ok (some y) S' ∧ Q (k + j) y ∧ I (k + j + 1) S') → I k S → ∃ ys S', compLoop g f (xs.map t) S = .ok ys S' ∧ ys.length = xs.length ∧ (∀ j y, ys[j]? = some y → Q (k + j) y) ∧ I (k + xs.length) S'
  | [], k, S, _, h => ⟨[], S, rfl, rfl, fun j y e => by simp at e, h⟩
  | x :: xs, k, S, hf, h => by
    obtain ⟨y, S1, e, q, h1⟩ := hf 0 x rfl S h
    obtain ⟨ys, S2, e2, l2, q2, h2⟩ := compS_inv t I Q hg xs (k + 1) S1 (fun j z hz S h => by
      have := hf (j + 1) z (by simpa using hz) S (by rw [show k + (j + 1) = k + 1 + j by omega]; exact h)
      rw [show k + (j + 1) = k + 1 + j by omega] at this
      exact this) h1
    refine ⟨y :: ys, S2, by simp [compLoop, e, hg, e2], by simp [l2], fun j z hz => ?_, by rw [show k + (x :: xs).length = k + 1 + xs.length by simp; omega]; exact h2⟩
    cases j with
    | zero => simp at hz; subst hz; exact q
    | succ j =>
      have := q2 j z (by simpa using hz)
      rwa [show k + 1 + j = k + (j + 1) by omega] at this
theorem exs_nx {P : Prog} {cf mk : Nat → List T → Store → Res T} {s : Hf.S} {l : List Hf.S} {r r' : Env} {S S' : Store} (h : ex P cf mk s r S = .nx r' S') : exs P cf mk (s :: l) r S = exs P cf mk l r' S' := by rw [q_cons, h, seq_nx]
theorem exs_ret {P : Prog} {cf mk : Nat → List T → Store → Res T} {s : Hf.S} {l : List Hf.S} {r : Env} {S S' : Store} {t : T} (h : ex P cf mk s r S = .ret t S') : exs P cf mk (s :: l) r S = .ret t S' := by rw [q_cons, h, seq_ret]
theorem exs_exn {P : Prog} {cf mk : Nat → List T → Store → Res T} {s : Hf.S} {l : List Hf.S} {r r' : Env} {S S' : Store} {c : Nat} (h : ex P cf mk s r S = .exn c r' S') : exs P cf mk (s :: l) r S = .exn c r' S' := by rw [q_cons, h]; rfl
/-- the store has grown, nothing old is changed -/
def Ext (S S' : Store) : Prop := S.length ≤ S'.length ∧ ∀ i, i < S.length → S'[i]? = S[i]?
theorem Ext.refl (S : Store) : Ext S S := ⟨Nat.le_refl _, fun _ _ => rfl⟩
theorem Ext.trans {A B C : Store} (h : Ext A B) (h' : Ext B C) : Ext A C := ⟨Nat.le_trans h.1 h'.1, fun i hi => (h'.2 i (Nat.lt_of_lt_of_le hi h.1)).trans (h.2 i hi)⟩
theorem Box.lt {S : Store} {n : Nat} (h : Box S n) : n < S.length := by
  obtain ⟨a, b, h⟩ := h
  exact (List.getElem?_eq_some_iff.mp h).1
theorem Box.ext {S S' : Store} {n : Nat} (h : Box S n) (e : Ext S S') : Box S' n := by
  have hl := h.lt
  obtain ⟨a, b, h⟩ := h
  exact ⟨a, b, (e.2 n hl).trans h⟩
theorem rangeL_nat (n : Nat) : rangeL 0 (n : Int) = (List.range n).map fun (k : Nat) => T.int (k : Int) := by simp [rangeL]
theorem range_get {n j x : Nat} (hx : (List.range n)[j]? = some x) : j < n ∧ x = j := by
  rw [List.getElem?_eq_some_iff] at hx
  obtain ⟨q, e⟩ := hx
  simp at q e
  exact ⟨q, e.symm⟩
theorem rng_nat {n : Nat} (h : n ≤ 16777216) : ((n : Int) ≤ 16777216) ∧ (-1152921504606846976 : Int) < n := by omega
end Hf
end

section
/-! The small syntax of a linked text, printed by tr.py. -/
namespace Hf
namespace P09
def c_MOST_STAGES : T := .int 6
def c_MOST_ARROWS : T := .int 24
def c_WORDS : T := .dic [(.str [109, 105, 100, 100, 108, 101], .fn 69), (.str [119, 101, 97, 107], .fn 64), (.str [99, 104, 97, 105, 110, 101, 100], .fn 65), (.str [115, 104, 105, 102, 116], .fn 66), (.str [99, 111, 110, 115, 116, 97, 110, 116], .fn 69), (.str [112, 114, 101, 109, 105, 115, 101], .fn 68), (.str [99, 104, 111, 105, 99, 101], .fn 70)]
/-- N: value least most -/
def d_is_between : FDef := ⟨3, 3, [
  .ret (.and (.isi (.v 0) .int) (.chain .le .le (.v 1) (.v 0) (.v 2)))]⟩
def Nd_is_between : List (List Nat) := [[118, 97, 108, 117, 101], [108, 101, 97, 115, 116], [109, 111, 115, 116]]
/-- N: value stages part -/
def d_is_arrow : FDef := ⟨2, 3, [
  .ret (.and (.isi (.v 0) .tup) (.and (.cmp .eq (.bi .len [(.v 0)]) (.k (.int 2))) (.bi .all [(.comp (.call 0 [(.v 2), (.k (.int 0)), (.op .sub (.v 1) (.k (.int 1)))]) (.n 2) (.v 0))])))]⟩
def Nd_is_arrow : List (List Nat) := [[118, 97, 108, 117, 101], [115, 116, 97, 103, 101, 115], [112, 97, 114, 116]]
/-- N: category stages arrows table row arrow stage -/
def d_has_shape : FDef := ⟨1, 7, [
  .ife (.or (.not (.isi (.v 0) .tup)) (.or (.cmp .ne (.bi .len [(.v 0)]) (.k (.int 3))) (.not (.call 0 [(.sub (.v 0) (.k (.int 0))), (.k (.int 1)), (.g [77, 79, 83, 84, 95, 83, 84, 65, 71, 69, 83] (c_MOST_STAGES))])))) [.ret (.k (.bl false))] [],
  .asg (.t [1, 2, 3]) (.v 0),
  .ife (.or (.not (.isi (.v 2) .tup)) (.not (.chain .le .le (.v 1) (.bi .len [(.v 2)]) (.g [77, 79, 83, 84, 95, 65, 82, 82, 79, 87, 83] (c_MOST_ARROWS))))) [.ret (.k (.bl false))] [],
  .ife (.not (.bi .all [(.comp (.call 1 [(.v 5), (.v 1)]) (.n 5) (.v 2))])) [.ret (.k (.bl false))] [],
  .ife (.not (.bi .all [(.comp (.cmp .eq (.sub (.v 2) (.v 6)) (.tup [(.v 6), (.v 6)])) (.n 6) (.rng (.v 1)))])) [.ret (.k (.bl false))] [],
  .ife (.or (.not (.isi (.v 3) .tup)) (.cmp .ne (.bi .len [(.v 3)]) (.bi .len [(.v 2)]))) [.ret (.k (.bl false))] [],
  .ret (.bi .all [(.comp (.and (.isi (.v 4) .tup) (.cmp .eq (.bi .len [(.v 4)]) (.bi .len [(.v 2)]))) (.n 4) (.v 3))])]⟩
def Nd_has_shape : List (List Nat) := [[99, 97, 116, 101, 103, 111, 114, 121], [115, 116, 97, 103, 101, 115], [97, 114, 114, 111, 119, 115], [116, 97, 98, 108, 101], [114, 111, 119], [97, 114, 114, 111, 119], [115, 116, 97, 103, 101]]
def d_has_composites_b1 : List S := [.asg (.n 8) (.sub (.sub (.v 3) (.v 4)) (.v 6)), .ife (.cmp .ne (.sub (.v 5) (.k (.int 1))) (.sub (.v 7) (.k (.int 0)))) [.ife (.not (.call 0 [(.v 8), (.neg (.k (.int 1))), (.neg (.k (.int 1)))])) [.ret (.k (.bl false))] []] [.ife (.or (.not (.call 0 [(.v 8), (.k (.int 0)), (.op .sub (.bi .len [(.v 2)]) (.k (.int 1)))])) (.cmp .ne (.sub (.v 2) (.v 8)) (.tup [(.sub (.v 5) (.k (.int 0))), (.sub (.v 7) (.k (.int 1)))]))) [.ret (.k (.bl false))] [.ife (.or (.and (.cmp .lt (.v 4) (.v 1)) (.cmp .ne (.v 8) (.v 6))) (.and (.cmp .lt (.v 6) (.v 1)) (.cmp .ne (.v 8) (.v 4)))) [.ret (.k (.bl false))] []]]]
def d_has_composites_b2 : List S := [.loop (.t [6, 7]) (.enum (.v 2)) d_has_composites_b1]
/-- N: category stages arrows table first one second other made -/
def d_has_composites : FDef := ⟨1, 9, [
  .asg (.t [1, 2, 3]) (.v 0),
  .loop (.t [4, 5]) (.enum (.v 2)) d_has_composites_b2,
  .ret (.k (.bl true))]⟩
def Nd_has_composites : List (List Nat) := [[99, 97, 116, 101, 103, 111, 114, 121], [115, 116, 97, 103, 101, 115], [97, 114, 114, 111, 119, 115], [116, 97, 98, 108, 101], [102, 105, 114, 115, 116], [111, 110, 101], [115, 101, 99, 111, 110, 100], [111, 116, 104, 101, 114], [109, 97, 100, 101]]
def d_is_joined_b1 : List S := [.ife (.cmp .ne (.meth 1 (.v 1) [(.meth 1 (.v 1) [(.v 2), (.v 3)]), (.v 4)]) (.meth 1 (.v 1) [(.v 2), (.meth 1 (.v 1) [(.v 3), (.v 4)])])) [.ret (.k (.bl false))] []]
def d_is_joined_b2 : List S := [.loop (.n 4) (.meth 0 (.v 1) [(.v 3)]) d_is_joined_b1]
def d_is_joined_b3 : List S := [.loop (.n 3) (.meth 0 (.v 1) [(.v 2)]) d_is_joined_b2]
/-- N: category frame first second third -/
def d_is_joined : FDef := ⟨1, 5, [
  .asg (.n 1) (.mk 0 [(.v 0)]),
  .loop (.n 2) (.rng (.bi .len [(.attr (.v 1) 0)])) d_is_joined_b3,
  .ret (.k (.bl true))]⟩
def Nd_is_joined : List (List Nat) := [[99, 97, 116, 101, 103, 111, 114, 121], [102, 114, 97, 109, 101], [102, 105, 114, 115, 116], [115, 101, 99, 111, 110, 100], [116, 104, 105, 114, 100]]
/-- N: category -/
def d_check_category : FDef := ⟨1, 1, [
  .ife (.or (.not (.call 2 [(.v 0)])) (.or (.not (.call 3 [(.v 0)])) (.not (.call 4 [(.v 0)])))) [.raise 1] []]⟩
def Nd_check_category : List (List Nat) := [[99, 97, 116, 101, 103, 111, 114, 121]]
/-- N: category -/
def d_read_frame : FDef := ⟨1, 1, [
  .ex (.call 5 [(.v 0)]),
  .ret (.mk 0 [(.v 0)])]⟩
def Nd_read_frame : List (List Nat) := [[99, 97, 116, 101, 103, 111, 114, 121]]
/-- N: category frame stage -/
def d_ends : FDef := ⟨1, 3, [
  .asg (.n 1) (.call 6 [(.v 0)]),
  .ret (.cell (.compI (.v 2) (.n 2) (.attr (.v 1) 1) (.meth 2 (.v 1) [(.v 2)])))]⟩
def Nd_ends : List (List Nat) := [[99, 97, 116, 101, 103, 111, 114, 121], [102, 114, 97, 109, 101], [115, 116, 97, 103, 101]]
/-- N: category frame stage -/
def d_lasts : FDef := ⟨1, 3, [
  .asg (.n 1) (.call 6 [(.v 0)]),
  .ret (.cell (.compI (.v 2) (.n 2) (.attr (.v 1) 1) (.meth 3 (.v 1) [(.v 2)])))]⟩
def Nd_lasts : List (List Nat) := [[99, 97, 116, 101, 103, 111, 114, 121], [102, 114, 97, 109, 101], [115, 116, 97, 103, 101]]
/-- N: right -/
def d_check_form : FDef := ⟨1, 1, [
  .ife (.not (.v 0)) [.raise 2] []]⟩
def Nd_check_form : List (List Nat) := [[114, 105, 103, 104, 116]]
/-- N: frame first second there after -/
def d_meet : FDef := ⟨3, 5, [
  .asg (.n 3) (.comp (.meth 1 (.v 0) [(.v 1), (.v 4)]) (.n 4) (.meth 0 (.v 0) [(.v 1)])),
  .ret (.bi .any [(.comp (.cmp .isin (.meth 1 (.v 0) [(.v 2), (.v 4)]) (.v 3)) (.n 4) (.meth 0 (.v 0) [(.v 2)]))])]⟩
def Nd_meet : List (List Nat) := [[102, 114, 97, 109, 101], [102, 105, 114, 115, 116], [115, 101, 99, 111, 110, 100], [116, 104, 101, 114, 101], [97, 102, 116, 101, 114]]
/-- N: frame first second after -/
def d_leads_on : FDef := ⟨3, 4, [
  .ret (.bi .any [(.comp (.cmp .eq (.meth 1 (.v 0) [(.v 1), (.v 3)]) (.v 2)) (.n 3) (.meth 0 (.v 0) [(.v 1)]))])]⟩
def Nd_leads_on : List (List Nat) := [[102, 114, 97, 109, 101], [102, 105, 114, 115, 116], [115, 101, 99, 111, 110, 100], [97, 102, 116, 101, 114]]
/-- N: frame stage holds first second -/
def d_all_pairs : FDef := ⟨3, 5, [
  .ret (.bi .all [(.comp2 (.callV (.v 2) [(.v 0), (.v 3), (.v 4)]) (.n 3) (.sub (.attr (.v 0) 3) (.v 1)) (.n 4) (.sub (.attr (.v 0) 3) (.v 1)))])]⟩
def Nd_all_pairs : List (List Nat) := [[102, 114, 97, 109, 101], [115, 116, 97, 103, 101], [104, 111, 108, 100, 115], [102, 105, 114, 115, 116], [115, 101, 99, 111, 110, 100]]
/-- N: frame first second -/
def d_chain : FDef := ⟨3, 3, [
  .ret (.or (.call 61 [(.v 0), (.v 1), (.v 2)]) (.call 61 [(.v 0), (.v 2), (.v 1)]))]⟩
def Nd_chain : List (List Nat) := [[102, 114, 97, 109, 101], [102, 105, 114, 115, 116], [115, 101, 99, 111, 110, 100]]
/-- N: frame stage -/
def d_is_weak : FDef := ⟨2, 2, [
  .ret (.call 62 [(.v 0), (.v 1), (.f [109, 101, 101, 116] 60)])]⟩
def Nd_is_weak : List (List Nat) := [[102, 114, 97, 109, 101], [115, 116, 97, 103, 101]]
/-- N: frame stage -/
def d_is_chained : FDef := ⟨2, 2, [
  .ret (.call 62 [(.v 0), (.v 1), (.f [99, 104, 97, 105, 110] 63)])]⟩
def Nd_is_chained : List (List Nat) := [[102, 114, 97, 109, 101], [115, 116, 97, 103, 101]]
/-- N: frame stage there last -/
def d_is_shifted : FDef := ⟨2, 4, [
  .ret (.bi .all [(.comp (.bi .any [(.comp (.meth 3 (.v 0) [(.v 3)]) (.n 3) (.meth 9 (.v 0) [(.v 2)]))]) (.n 2) (.meth 9 (.v 0) [(.v 1)]))])]⟩
def Nd_is_shifted : List (List Nat) := [[102, 114, 97, 109, 101], [115, 116, 97, 103, 101], [116, 104, 101, 114, 101], [108, 97, 115, 116]]
def d_comes_back_b1 : List S := [.ife (.and (.cmp .eq (.meth 5 (.v 0) [(.v 2)]) (.meth 4 (.v 0) [(.v 1)])) (.cmp .eq (.meth 1 (.v 0) [(.meth 1 (.v 0) [(.v 1), (.v 2)]), (.v 1)]) (.v 1))) [.ret (.k (.bl true))] []]
/-- N: frame arrow back -/
def d_comes_back : FDef := ⟨2, 3, [
  .loop (.n 2) (.meth 0 (.v 0) [(.v 1)]) d_comes_back_b1,
  .ret (.k (.bl false))]⟩
def Nd_comes_back : List (List Nat) := [[102, 114, 97, 109, 101], [97, 114, 114, 111, 119], [98, 97, 99, 107]]
/-- N: frame stage arrow -/
def d_has_premise : FDef := ⟨2, 3, [
  .ret (.and (.call 65 [(.v 0), (.v 1)]) (.bi .all [(.comp (.call 67 [(.v 0), (.v 2)]) (.n 2) (.sub (.attr (.v 0) 3) (.v 1)))]))]⟩
def Nd_has_premise : List (List Nat) := [[102, 114, 97, 109, 101], [115, 116, 97, 103, 101], [97, 114, 114, 111, 119]]
/-- N: frame stage -/
def d_is_end : FDef := ⟨2, 2, [
  .ret (.meth 2 (.v 0) [(.v 1)])]⟩
def Nd_is_end : List (List Nat) := [[102, 114, 97, 109, 101], [115, 116, 97, 103, 101]]
/-- N: frame stage -/
def d_is_last : FDef := ⟨2, 2, [
  .ret (.meth 3 (.v 0) [(.v 1)])]⟩
def Nd_is_last : List (List Nat) := [[102, 114, 97, 109, 101], [115, 116, 97, 103, 101]]
/-- N: category word frame stage -/
def d_stages_of : FDef := ⟨2, 4, [
  .asg (.n 2) (.call 6 [(.v 0)]),
  .ex (.call 43 [(.and (.isi (.v 1) .str) (.cmp .isin (.v 1) (.g [87, 79, 82, 68, 83] (c_WORDS))))]),
  .ret (.cell (.compI (.v 3) (.n 3) (.attr (.v 2) 1) (.callV (.sub (.g [87, 79, 82, 68, 83] (c_WORDS)) (.v 1)) [(.v 2), (.v 3)])))]⟩
def Nd_stages_of : List (List Nat) := [[99, 97, 116, 101, 103, 111, 114, 121], [119, 111, 114, 100], [102, 114, 97, 109, 101], [115, 116, 97, 103, 101]]
/-- N: category frame single ends stage -/
def d_chooses : FDef := ⟨1, 5, [
  .asg (.n 1) (.call 6 [(.v 0)]),
  .asg (.n 2) (.cmp .eq (.setlen (.v 3) (.n 3) (.attr (.v 1) 0)) (.bi .len [(.attr (.v 1) 0)])),
  .ret (.and (.v 2) (.bi .all [(.comp (.meth 3 (.v 1) [(.v 4)]) (.n 4) (.attr (.v 1) 1))]))]⟩
def Nd_chooses : List (List Nat) := [[99, 97, 116, 101, 103, 111, 114, 121], [102, 114, 97, 109, 101], [115, 105, 110, 103, 108, 101], [101, 110, 100, 115], [115, 116, 97, 103, 101]]
/-- N: told due -/
def d_l_yes : FDef := ⟨2, 2, [
  .ret (.and (.isi (.v 0) .bool) (.cmp .eq (.v 0) (.v 1)))]⟩
def Nd_l_yes : List (List Nat) := [[116, 111, 108, 100], [100, 117, 101]]
/-- N: script k -/
def d_l_cell : FDef := ⟨2, 2, [
  .ret (.ife (.cmp .lt (.v 1) (.bi .len [(.v 0)])) (.bi .int [(.sub (.v 0) (.v 1))]) (.k (.int 0)))]⟩
def Nd_l_cell : List (List Nat) := [[115, 99, 114, 105, 112, 116], [107]]
/-- N: script k -/
def d_l_stream : FDef := ⟨2, 2, [
  .ret (.cell (.disp [(.bi .abs [(.call 10 [(.v 0), (.v 1)])]), (.op .add (.op .mod (.bi .abs [(.call 10 [(.v 0), (.v 1)])]) (.k (.int 1000003))) (.k (.int 7)))]))]⟩
def Nd_l_stream : List (List Nat) := [[115, 99, 114, 105, 112, 116], [107]]
/-- N: box many told -/
def d_l_draw : FDef := ⟨2, 3, [
  .ife (.cmp .gt (.sub (.v 0) (.k (.int 0))) (.k (.int 0))) [.asg (.n 2) (.op .mod (.sub (.v 0) (.k (.int 0))) (.v 1)), .setc (.v 0) (.k (.int 0)) (.op .fdiv (.sub (.v 0) (.k (.int 0))) (.v 1)), .ret (.bi .int [(.v 2)])] [],
  .setc (.v 0) (.k (.int 1)) (.op .mod (.bi .int [(.op .add (.op .mul (.sub (.v 0) (.k (.int 1))) (.k (.int 48271))) (.k (.int 12345)))]) (.k (.int 2147483647))),
  .ret (.op .mod (.bi .int [(.op .fdiv (.sub (.v 0) (.k (.int 1))) (.k (.int 64)))]) (.v 1))]⟩
def Nd_l_draw : List (List Nat) := [[98, 111, 120], [109, 97, 110, 121], [116, 111, 108, 100]]
def d_l_ordered_b1 : List S := [.asg (.n 2) (.cat (.v 2) (.compI (.tup [(.v 3), (.v 8)]) (.n 8) (.sub (.v 0) (.v 3)) (.cmp .ne (.v 8) (.v 3))))]
def d_l_ordered_b2 : List S := [.push 6 (.ife (.cmp .eq (.sub (.v 5) (.k (.int 1))) (.sub (.v 7) (.k (.int 0)))) (.index (.v 2) (.tup [(.sub (.v 5) (.k (.int 0))), (.sub (.v 7) (.k (.int 1)))])) (.neg (.k (.int 1))))]
def d_l_ordered_b3 : List S := [.own 6 (.disp []), .loop (.n 7) (.v 2) d_l_ordered_b2, .push 4 (.tof (.v 6))]
/-- N: reach stages arrows i table f row g j -/
def d_l_ordered : FDef := ⟨1, 9, [
  .asg (.n 1) (.bi .len [(.v 0)]),
  .asg (.n 2) (.comp (.tup [(.v 3), (.v 3)]) (.n 3) (.rng (.v 1))),
  .loop (.n 3) (.rng (.v 1)) d_l_ordered_b1,
  .own 4 (.disp []),
  .loop (.n 5) (.v 2) d_l_ordered_b3,
  .ret (.tup [(.v 1), (.tof (.v 2)), (.tof (.v 4))])]⟩
def Nd_l_ordered : List (List Nat) := [[114, 101, 97, 99, 104], [115, 116, 97, 103, 101, 115], [97, 114, 114, 111, 119, 115], [105], [116, 97, 98, 108, 101], [102], [114, 111, 119], [103], [106]]
/-- N: pick arrows -/
def d_l_known : FDef := ⟨1, 2, [
  .ife (.cmp .eq (.v 0) (.k (.int 0))) [.ret (.tup [(.k (.int 1)), (.tup [(.tup [(.k (.int 0)), (.k (.int 0))]), (.tup [(.k (.int 0)), (.k (.int 0))])]), (.tup [(.tup [(.k (.int 0)), (.k (.int 1))]), (.tup [(.k (.int 1)), (.k (.int 1))])])])] [],
  .ife (.cmp .eq (.v 0) (.k (.int 1))) [.ret (.tup [(.k (.int 1)), (.tup [(.tup [(.k (.int 0)), (.k (.int 0))]), (.tup [(.k (.int 0)), (.k (.int 0))])]), (.tup [(.tup [(.k (.int 0)), (.k (.int 1))]), (.tup [(.k (.int 1)), (.k (.int 0))])])])] [],
  .ife (.cmp .eq (.v 0) (.k (.int 2))) [.ret (.tup [(.k (.int 1)), (.op .mul (.tup [(.tup [(.k (.int 0)), (.k (.int 0))])]) (.k (.int 3))), (.tup [(.tup [(.k (.int 0)), (.k (.int 1)), (.k (.int 2))]), (.tup [(.k (.int 1)), (.k (.int 2)), (.k (.int 0))]), (.tup [(.k (.int 2)), (.k (.int 0)), (.k (.int 1))])])])] [],
  .ife (.cmp .eq (.v 0) (.k (.int 3))) [.ret (.tup [(.k (.int 1)), (.op .mul (.tup [(.tup [(.k (.int 0)), (.k (.int 0))])]) (.k (.int 3))), (.tup [(.tup [(.k (.int 0)), (.k (.int 1)), (.k (.int 2))]), (.tup [(.k (.int 1)), (.k (.int 1)), (.k (.int 1))]), (.tup [(.k (.int 2)), (.k (.int 2)), (.k (.int 2))])])])] [],
  .ife (.cmp .eq (.v 0) (.k (.int 4))) [.ret (.tup [(.k (.int 1)), (.op .mul (.tup [(.tup [(.k (.int 0)), (.k (.int 0))])]) (.k (.int 3))), (.tup [(.tup [(.k (.int 0)), (.k (.int 1)), (.k (.int 2))]), (.tup [(.k (.int 1)), (.k (.int 1)), (.k (.int 2))]), (.tup [(.k (.int 2)), (.k (.int 1)), (.k (.int 2))])])])] [],
  .ife (.cmp .eq (.v 0) (.k (.int 5))) [.ret (.tup [(.k (.int 1)), (.op .mul (.tup [(.tup [(.k (.int 0)), (.k (.int 0))])]) (.k (.int 3))), (.tup [(.tup [(.k (.int 0)), (.k (.int 1)), (.k (.int 2))]), (.tup [(.k (.int 1)), (.k (.int 2)), (.k (.int 2))]), (.tup [(.k (.int 2)), (.k (.int 2)), (.k (.int 2))])])])] [],
  .ife (.cmp .eq (.v 0) (.k (.int 6))) [.ret (.tup [(.k (.int 2)), (.tup [(.tup [(.k (.int 0)), (.k (.int 0))]), (.tup [(.k (.int 1)), (.k (.int 1))]), (.tup [(.k (.int 0)), (.k (.int 1))]), (.tup [(.k (.int 0)), (.k (.int 1))])]), (.tup [(.tup [(.k (.int 0)), (.neg (.k (.int 1))), (.k (.int 2)), (.k (.int 3))]), (.tup [(.neg (.k (.int 1))), (.k (.int 1)), (.neg (.k (.int 1))), (.neg (.k (.int 1)))]), (.tup [(.neg (.k (.int 1))), (.k (.int 2)), (.neg (.k (.int 1))), (.neg (.k (.int 1)))]), (.tup [(.neg (.k (.int 1))), (.k (.int 3)), (.neg (.k (.int 1))), (.neg (.k (.int 1)))])])])] [],
  .ife (.cmp .eq (.v 0) (.k (.int 7))) [.asg (.n 1) (.tup [(.tup [(.k (.int 0)), (.k (.int 0))]), (.tup [(.k (.int 1)), (.k (.int 1))]), (.tup [(.k (.int 0)), (.k (.int 1))]), (.tup [(.k (.int 1)), (.k (.int 0))]), (.tup [(.k (.int 1)), (.k (.int 1))])]), .ret (.tup [(.k (.int 2)), (.v 1), (.tup [(.tup [(.k (.int 0)), (.neg (.k (.int 1))), (.k (.int 2)), (.neg (.k (.int 1))), (.neg (.k (.int 1)))]), (.tup [(.neg (.k (.int 1))), (.k (.int 1)), (.neg (.k (.int 1))), (.k (.int 3)), (.k (.int 4))]), (.tup [(.neg (.k (.int 1))), (.k (.int 2)), (.neg (.k (.int 1))), (.k (.int 0)), (.k (.int 2))]), (.tup [(.k (.int 3)), (.neg (.k (.int 1))), (.k (.int 4)), (.neg (.k (.int 1))), (.neg (.k (.int 1)))]), (.tup [(.neg (.k (.int 1))), (.k (.int 4)), (.neg (.k (.int 1))), (.k (.int 3)), (.k (.int 4))])])])] [],
  .ife (.cmp .eq (.v 0) (.k (.int 8))) [.ret (.tup [(.k (.int 2)), (.tup [(.tup [(.k (.int 0)), (.k (.int 0))]), (.tup [(.k (.int 1)), (.k (.int 1))]), (.tup [(.k (.int 1)), (.k (.int 1))]), (.tup [(.k (.int 0)), (.k (.int 1))])]), (.tup [(.tup [(.k (.int 0)), (.neg (.k (.int 1))), (.neg (.k (.int 1))), (.k (.int 3))]), (.tup [(.neg (.k (.int 1))), (.k (.int 1)), (.k (.int 2)), (.neg (.k (.int 1)))]), (.tup [(.neg (.k (.int 1))), (.k (.int 2)), (.k (.int 1)), (.neg (.k (.int 1)))]), (.tup [(.neg (.k (.int 1))), (.k (.int 3)), (.k (.int 3)), (.neg (.k (.int 1)))])])])] [],
  .asg (.n 1) (.tup [(.tup [(.k (.int 0)), (.k (.int 0))]), (.tup [(.k (.int 1)), (.k (.int 1))]), (.tup [(.k (.int 1)), (.k (.int 1))]), (.tup [(.k (.int 0)), (.k (.int 1))]), (.tup [(.k (.int 0)), (.k (.int 1))])]),
  .ret (.tup [(.k (.int 2)), (.v 1), (.tup [(.tup [(.k (.int 0)), (.neg (.k (.int 1))), (.neg (.k (.int 1))), (.k (.int 3)), (.k (.int 4))]), (.tup [(.neg (.k (.int 1))), (.k (.int 1)), (.k (.int 2)), (.neg (.k (.int 1))), (.neg (.k (.int 1)))]), (.tup [(.neg (.k (.int 1))), (.k (.int 2)), (.k (.int 1)), (.neg (.k (.int 1))), (.neg (.k (.int 1)))]), (.tup [(.neg (.k (.int 1))), (.k (.int 3)), (.k (.int 4)), (.neg (.k (.int 1))), (.neg (.k (.int 1)))]), (.tup [(.neg (.k (.int 1))), (.k (.int 4)), (.k (.int 3)), (.neg (.k (.int 1))), (.neg (.k (.int 1)))])])])]⟩
def Nd_l_known : List (List Nat) := [[112, 105, 99, 107], [97, 114, 114, 111, 119, 115]]
/-- N: cat i f -/
def d_l_out : FDef := ⟨2, 3, [
  .ret (.compI (.v 2) (.n 2) (.rng (.bi .len [(.sub (.v 0) (.k (.int 1)))])) (.cmp .eq (.sub (.sub (.sub (.v 0) (.k (.int 1))) (.v 2)) (.k (.int 0))) (.v 1)))]⟩
def Nd_l_out : List (List Nat) := [[99, 97, 116], [105], [102]]
/-- N: cat f -/
def d_l_end : FDef := ⟨2, 2, [
  .ret (.sub (.sub (.sub (.v 0) (.k (.int 1))) (.v 1)) (.k (.int 1)))]⟩
def Nd_l_end : List (List Nat) := [[99, 97, 116], [102]]
/-- N: cat f i j g -/
def d_l_undone : FDef := ⟨2, 5, [
  .asg (.t [2, 3]) (.sub (.sub (.v 0) (.k (.int 1))) (.v 1)),
  .ret (.cmp .gt (.bi .len [(.compI (.v 4) (.n 4) (.call 15 [(.v 0), (.v 3)]) (.and (.cmp .eq (.sub (.sub (.sub (.v 0) (.k (.int 1))) (.v 4)) (.k (.int 1))) (.v 2)) (.cmp .eq (.sub (.sub (.sub (.v 0) (.k (.int 2))) (.v 1)) (.v 4)) (.v 2))))]) (.k (.int 0)))]⟩
def Nd_l_undone : List (List Nat) := [[99, 97, 116], [102], [105], [106], [103]]
/-- N: cat f i j g -/
def d_l_inverse : FDef := ⟨2, 5, [
  .asg (.t [2, 3]) (.sub (.sub (.v 0) (.k (.int 1))) (.v 1)),
  .ret (.cmp .gt (.bi .len [(.compI (.v 4) (.n 4) (.call 15 [(.v 0), (.v 3)]) (.and (.cmp .eq (.sub (.sub (.sub (.v 0) (.k (.int 1))) (.v 4)) (.k (.int 1))) (.v 2)) (.and (.cmp .eq (.sub (.sub (.sub (.v 0) (.k (.int 2))) (.v 1)) (.v 4)) (.v 2)) (.cmp .eq (.sub (.sub (.sub (.v 0) (.k (.int 2))) (.v 4)) (.v 1)) (.v 3)))))]) (.k (.int 0)))]⟩
def Nd_l_inverse : List (List Nat) := [[99, 97, 116], [102], [105], [106], [103]]
/-- N: cat i f -/
def d_l_ends : FDef := ⟨1, 3, [
  .ret (.compI (.v 1) (.n 1) (.rng (.sub (.v 0) (.k (.int 0)))) (.bi .all [(.comp (.call 16 [(.v 0), (.v 2)]) (.n 2) (.call 15 [(.v 0), (.v 1)]))]))]⟩
def Nd_l_ends : List (List Nat) := [[99, 97, 116], [105], [102]]
/-- N: cat i f -/
def d_l_lasts : FDef := ⟨1, 3, [
  .ret (.compI (.v 1) (.n 1) (.rng (.sub (.v 0) (.k (.int 0)))) (.bi .all [(.comp (.call 17 [(.v 0), (.v 2)]) (.n 2) (.call 15 [(.v 0), (.v 1)]))]))]⟩
def Nd_l_lasts : List (List Nat) := [[99, 97, 116], [105], [102]]
/-- N: cat i f -/
def d_l_reached : FDef := ⟨2, 3, [
  .ret (.comp (.call 74 [(.v 0), (.v 2)]) (.n 2) (.call 15 [(.v 0), (.v 1)]))]⟩
def Nd_l_reached : List (List Nat) := [[99, 97, 116], [105], [102]]
def d_l_choices_b1 : List S := [.asg (.n 3) (.cat (.v 3) (.comp (.op .add (.v 4) (.tup [(.v 5)])) (.n 5) (.v 2)))]
def d_l_choices_b2 : List S := [.asg (.n 3) (.disp []), .loop (.n 4) (.v 1) d_l_choices_b1, .asg (.n 1) (.v 3)]
/-- N: lists rows items longer row item -/
def d_l_choices : FDef := ⟨1, 6, [
  .asg (.n 1) (.disp [(.tup [])]),
  .loop (.n 2) (.v 0) d_l_choices_b2,
  .ret (.v 1)]⟩
def Nd_l_choices : List (List Nat) := [[108, 105, 115, 116, 115], [114, 111, 119, 115], [105, 116, 101, 109, 115], [108, 111, 110, 103, 101, 114], [114, 111, 119], [105, 116, 101, 109]]
/-- N: told part sign -/
def d_l_read : FDef := ⟨1, 3, [
  .ife (.or (.isK false (.v 0) (.non)) (.or (.isK false (.v 0) (.bl true)) (.isK false (.v 0) (.bl false)))) [.ret (.v 0)] [],
  .ife (.isi (.v 0) .int) [.ret (.bi .int [(.v 0)])] [],
  .ife (.isi (.v 0) .str) [.ret (.join (.comp (.v 2) (.n 2) (.v 0)))] [],
  .ife (.isi (.v 0) .tup) [.ret (.tof (.comp (.call 9 [(.v 1)]) (.n 1) (.v 0)))] [],
  .ret (.ife (.isi (.v 0) .lst) (.comp (.call 9 [(.v 1)]) (.n 1) (.v 0)) (.k (.str [115, 111, 109, 101, 116, 104, 105, 110, 103, 32, 101, 108, 115, 101])))]⟩
def Nd_l_read : List (List Nat) := [[116, 111, 108, 100], [112, 97, 114, 116], [115, 105, 103, 110]]
def d_l_rising_b1 : List S := [.asg (.n 6) (.call 12 [(.v 0), (.op .sub (.v 1) (.k (.int 1)))]), .push 3 (.tup [(.v 6), (.op .add (.op .add (.v 6) (.k (.int 1))) (.call 12 [(.v 0), (.op .sub (.op .sub (.v 1) (.k (.int 1))) (.v 6))]))])]
def d_l_rising_b2 : List S := [.ife (.bi .any [(.comp (.and (.cmp .eq (.sub (.v 10) (.k (.int 1))) (.v 8)) (.cmp .isin (.sub (.v 10) (.k (.int 0))) (.v 7))) (.n 10) (.v 3))]) [.push 7 (.v 8)] []]
def d_l_rising_b3 : List S := [.own 7 (.disp [(.v 6)]), .loop (.n 8) (.rng2 (.op .add (.v 6) (.k (.int 1))) (.v 1)) d_l_rising_b2, .frz 7, .push 5 (.v 7)]
/-- N: box stages shape pairs turn reach i there j k pair -/
def d_l_rising : FDef := ⟨1, 11, [
  .asg (.n 1) (.op .add (.k (.int 3)) (.call 12 [(.v 0), (.k (.int 4))])),
  .asg (.n 2) (.call 12 [(.v 0), (.k (.int 3))]),
  .own 3 (.ife (.cmp .eq (.v 2) (.k (.int 0))) (.comp (.tup [(.v 9), (.op .add (.v 9) (.k (.int 1)))]) (.n 9) (.rng (.op .sub (.v 1) (.k (.int 1))))) (.disp [])),
  .ife (.cmp .eq (.v 2) (.k (.int 1))) [.own 3 (.comp (.tup [(.call 12 [(.v 0), (.v 9)]), (.v 9)]) (.n 9) (.rng2 (.k (.int 1)) (.v 1)))] [],
  .loop (.n 4) (.rng (.ife (.cmp .eq (.v 2) (.k (.int 0))) (.k (.int 0)) (.call 12 [(.v 0), (.k (.int 6))]))) d_l_rising_b1,
  .own 5 (.disp []),
  .loop (.n 6) (.rng (.v 1)) d_l_rising_b3,
  .frz 5,
  .ret (.call 13 [(.v 5)])]⟩
def Nd_l_rising : List (List Nat) := [[98, 111, 120], [115, 116, 97, 103, 101, 115], [115, 104, 97, 112, 101], [112, 97, 105, 114, 115], [116, 117, 114, 110], [114, 101, 97, 99, 104], [105], [116, 104, 101, 114, 101], [106], [107], [112, 97, 105, 114]]
def d_l_single_b1 : List S := [.push 2 (.tof (.comp (.ife (.v 1) (.op .mod (.bi .int [(.op .add (.v 3) (.v 4))]) (.v 0)) (.ife (.cmp .gt (.v 3) (.k (.int 0))) (.v 3) (.v 4))) (.n 4) (.rng (.v 0))))]
/-- N: many turned rows f g -/
def d_l_single : FDef := ⟨2, 5, [
  .own 2 (.disp []),
  .loop (.n 3) (.rng (.v 0)) d_l_single_b1,
  .ret (.tup [(.k (.int 1)), (.op .mul (.tup [(.tup [(.k (.int 0)), (.k (.int 0))])]) (.v 0)), (.tof (.v 2))])]⟩
def Nd_l_single : List (List Nat) := [[109, 97, 110, 121], [116, 117, 114, 110, 101, 100], [114, 111, 119, 115], [102], [103]]
def d_l_times_b1 : List S := [.asg (.n 2) (.cat (.v 2) (.comp (.tup [(.v 3), (.v 10)]) (.n 10) (.rng2 (.v 7) (.bi .len [(.v 8)]))))]
def d_l_times_b2 : List S := [.push 11 (.ife (.and (.cmp .eq (.v 3) (.v 12)) (.cmp .ge (.sub (.sub (.v 9) (.v 10)) (.v 13)) (.k (.int 0)))) (.index (.v 4) (.tup [(.v 3), (.sub (.sub (.v 9) (.v 10)) (.v 13))])) (.neg (.k (.int 1))))]
def d_l_times_b3 : List S := [.own 11 (.disp []), .loop (.t [12, 13]) (.v 4) d_l_times_b2, .push 5 (.tof (.v 11))]
/-- N: cat many more k rows told spots stages arrows table f row n g -/
def d_l_times : FDef := ⟨2, 14, [
  .asg (.t [7, 8, 9]) (.v 0),
  .asg (.n 2) (.disp []),
  .loop (.n 3) (.rng (.v 1)) d_l_times_b1,
  .asg (.n 4) (.cat (.comp (.tup [(.op .fdiv (.v 3) (.v 7)), (.op .mod (.v 3) (.v 7))]) (.n 3) (.rng (.op .mul (.v 7) (.v 1)))) (.v 2)),
  .own 5 (.disp []),
  .loop (.t [3, 10]) (.v 4) d_l_times_b3,
  .asg (.n 6) (.tof (.comp (.tup [(.op .add (.sub (.sub (.v 8) (.v 10)) (.k (.int 0))) (.op .mul (.v 7) (.v 3))), (.op .add (.sub (.sub (.v 8) (.v 10)) (.k (.int 1))) (.op .mul (.v 7) (.v 3)))]) (.t [3, 10]) (.v 4))),
  .ret (.tup [(.op .mul (.v 7) (.v 1)), (.v 6), (.tof (.v 5))])]⟩
def Nd_l_times : List (List Nat) := [[99, 97, 116], [109, 97, 110, 121], [109, 111, 114, 101], [107], [114, 111, 119, 115], [116, 111, 108, 100], [115, 112, 111, 116, 115], [115, 116, 97, 103, 101, 115], [97, 114, 114, 111, 119, 115], [116, 97, 98, 108, 101], [102], [114, 111, 119], [110], [103]]
def d_l_of_maps_b1 : List S := [.ife (.cmp .notin (.tup [(.v 3), (.v 6), (.v 9)]) (.v 2)) [.push 2 (.tup [(.v 3), (.v 6), (.v 9)])] []]
def d_l_of_maps_b2 : List S := [.loop (.n 9) (.call 76 [(.comp (.lrng (.sub (.v 0) (.v 6))) (.n 11) (.rng (.sub (.v 0) (.v 3))))]) d_l_of_maps_b1]
def d_l_of_maps_b3 : List S := [.loop (.n 6) (.rng (.v 1)) d_l_of_maps_b2]
def d_l_of_maps_b4 : List S := [.asg (.n 10) (.neg (.k (.int 1))), .ife (.cmp .eq (.sub (.v 5) (.k (.int 1))) (.sub (.v 8) (.k (.int 0)))) [.asg (.n 10) (.index (.v 2) (.tup [(.sub (.v 5) (.k (.int 0))), (.sub (.v 8) (.k (.int 1))), (.tof (.comp (.sub (.sub (.v 8) (.k (.int 2))) (.v 11)) (.n 11) (.sub (.v 5) (.k (.int 2)))))]))] [], .push 7 (.v 10)]
def d_l_of_maps_b5 : List S := [.own 7 (.disp []), .frz 2, .loop (.n 8) (.v 2) d_l_of_maps_b4, .push 4 (.tof (.v 7))]
/-- N: sizes stages rows i table first j line second row made a -/
def d_l_of_maps : FDef := ⟨1, 12, [
  .asg (.n 1) (.bi .len [(.v 0)]),
  .own 2 (.comp (.tup [(.v 3), (.v 3), (.trng (.sub (.v 0) (.v 3)))]) (.n 3) (.rng (.v 1))),
  .loop (.n 3) (.rng (.v 1)) d_l_of_maps_b3,
  .own 4 (.disp []),
  .frz 2,
  .loop (.n 5) (.v 2) d_l_of_maps_b5,
  .ret (.tup [(.v 1), (.tof (.comp (.tup [(.sub (.v 9) (.k (.int 0))), (.sub (.v 9) (.k (.int 1)))]) (.n 9) (.v 2))), (.tof (.v 4))])]⟩
def Nd_l_of_maps : List (List Nat) := [[115, 105, 122, 101, 115], [115, 116, 97, 103, 101, 115], [114, 111, 119, 115], [105], [116, 97, 98, 108, 101], [102, 105, 114, 115, 116], [106], [108, 105, 110, 101], [115, 101, 99, 111, 110, 100], [114, 111, 119], [109, 97, 100, 101], [97]]
/-- N: box pick cat many -/
def d_l_full : FDef := ⟨1, 4, [
  .asg (.n 1) (.call 12 [(.v 0), (.k (.int 7))]),
  .ife (.cmp .lt (.v 1) (.k (.int 2))) [.ret (.call 77 [(.v 0)])] [],
  .ife (.cmp .eq (.v 1) (.k (.int 6))) [.ret (.call 80 [(.sub (.disp [(.disp [(.k (.int 1)), (.k (.int 2))]), (.disp [(.k (.int 2))]), (.disp [(.k (.int 2)), (.k (.int 1))]), (.disp [(.k (.int 1)), (.k (.int 1)), (.k (.int 2))])]) (.call 12 [(.v 0), (.k (.int 4))]))])] [],
  .ife (.cmp .eq (.v 1) (.k (.int 2))) [.asg (.n 3) (.op .add (.k (.int 3)) (.call 12 [(.v 0), (.k (.int 2))])), .ret (.call 13 [(.rep (.disp [(.lrng (.v 3))]) (.v 3))])] [],
  .ife (.cmp .eq (.v 1) (.k (.int 3))) [.ret (.call 78 [(.sub (.disp [(.k (.int 24)), (.k (.int 23)), (.k (.int 12)), (.k (.int 6)), (.k (.int 8))]) (.call 12 [(.v 0), (.k (.int 5))])), (.k (.bl true))])] [],
  .ife (.cmp .eq (.v 1) (.k (.int 4))) [.ret (.call 78 [(.op .add (.k (.int 12)) (.call 12 [(.v 0), (.k (.int 13))])), (.k (.bl false))])] [],
  .asg (.n 2) (.call 14 [(.call 12 [(.v 0), (.k (.int 10))])]),
  .ret (.call 79 [(.v 2), (.bi .min2 [(.op .fdiv (.k (.int 6)) (.sub (.v 2) (.k (.int 0)))), (.op .fdiv (.k (.int 24)) (.bi .len [(.sub (.v 2) (.k (.int 1)))]))])])]⟩
def Nd_l_full : List (List Nat) := [[98, 111, 120], [112, 105, 99, 107], [99, 97, 116], [109, 97, 110, 121]]
def d_l_beside_b1 : List S := [.ife (.cmp .ge (.sub (.sub (.sub (.v 7) (.k (.int 2))) (.v 9)) (.v 12)) (.k (.int 0))) [.setc (.sub (.v 6) (.sub (.v 8) (.v 9))) (.sub (.v 8) (.v 12)) (.sub (.v 8) (.sub (.sub (.sub (.v 7) (.k (.int 2))) (.v 9)) (.v 12)))] []]
def d_l_beside_b2 : List S := [.loop (.n 12) (.rng (.bi .len [(.sub (.v 7) (.k (.int 1)))])) d_l_beside_b1]
def d_l_beside_b3 : List S := [.loop (.n 9) (.rng (.bi .len [(.sub (.v 7) (.k (.int 1)))])) d_l_beside_b2]
/-- N: one two stages first second arrows table part spots f k row g i j -/
def d_l_beside : FDef := ⟨2, 15, [
  .ife (.or (.cmp .gt (.op .add (.sub (.v 0) (.k (.int 0))) (.sub (.v 1) (.k (.int 0)))) (.k (.int 6))) (.cmp .gt (.op .add (.bi .len [(.sub (.v 0) (.k (.int 1)))]) (.bi .len [(.sub (.v 1) (.k (.int 1)))])) (.k (.int 24)))) [.ret (.v 0)] [],
  .asg (.n 2) (.op .add (.sub (.v 0) (.k (.int 0))) (.sub (.v 1) (.k (.int 0)))),
  .asg (.n 3) (.comp (.ife (.cmp .lt (.v 10) (.sub (.v 0) (.k (.int 0)))) (.v 10) (.op .sub (.op .add (.v 2) (.v 10)) (.sub (.v 0) (.k (.int 0))))) (.n 10) (.rng (.bi .len [(.sub (.v 0) (.k (.int 1)))]))),
  .asg (.n 4) (.comp (.ife (.cmp .lt (.v 10) (.sub (.v 1) (.k (.int 0)))) (.op .add (.sub (.v 0) (.k (.int 0))) (.v 10)) (.op .sub (.op .add (.op .sub (.op .add (.v 2) (.bi .len [(.sub (.v 0) (.k (.int 1)))])) (.sub (.v 0) (.k (.int 0)))) (.v 10)) (.sub (.v 1) (.k (.int 0))))) (.n 10) (.rng (.bi .len [(.sub (.v 1) (.k (.int 1)))]))),
  .asg (.n 5) (.cat (.comp (.tup [(.v 13), (.v 13)]) (.n 13) (.rng (.v 2))) (.lof (.sliceL (.sub (.v 0) (.k (.int 1))) (.sub (.v 0) (.k (.int 0)))))),
  .asg (.n 5) (.cat (.v 5) (.comp (.tup [(.op .add (.sub (.v 0) (.k (.int 0))) (.v 13)), (.op .add (.sub (.v 0) (.k (.int 0))) (.v 14))]) (.t [13, 14]) (.sliceL (.sub (.v 1) (.k (.int 1))) (.sub (.v 1) (.k (.int 0)))))),
  .asg (.n 6) (.comp (.cell (.rep (.disp [(.neg (.k (.int 1)))]) (.bi .len [(.v 5)]))) (.n 11) (.v 5)),
  .loop (.t [7, 8]) (.disp [(.tup [(.v 0), (.v 3)]), (.tup [(.v 1), (.v 4)])]) d_l_beside_b3,
  .ret (.tup [(.v 2), (.tof (.v 5)), (.tof (.comp (.tof (.v 11)) (.n 11) (.v 6)))])]⟩
def Nd_l_beside : List (List Nat) := [[111, 110, 101], [116, 119, 111], [115, 116, 97, 103, 101, 115], [102, 105, 114, 115, 116], [115, 101, 99, 111, 110, 100], [97, 114, 114, 111, 119, 115], [116, 97, 98, 108, 101], [112, 97, 114, 116], [115, 112, 111, 116, 115], [102], [107], [114, 111, 119], [103], [105], [106]]
/-- N: cat f g firsts u v -/
def d_l_meet : FDef := ⟨3, 6, [
  .asg (.n 3) (.comp (.sub (.sub (.sub (.v 0) (.k (.int 2))) (.v 1)) (.v 4)) (.n 4) (.call 15 [(.v 0), (.call 74 [(.v 0), (.v 1)])])),
  .ret (.bi .any [(.comp (.cmp .isin (.sub (.sub (.sub (.v 0) (.k (.int 2))) (.v 2)) (.v 5)) (.v 3)) (.n 5) (.call 15 [(.v 0), (.call 74 [(.v 0), (.v 2)])]))])]⟩
def Nd_l_meet : List (List Nat) := [[99, 97, 116], [102], [103], [102, 105, 114, 115, 116, 115], [117], [118]]
/-- N: cat f g u -/
def d_l_leads : FDef := ⟨3, 4, [
  .ret (.cmp .isin (.v 2) (.comp (.sub (.sub (.sub (.v 0) (.k (.int 2))) (.v 1)) (.v 3)) (.n 3) (.call 15 [(.v 0), (.call 74 [(.v 0), (.v 1)])])))]⟩
def Nd_l_leads : List (List Nat) := [[99, 97, 116], [102], [103], [117]]
def d_l_comes_back_b1 : List S := [.ife (.and (.cmp .eq (.call 74 [(.v 0), (.v 2)]) (.sub (.sub (.sub (.v 0) (.k (.int 1))) (.v 1)) (.k (.int 0)))) (.cmp .eq (.sub (.sub (.sub (.v 0) (.k (.int 2))) (.sub (.sub (.sub (.v 0) (.k (.int 2))) (.v 1)) (.v 2))) (.v 1)) (.v 1))) [.ret (.k (.bl true))] []]
/-- N: cat f b -/
def d_l_comes_back : FDef := ⟨2, 3, [
  .loop (.n 2) (.call 15 [(.v 0), (.call 74 [(.v 0), (.v 1)])]) d_l_comes_back_b1,
  .ret (.k (.bl false))]⟩
def Nd_l_comes_back : List (List Nat) := [[99, 97, 116], [102], [98]]
def d_l_at_b1 : List S := [.asg (.n 4) (.cat (.v 4) (.comp (.tup [(.v 5), (.v 9)]) (.n 9) (.v 3)))]
/-- N: cat word i out pairs f chained lasting pair g j -/
def d_l_at : FDef := ⟨3, 11, [
  .asg (.n 3) (.call 15 [(.v 0), (.v 2)]),
  .asg (.n 4) (.disp []),
  .loop (.n 5) (.v 3) d_l_at_b1,
  .ife (.cmp .isin (.v 1) (.tup [(.k (.str [109, 105, 100, 100, 108, 101])), (.k (.str [99, 111, 110, 115, 116, 97, 110, 116]))])) [.ret (.bi .all [(.comp (.call 16 [(.v 0), (.v 5)]) (.n 5) (.v 3))])] [],
  .ife (.cmp .eq (.v 1) (.k (.str [99, 104, 111, 105, 99, 101]))) [.ret (.bi .all [(.comp (.call 17 [(.v 0), (.v 5)]) (.n 5) (.v 3))])] [],
  .ife (.cmp .eq (.v 1) (.k (.str [119, 101, 97, 107]))) [.ret (.bi .all [(.comp (.call 82 [(.v 0), (.sub (.v 8) (.k (.int 0))), (.sub (.v 8) (.k (.int 1)))]) (.n 8) (.v 4))])] [],
  .ife (.cmp .eq (.v 1) (.k (.str [115, 104, 105, 102, 116]))) [.asg (.n 7) (.call 19 [(.v 0)]), .ret (.bi .all [(.comp (.cmp .gt (.bi .len [(.compI (.v 10) (.n 10) (.call 75 [(.v 0), (.call 74 [(.v 0), (.v 5)])]) (.cmp .isin (.v 10) (.v 7)))]) (.k (.int 0))) (.n 5) (.v 3))])] [],
  .asg (.n 6) (.bi .all [(.comp (.or (.call 83 [(.v 0), (.sub (.v 8) (.k (.int 0))), (.sub (.v 8) (.k (.int 1)))]) (.call 83 [(.v 0), (.sub (.v 8) (.k (.int 1))), (.sub (.v 8) (.k (.int 0)))])) (.n 8) (.v 4))]),
  .ret (.and (.v 6) (.or (.cmp .eq (.v 1) (.k (.str [99, 104, 97, 105, 110, 101, 100]))) (.bi .all [(.comp (.call 84 [(.v 0), (.v 5)]) (.n 5) (.v 3))])))]⟩
def Nd_l_at : List (List Nat) := [[99, 97, 116], [119, 111, 114, 100], [105], [111, 117, 116], [112, 97, 105, 114, 115], [102], [99, 104, 97, 105, 110, 101, 100], [108, 97, 115, 116, 105, 110, 103], [112, 97, 105, 114], [103], [106]]
/-- N: cat f pair other -/
def d_l_chosen : FDef := ⟨1, 4, [
  .ife (.cmp .gt (.bi .len [(.compI (.v 2) (.n 2) (.sub (.v 0) (.k (.int 1))) (.cmp .gt (.bi .len [(.compI (.v 3) (.n 3) (.sub (.v 0) (.k (.int 1))) (.cmp .eq (.v 3) (.v 2)))]) (.k (.int 1))))]) (.k (.int 0))) [.ret (.k (.bl false))] [],
  .ret (.bi .all [(.comp (.call 17 [(.v 0), (.v 1)]) (.n 1) (.rng (.bi .len [(.sub (.v 0) (.k (.int 1)))])))])]⟩
def Nd_l_chosen : List (List Nat) := [[99, 97, 116], [102], [112, 97, 105, 114], [111, 116, 104, 101, 114]]
/-- N: cat word e -/
def d_l_told : FDef := ⟨2, 3, [
  .tryn [.ex (.call 71 [(.v 0), (.v 1)])] 2 2 [.ret (.isx 2 0)],
  .ret (.k (.bl false))]⟩
def Nd_l_told : List (List Nat) := [[99, 97, 116], [119, 111, 114, 100], [101]]
def d_law_b1 : List S := [.asg (.n 6) (.compI (.v 8) (.n 8) (.rng (.sub (.v 2) (.k (.int 0)))) (.call 85 [(.v 2), (.v 4), (.v 8)])), .asg (.n 7) (.call 71 [(.v 2), (.v 4)]), .ife (.or (.not (.isi (.v 7) .lst)) (.cmp .ne (.call 9 [(.v 7)]) (.v 6))) [.ret (.k (.bl false))] [], .pushc (.v 7) (.k (.int 9)), .ife (.cmp .ne (.call 9 [(.call 71 [(.v 2), (.v 4)])]) (.v 6)) [.ret (.k (.bl false))] []]
/-- N: script box cat kept word wrong due told i -/
def d_law : FDef := ⟨1, 9, [
  .asg (.n 1) (.call 11 [(.v 0), (.k (.int 0))]),
  .asg (.n 2) (.call 81 [(.v 1)]),
  .ife (.cmp .eq (.call 12 [(.v 1), (.k (.int 4))]) (.k (.int 0))) [.asg (.n 2) (.call 20 [(.call 14 [(.call 12 [(.v 1), (.k (.int 10))])]), (.call 14 [(.call 12 [(.v 1), (.k (.int 10))])])])] [],
  .asg (.n 3) (.bi .repr [(.v 2)]),
  .loop (.n 4) (.disp [(.k (.str [109, 105, 100, 100, 108, 101])), (.k (.str [119, 101, 97, 107])), (.k (.str [99, 104, 97, 105, 110, 101, 100])), (.k (.str [115, 104, 105, 102, 116])), (.k (.str [99, 111, 110, 115, 116, 97, 110, 116])), (.k (.str [112, 114, 101, 109, 105, 115, 101])), (.k (.str [99, 104, 111, 105, 99, 101]))]) d_law_b1,
  .ife (.or (.cmp .ne (.call 9 [(.call 7 [(.v 2)])]) (.call 18 [(.v 2)])) (.cmp .ne (.call 9 [(.call 8 [(.v 2)])]) (.call 19 [(.v 2)]))) [.ret (.k (.bl false))] [],
  .ife (.not (.call 73 [(.call 72 [(.v 2)]), (.call 86 [(.v 2)])])) [.ret (.k (.bl false))] [],
  .asg (.n 5) (.sub (.disp [(.k (.str [])), (.k (.str [77, 105, 100, 100, 108, 101])), (.k (.str [109, 105, 100, 100, 108, 101, 115])), (.k (.str [119, 101, 97, 107, 32])), (.k (.int 3)), (.k (.non)), (.tup [(.k (.str [119, 101, 97, 107]))]), (.disp [(.k (.str [119, 101, 97, 107]))]), (.k (.str [101, 110, 100]))]) (.call 12 [(.v 1), (.k (.int 9))])),
  .ret (.and (.call 59 [(.v 2), (.v 5)]) (.cmp .eq (.bi .repr [(.v 2)]) (.v 3)))]⟩
def Nd_law : List (List Nat) := [[115, 99, 114, 105, 112, 116], [98, 111, 120], [99, 97, 116], [107, 101, 112, 116], [119, 111, 114, 100], [119, 114, 111, 110, 103], [100, 117, 101], [116, 111, 108, 100], [105]]
/-- N: self category stage at arrow -/
def d_Frame_init : FDef := ⟨2, 5, [
  .attr 0 1 (.lrng (.sub (.v 1) (.k (.int 0)))),
  .attr 0 0 (.sub (.v 1) (.k (.int 1))),
  .attr 0 2 (.sub (.v 1) (.k (.int 2))),
  .attr 0 3 (.comp (.compI (.v 3) (.t [3, 4]) (.enum (.attr (.v 0) 0)) (.cmp .eq (.sub (.v 4) (.k (.int 0))) (.v 2))) (.n 2) (.attr (.v 0) 1))]⟩
def Nd_Frame_init : List (List Nat) := [[115, 101, 108, 102], [99, 97, 116, 101, 103, 111, 114, 121], [115, 116, 97, 103, 101], [97, 116], [97, 114, 114, 111, 119]]
/-- N: self arrow -/
def d_Frame_source : FDef := ⟨2, 2, [
  .ret (.sub (.sub (.attr (.v 0) 0) (.v 1)) (.k (.int 0)))]⟩
def Nd_Frame_source : List (List Nat) := [[115, 101, 108, 102], [97, 114, 114, 111, 119]]
/-- N: self arrow -/
def d_Frame_target : FDef := ⟨2, 2, [
  .ret (.sub (.sub (.attr (.v 0) 0) (.v 1)) (.k (.int 1)))]⟩
def Nd_Frame_target : List (List Nat) := [[115, 101, 108, 102], [97, 114, 114, 111, 119]]
/-- N: self arrow -/
def d_Frame_behind : FDef := ⟨2, 2, [
  .ret (.sub (.attr (.v 0) 3) (.meth 5 (.v 0) [(.v 1)]))]⟩
def Nd_Frame_behind : List (List Nat) := [[115, 101, 108, 102], [97, 114, 114, 111, 119]]
/-- N: self first second -/
def d_Frame_then : FDef := ⟨3, 3, [
  .ret (.sub (.sub (.attr (.v 0) 2) (.v 1)) (.v 2))]⟩
def Nd_Frame_then : List (List Nat) := [[115, 101, 108, 102], [102, 105, 114, 115, 116], [115, 101, 99, 111, 110, 100]]
/-- N: self arrow -/
def d_Frame_row : FDef := ⟨2, 2, [
  .ret (.index (.sub (.attr (.v 0) 3) (.meth 4 (.v 0) [(.v 1)])) (.v 1))]⟩
def Nd_Frame_row : List (List Nat) := [[115, 101, 108, 102], [97, 114, 114, 111, 119]]
/-- N: self arrow after -/
def d_Frame_is_undone : FDef := ⟨2, 3, [
  .ret (.bi .any [(.comp (.cmp .eq (.meth 1 (.v 0) [(.v 1), (.v 2)]) (.meth 4 (.v 0) [(.v 1)])) (.n 2) (.meth 0 (.v 0) [(.v 1)]))])]⟩
def Nd_Frame_is_undone : List (List Nat) := [[115, 101, 108, 102], [97, 114, 114, 111, 119], [97, 102, 116, 101, 114]]
/-- N: self arrow start end back -/
def d_Frame_has_inverse : FDef := ⟨2, 5, [
  .asg (.t [2, 3]) (.sub (.attr (.v 0) 0) (.v 1)),
  .ret (.bi .any [(.compI (.and (.cmp .eq (.meth 1 (.v 0) [(.v 1), (.v 4)]) (.v 2)) (.cmp .eq (.meth 1 (.v 0) [(.v 4), (.v 1)]) (.v 3))) (.n 4) (.sub (.attr (.v 0) 3) (.v 3)) (.cmp .eq (.meth 5 (.v 0) [(.v 4)]) (.v 2)))])]⟩
def Nd_Frame_has_inverse : List (List Nat) := [[115, 101, 108, 102], [97, 114, 114, 111, 119], [115, 116, 97, 114, 116], [101, 110, 100], [98, 97, 99, 107]]
/-- N: self stage arrow -/
def d_Frame_is_end : FDef := ⟨2, 3, [
  .ret (.bi .all [(.comp (.meth 7 (.v 0) [(.v 2)]) (.n 2) (.sub (.attr (.v 0) 3) (.v 1)))])]⟩
def Nd_Frame_is_end : List (List Nat) := [[115, 101, 108, 102], [115, 116, 97, 103, 101], [97, 114, 114, 111, 119]]
/-- N: self stage arrow -/
def d_Frame_is_last : FDef := ⟨2, 3, [
  .ret (.bi .all [(.comp (.meth 8 (.v 0) [(.v 2)]) (.n 2) (.sub (.attr (.v 0) 3) (.v 1)))])]⟩
def Nd_Frame_is_last : List (List Nat) := [[115, 101, 108, 102], [115, 116, 97, 103, 101], [97, 114, 114, 111, 119]]
/-- N: self stage arrow -/
def d_Frame_reached : FDef := ⟨2, 3, [
  .ret (.comp (.meth 5 (.v 0) [(.v 2)]) (.n 2) (.sub (.attr (.v 0) 3) (.v 1)))]⟩
def Nd_Frame_reached : List (List Nat) := [[115, 101, 108, 102], [115, 116, 97, 103, 101], [97, 114, 114, 111, 119]]
def tab : List (Nat × FDef) := [(0, d_is_between), (1, d_is_arrow), (2, d_has_shape), (3, d_has_composites), (4, d_is_joined), (5, d_check_category), (6, d_read_frame), (7, d_ends), (8, d_lasts), (43, d_check_form), (60, d_meet), (61, d_leads_on), (62, d_all_pairs), (63, d_chain), (64, d_is_weak), (65, d_is_chained), (66, d_is_shifted), (67, d_comes_back), (68, d_has_premise), (69, d_is_end), (70, d_is_last), (71, d_stages_of), (72, d_chooses), (73, d_l_yes), (10, d_l_cell), (11, d_l_stream), (12, d_l_draw), (13, d_l_ordered), (14, d_l_known), (15, d_l_out), (74, d_l_end), (16, d_l_undone), (17, d_l_inverse), (18, d_l_ends), (19, d_l_lasts), (75, d_l_reached), (76, d_l_choices), (9, d_l_read), (77, d_l_rising), (78, d_l_single), (79, d_l_times), (80, d_l_of_maps), (81, d_l_full), (20, d_l_beside), (82, d_l_meet), (83, d_l_leads), (84, d_l_comes_back), (85, d_l_at), (86, d_l_chosen), (59, d_l_told), (26, d_law), (27, d_Frame_source), (28, d_Frame_target), (29, d_Frame_behind), (30, d_Frame_then), (31, d_Frame_row), (32, d_Frame_is_undone), (33, d_Frame_has_inverse), (34, d_Frame_is_end), (35, d_Frame_is_last), (37, d_Frame_reached)]
def inits : List (Nat × FDef) := [(0, d_Frame_init)]
def meths : List ((Nat × Nat) × Nat) := [((0, 4), 27), ((0, 5), 28), ((0, 0), 29), ((0, 1), 30), ((0, 6), 31), ((0, 7), 32), ((0, 8), 33), ((0, 2), 34), ((0, 3), 35), ((0, 9), 37)]
end P09
end Hf
end

section
set_option Elab.async false
set_option linter.all false
set_option maxRecDepth 100000
set_option maxHeartbeats 0
namespace Hf
namespace L09
open PySem PySem.Spec PyProof.Rows L2 P09
abbrev R : PySem.W.OpenRow := PySem.W.OpenLaw.row PySem.Challenge.rw_henceforth_k09_stages_of_principles_in_f
def top (i : Nat) : Stmt := PySem.Challenge.pw_henceforth_k09_stages_of_principles_in_f.main.body.getD i (.Pass ⟨0, 0, 0, 0⟩)
def gv0 : T := c_MOST_STAGES
def gv1 : T := c_MOST_ARROWS
def gv2 : T := c_WORDS
def k0_0 : List PySem.Str := ["middle", "weak", "chained", "shift", "constant", "premise", "choice"]
def fns0 : List (PySem.Str × Nat × Nat) := [("is_between", 0, 3), ("is_arrow", 1, 2), ("has_shape", 2, 1), ("has_composites", 3, 1), ("is_joined", 4, 1), ("check_category", 5, 1), ("read_frame", 6, 1), ("ends", 7, 1), ("lasts", 8, 1), ("check_form", 43, 1), ("meet", 60, 3), ("leads_on", 61, 3)]
def fns1 : List (PySem.Str × Nat × Nat) := [("all_pairs", 62, 3), ("chain", 63, 3), ("is_weak", 64, 2), ("is_chained", 65, 2), ("is_shifted", 66, 2), ("comes_back", 67, 2), ("has_premise", 68, 2), ("is_end", 69, 2), ("is_last", 70, 2), ("stages_of", 71, 2), ("chooses", 72, 1), ("_law_yes", 73, 2)]
def fns2 : List (PySem.Str × Nat × Nat) := [("_law_cell", 10, 2), ("_law_stream", 11, 2), ("_law_draw", 12, 2), ("_law_ordered", 13, 1), ("_law_known", 14, 1), ("_law_out", 15, 2), ("_law_end", 74, 2), ("_law_undone", 16, 2), ("_law_inverse", 17, 2), ("_law_ends", 18, 1), ("_law_lasts", 19, 1), ("_law_reached", 75, 2)]
def fns3 : List (PySem.Str × Nat × Nat) := [("_law_choices", 76, 1), ("_law_read", 9, 1), ("_law_rising", 77, 1), ("_law_single", 78, 2), ("_law_times", 79, 2), ("_law_of_maps", 80, 1), ("_law_full", 81, 1), ("_law_beside", 20, 2), ("_law_meet", 82, 3), ("_law_leads", 83, 3), ("_law_comes_back", 84, 2), ("_law_at", 85, 3)]
def fns4 : List (PySem.Str × Nat × Nat) := [("_law_chosen", 86, 1), ("_law_told", 59, 2), ("law", 26, 1)]
def fns : List (PySem.Str × Nat × Nat) := fns0 ++ fns1 ++ fns2 ++ fns3 ++ fns4
def vals0 : List (PySem.Str × T) := [("MOST_STAGES", gv0), ("MOST_ARROWS", gv1), ("WORDS", gv2)]
def vals : List (PySem.Str × T) := vals0
def excs0 : List (PySem.Str × Nat) := [("HenceforthError", 0), ("BadCategory", 1), ("BadForm", 2)]
def excs : List (PySem.Str × Nat) := excs0
def free0 : List PySem.Str := ["isinstance", "len", "list", "tuple", "range", "enumerate", "all", "any", "sum", "max", "min", "abs"]
def free1 : List PySem.Str := ["int", "str", "bool", "sorted", "repr"]
def free : List PySem.Str := free0 ++ free1
def names0 : List PySem.Str := ["HenceforthError", "BadCategory", "BadForm", "MOST_STAGES", "MOST_ARROWS", "Frame", "is_between", "is_arrow", "has_shape", "has_composites", "is_joined", "check_category"]
def names1 : List PySem.Str := ["read_frame", "ends", "lasts", "check_form", "meet", "leads_on", "all_pairs", "chain", "is_weak", "is_chained", "is_shifted", "comes_back"]
def names2 : List PySem.Str := ["has_premise", "is_end", "is_last", "WORDS", "stages_of", "chooses", "_law_yes", "_law_cell", "_law_stream", "_law_draw", "_law_ordered", "_law_known"]
def names3 : List PySem.Str := ["_law_out", "_law_end", "_law_undone", "_law_inverse", "_law_ends", "_law_lasts", "_law_reached", "_law_choices", "_law_read", "_law_rising", "_law_single", "_law_times"]
def names4 : List PySem.Str := ["_law_of_maps", "_law_full", "_law_beside", "_law_meet", "_law_leads", "_law_comes_back", "_law_at", "_law_chosen", "_law_told"]
def names : List PySem.Str := names0 ++ names1 ++ names2 ++ names3 ++ names4
def fn0 : List He.DefD := [⟨("is_between", none), "is_between", "is_between", defArgs (top 8), defBody (top 8), defScope (top 8), [], []⟩, ⟨("is_arrow", none), "is_arrow", "is_arrow", defArgs (top 9), defBody (top 9), defScope (top 9), [], []⟩, ⟨("has_shape", none), "has_shape", "has_shape", defArgs (top 10), defBody (top 10), defScope (top 10), [], []⟩, ⟨("has_composites", none), "has_composites", "has_composites", defArgs (top 11), defBody (top 11), defScope (top 11), [], []⟩, ⟨("is_joined", none), "is_joined", "is_joined", defArgs (top 12), defBody (top 12), defScope (top 12), [], []⟩, ⟨("check_category", none), "check_category", "check_category", defArgs (top 13), defBody (top 13), defScope (top 13), [], []⟩, ⟨("read_frame", none), "read_frame", "read_frame", defArgs (top 14), defBody (top 14), defScope (top 14), [], []⟩, ⟨("ends", none), "ends", "ends", defArgs (top 15), defBody (top 15), defScope (top 15), [], []⟩, ⟨("lasts", none), "lasts", "lasts", defArgs (top 16), defBody (top 16), defScope (top 16), [], []⟩, ⟨("check_form", none), "check_form", "check_form", defArgs (top 18), defBody (top 18), defScope (top 18), [], []⟩, ⟨("meet", none), "meet", "meet", defArgs (top 20), defBody (top 20), defScope (top 20), [], []⟩, ⟨("leads_on", none), "leads_on", "leads_on", defArgs (top 21), defBody (top 21), defScope (top 21), [], []⟩]
def fn1 : List He.DefD := [⟨("all_pairs", none), "all_pairs", "all_pairs", defArgs (top 22), defBody (top 22), defScope (top 22), [], []⟩, ⟨("chain", none), "chain", "chain", defArgs (top 23), defBody (top 23), defScope (top 23), [], []⟩, ⟨("is_weak", none), "is_weak", "is_weak", defArgs (top 24), defBody (top 24), defScope (top 24), [], []⟩, ⟨("is_chained", none), "is_chained", "is_chained", defArgs (top 25), defBody (top 25), defScope (top 25), [], []⟩, ⟨("is_shifted", none), "is_shifted", "is_shifted", defArgs (top 26), defBody (top 26), defScope (top 26), [], []⟩, ⟨("comes_back", none), "comes_back", "comes_back", defArgs (top 27), defBody (top 27), defScope (top 27), [], []⟩, ⟨("has_premise", none), "has_premise", "has_premise", defArgs (top 28), defBody (top 28), defScope (top 28), [], []⟩, ⟨("is_end", none), "is_end", "is_end", defArgs (top 29), defBody (top 29), defScope (top 29), [], []⟩, ⟨("is_last", none), "is_last", "is_last", defArgs (top 30), defBody (top 30), defScope (top 30), [], []⟩, ⟨("stages_of", none), "stages_of", "stages_of", defArgs (top 32), defBody (top 32), defScope (top 32), [], []⟩, ⟨("chooses", none), "chooses", "chooses", defArgs (top 33), defBody (top 33), defScope (top 33), [], []⟩, ⟨("_law_yes", none), "_law_yes", "_law_yes", defArgs (top 35), defBody (top 35), defScope (top 35), [], []⟩]
def fn2 : List He.DefD := [⟨("_law_cell", none), "_law_cell", "_law_cell", defArgs (top 36), defBody (top 36), defScope (top 36), [], []⟩, ⟨("_law_stream", none), "_law_stream", "_law_stream", defArgs (top 37), defBody (top 37), defScope (top 37), [], []⟩, ⟨("_law_draw", none), "_law_draw", "_law_draw", defArgs (top 38), defBody (top 38), defScope (top 38), [], []⟩, ⟨("_law_ordered", none), "_law_ordered", "_law_ordered", defArgs (top 39), defBody (top 39), defScope (top 39), [], []⟩, ⟨("_law_known", none), "_law_known", "_law_known", defArgs (top 40), defBody (top 40), defScope (top 40), [], []⟩, ⟨("_law_out", none), "_law_out", "_law_out", defArgs (top 41), defBody (top 41), defScope (top 41), [], []⟩, ⟨("_law_end", none), "_law_end", "_law_end", defArgs (top 42), defBody (top 42), defScope (top 42), [], []⟩, ⟨("_law_undone", none), "_law_undone", "_law_undone", defArgs (top 43), defBody (top 43), defScope (top 43), [], []⟩, ⟨("_law_inverse", none), "_law_inverse", "_law_inverse", defArgs (top 44), defBody (top 44), defScope (top 44), [], []⟩, ⟨("_law_ends", none), "_law_ends", "_law_ends", defArgs (top 45), defBody (top 45), defScope (top 45), [], []⟩, ⟨("_law_lasts", none), "_law_lasts", "_law_lasts", defArgs (top 46), defBody (top 46), defScope (top 46), [], []⟩, ⟨("_law_reached", none), "_law_reached", "_law_reached", defArgs (top 47), defBody (top 47), defScope (top 47), [], []⟩]
def fn3 : List He.DefD := [⟨("_law_choices", none), "_law_choices", "_law_choices", defArgs (top 48), defBody (top 48), defScope (top 48), [], []⟩, ⟨("_law_read", none), "_law_read", "_law_read", defArgs (top 49), defBody (top 49), defScope (top 49), [], []⟩, ⟨("_law_rising", none), "_law_rising", "_law_rising", defArgs (top 50), defBody (top 50), defScope (top 50), [], []⟩, ⟨("_law_single", none), "_law_single", "_law_single", defArgs (top 51), defBody (top 51), defScope (top 51), [], []⟩, ⟨("_law_times", none), "_law_times", "_law_times", defArgs (top 52), defBody (top 52), defScope (top 52), [], []⟩, ⟨("_law_of_maps", none), "_law_of_maps", "_law_of_maps", defArgs (top 53), defBody (top 53), defScope (top 53), [], []⟩, ⟨("_law_full", none), "_law_full", "_law_full", defArgs (top 54), defBody (top 54), defScope (top 54), [], []⟩, ⟨("_law_beside", none), "_law_beside", "_law_beside", defArgs (top 55), defBody (top 55), defScope (top 55), [], []⟩, ⟨("_law_meet", none), "_law_meet", "_law_meet", defArgs (top 56), defBody (top 56), defScope (top 56), [], []⟩, ⟨("_law_leads", none), "_law_leads", "_law_leads", defArgs (top 57), defBody (top 57), defScope (top 57), [], []⟩, ⟨("_law_comes_back", none), "_law_comes_back", "_law_comes_back", defArgs (top 58), defBody (top 58), defScope (top 58), [], []⟩, ⟨("_law_at", none), "_law_at", "_law_at", defArgs (top 59), defBody (top 59), defScope (top 59), [], []⟩]
def fn4 : List He.DefD := [⟨("_law_chosen", none), "_law_chosen", "_law_chosen", defArgs (top 60), defBody (top 60), defScope (top 60), [], []⟩, ⟨("_law_told", none), "_law_told", "_law_told", defArgs (top 61), defBody (top 61), defScope (top 61), [], []⟩, ⟨("law", none), "law", "law", defArgs (top 62), defBody (top 62), defScope (top 62), [], []⟩, ⟨("Frame", some "__init__"), "__init__", "Frame.__init__", defArgs (inClass (top 7) 0), defBody (inClass (top 7) 0), defScope (inClass (top 7) 0), [], []⟩, ⟨("Frame", some "source"), "source", "Frame.source", defArgs (inClass (top 7) 1), defBody (inClass (top 7) 1), defScope (inClass (top 7) 1), [], []⟩, ⟨("Frame", some "target"), "target", "Frame.target", defArgs (inClass (top 7) 2), defBody (inClass (top 7) 2), defScope (inClass (top 7) 2), [], []⟩, ⟨("Frame", some "behind"), "behind", "Frame.behind", defArgs (inClass (top 7) 3), defBody (inClass (top 7) 3), defScope (inClass (top 7) 3), [], []⟩, ⟨("Frame", some "then"), "then", "Frame.then", defArgs (inClass (top 7) 4), defBody (inClass (top 7) 4), defScope (inClass (top 7) 4), [], []⟩, ⟨("Frame", some "row"), "row", "Frame.row", defArgs (inClass (top 7) 5), defBody (inClass (top 7) 5), defScope (inClass (top 7) 5), [], []⟩, ⟨("Frame", some "is_undone"), "is_undone", "Frame.is_undone", defArgs (inClass (top 7) 6), defBody (inClass (top 7) 6), defScope (inClass (top 7) 6), [], []⟩, ⟨("Frame", some "has_inverse"), "has_inverse", "Frame.has_inverse", defArgs (inClass (top 7) 7), defBody (inClass (top 7) 7), defScope (inClass (top 7) 7), [], []⟩, ⟨("Frame", some "is_end"), "is_end", "Frame.is_end", defArgs (inClass (top 7) 8), defBody (inClass (top 7) 8), defScope (inClass (top 7) 8), [], []⟩]
def fn5 : List He.DefD := [⟨("Frame", some "is_last"), "is_last", "Frame.is_last", defArgs (inClass (top 7) 9), defBody (inClass (top 7) 9), defScope (inClass (top 7) 9), [], []⟩, ⟨("Frame", some "reached"), "reached", "Frame.reached", defArgs (inClass (top 7) 10), defBody (inClass (top 7) 10), defScope (inClass (top 7) 10), [], []⟩]
def fn : List He.DefD := fn0 ++ fn1 ++ fn2 ++ fn3 ++ fn4 ++ fn5
def ts0 : List He.Tab := [(fun K => He.ga K "WORDS", k0_0)]
def ts : List He.Tab := ts0
def cls0 : List (PySem.Str × Nat × Nat) := [("Frame", 0, 1)]
def cls : List (PySem.Str × Nat × Nat) := cls0
def attrs0 : List (Nat × PySem.Str) := [(0, "arrows"), (1, "stages"), (2, "table"), (3, "leading")]
def attrs : List (Nat × PySem.Str) := attrs0
def mths0 : List (Nat × PySem.Str) := [(0, "behind"), (1, "then"), (2, "is_end"), (3, "is_last"), (4, "source"), (5, "target"), (6, "row"), (7, "is_undone"), (8, "has_inverse"), (9, "reached")]
def mths : List (Nat × PySem.Str) := mths0
def clf0 : List He.Fa := [.cls "Frame", .glo "Frame", .mkr "Frame", .noat "Frame" "arrows", .noat "Frame" "stages", .noat "Frame" "table", .noat "Frame" "leading", .meth "Frame" "source", .meth "Frame" "target", .meth "Frame" "behind", .meth "Frame" "then", .meth "Frame" "row"]
def clf1 : List He.Fa := [.meth "Frame" "is_undone", .meth "Frame" "has_inverse", .meth "Frame" "is_end", .meth "Frame" "is_last", .meth "Frame" "reached"]
def clf : List He.Fa := clf0 ++ clf1
def tell : Tell := ⟨fns, vals, excs, free, cls, attrs, mths⟩
def sub (e c : Nat) : Bool := e == c || c == 0 || c == 11
def prog : Prog := ⟨fun f => P09.tab.lookup f, fun c m => P09.meths.lookup (c, m), fun c => P09.inits.lookup c, sub⟩
def fa : List He.Fa := fns.map (fun p => .glo p.1) ++ excs.map (fun p => .glo p.1) ++ excs.map (fun p => .exc p.1) ++ free.map .free ++ clf
def ex : PySem.W.Frag → Bool := exB tell sub (ts.map (·.1))
abbrev hk : PySem.W.Hook := He.hookX 4 fa fn ts [] ex
def ob (s : PySem.W.SharedT) : He.AlX := He.obsX 4 fa fn ts [] ex (HandSHeadRun.getT s)
theorem ob_eq (s : PySem.W.SharedT) : ob s = hk.obs s.abs := He.obsX_eq (HandSHeadRun.getT_eq s)
abbrev qv : Program := PySem.W.view R.prog [62]
end L09
end Hf
end

section
set_option Elab.async false
set_option linter.all false
set_option maxRecDepth 100000
set_option maxHeartbeats 0
namespace Hf
namespace L09
open PySem PySem.Spec PyProof.Rows PySem.W L2 P09
theorem runF (w : World) : HandSHeadRun.RunEq R qv hk ob 6000 names (w.withFollow "special-get-raises" false) := by
  intro os
  kernel_rfl
theorem runT (w : World) : HandSHeadRun.RunEq R qv hk ob 6000 names (w.withFollow "special-get-raises" true) := by
  intro os
  kernel_rfl
theorem run (w : World) : HandSHeadRun.RunEq R qv hk ob 6000 names w :=
  byRow2 "special-get-raises" (P := fun w => HandSHeadRun.RunEq R qv hk ob 6000 names w) runF runT w
end L09
end Hf
end

section
set_option Elab.async false
set_option linter.all false
set_option maxRecDepth 100000
set_option maxHeartbeats 0
namespace Hf
namespace L09
open PySem PySem.Spec PyProof.Rows L2 P09
theorem ok_8 {K : PySem.W.Frag} {fa : Addr} {fd : FuncData} (F : FunD K "is_between" "is_between" (defArgs (top 8)) (defBody (top 8)) (defScope (top 8)) [] [] fa fd) : DefOk tell.gam K P09.d_is_between fa fd [sk [118, 97, 108, 117, 101], sk [108, 101, 97, 115, 116], sk [109, 111, 115, 116]] :=
  ⟨⟨_, _, _, _, _, _, _, P09.Nd_is_between.map sk, F, ⟨by decide +kernel, by decide +kernel, by decide +kernel, by decide +kernel, by decide +kernel, by decide +kernel, by decide +kernel⟩, by decide +kernel, by decide +kernel⟩, rfl, F.bindsN fun _ _ _ _ _ _ us hl => match us, hl with | [_, _, _], _ => rfl⟩
theorem ok_9 {K : PySem.W.Frag} {fa : Addr} {fd : FuncData} (F : FunD K "is_arrow" "is_arrow" (defArgs (top 9)) (defBody (top 9)) (defScope (top 9)) [] [] fa fd) : DefOk tell.gam K P09.d_is_arrow fa fd [sk [118, 97, 108, 117, 101], sk [115, 116, 97, 103, 101, 115]] :=
  ⟨⟨_, _, _, _, _, _, _, P09.Nd_is_arrow.map sk, F, ⟨by decide +kernel, by decide +kernel, by decide +kernel, by decide +kernel, by decide +kernel, by decide +kernel, by decide +kernel⟩, by decide +kernel, by decide +kernel⟩, rfl, F.bindsN fun _ _ _ _ _ _ us hl => match us, hl with | [_, _], _ => rfl⟩
theorem ok_10 {K : PySem.W.Frag} {fa : Addr} {fd : FuncData} (F : FunD K "has_shape" "has_shape" (defArgs (top 10)) (defBody (top 10)) (defScope (top 10)) [] [] fa fd) : DefOk tell.gam K P09.d_has_shape fa fd [sk [99, 97, 116, 101, 103, 111, 114, 121]] :=
  ⟨⟨_, _, _, _, _, _, _, P09.Nd_has_shape.map sk, F, ⟨by decide +kernel, by decide +kernel, by decide +kernel, by decide +kernel, by decide +kernel, by decide +kernel, by decide +kernel⟩, by decide +kernel, by decide +kernel⟩, rfl, F.bindsN fun _ _ _ _ _ _ us hl => match us, hl with | [_], _ => rfl⟩
theorem ok_11 {K : PySem.W.Frag} {fa : Addr} {fd : FuncData} (F : FunD K "has_composites" "has_composites" (defArgs (top 11)) (defBody (top 11)) (defScope (top 11)) [] [] fa fd) : DefOk tell.gam K P09.d_has_composites fa fd [sk [99, 97, 116, 101, 103, 111, 114, 121]] :=
  ⟨⟨_, _, _, _, _, _, _, P09.Nd_has_composites.map sk, F, ⟨by decide +kernel, by decide +kernel, by decide +kernel, by decide +kernel, by decide +kernel, by decide +kernel, by decide +kernel⟩, by decide +kernel, by decide +kernel⟩, rfl, F.bindsN fun _ _ _ _ _ _ us hl => match us, hl with | [_], _ => rfl⟩
theorem ok_12 {K : PySem.W.Frag} {fa : Addr} {fd : FuncData} (F : FunD K "is_joined" "is_joined" (defArgs (top 12)) (defBody (top 12)) (defScope (top 12)) [] [] fa fd) : DefOk tell.gam K P09.d_is_joined fa fd [sk [99, 97, 116, 101, 103, 111, 114, 121]] :=
  ⟨⟨_, _, _, _, _, _, _, P09.Nd_is_joined.map sk, F, ⟨by decide +kernel, by decide +kernel, by decide +kernel, by decide +kernel, by decide +kernel, by decide +kernel, by decide +kernel⟩, by decide +kernel, by decide +kernel⟩, rfl, F.bindsN fun _ _ _ _ _ _ us hl => match us, hl with | [_], _ => rfl⟩
theorem ok_13 {K : PySem.W.Frag} {fa : Addr} {fd : FuncData} (F : FunD K "check_category" "check_category" (defArgs (top 13)) (defBody (top 13)) (defScope (top 13)) [] [] fa fd) : DefOk tell.gam K P09.d_check_category fa fd [sk [99, 97, 116, 101, 103, 111, 114, 121]] :=
  ⟨⟨_, _, _, _, _, _, _, P09.Nd_check_category.map sk, F, ⟨by decide +kernel, by decide +kernel, by decide +kernel, by decide +kernel, by decide +kernel, by decide +kernel, by decide +kernel⟩, by decide +kernel, by decide +kernel⟩, rfl, F.bindsN fun _ _ _ _ _ _ us hl => match us, hl with | [_], _ => rfl⟩
theorem ok_14 {K : PySem.W.Frag} {fa : Addr} {fd : FuncData} (F : FunD K "read_frame" "read_frame" (defArgs (top 14)) (defBody (top 14)) (defScope (top 14)) [] [] fa fd) : DefOk tell.gam K P09.d_read_frame fa fd [sk [99, 97, 116, 101, 103, 111, 114, 121]] :=
  ⟨⟨_, _, _, _, _, _, _, P09.Nd_read_frame.map sk, F, ⟨by decide +kernel, by decide +kernel, by decide +kernel, by decide +kernel, by decide +kernel, by decide +kernel, by decide +kernel⟩, by decide +kernel, by decide +kernel⟩, rfl, F.bindsN fun _ _ _ _ _ _ us hl => match us, hl with | [_], _ => rfl⟩
theorem ok_15 {K : PySem.W.Frag} {fa : Addr} {fd : FuncData} (F : FunD K "ends" "ends" (defArgs (top 15)) (defBody (top 15)) (defScope (top 15)) [] [] fa fd) : DefOk tell.gam K P09.d_ends fa fd [sk [99, 97, 116, 101, 103, 111, 114, 121]] :=
  ⟨⟨_, _, _, _, _, _, _, P09.Nd_ends.map sk, F, ⟨by decide +kernel, by decide +kernel, by decide +kernel, by decide +kernel, by decide +kernel, by decide +kernel, by decide +kernel⟩, by decide +kernel, by decide +kernel⟩, rfl, F.bindsN fun _ _ _ _ _ _ us hl => match us, hl with | [_], _ => rfl⟩
theorem ok_16 {K : PySem.W.Frag} {fa : Addr} {fd : FuncData} (F : FunD K "lasts" "lasts" (defArgs (top 16)) (defBody (top 16)) (defScope (top 16)) [] [] fa fd) : DefOk tell.gam K P09.d_lasts fa fd [sk [99, 97, 116, 101, 103, 111, 114, 121]] :=
  ⟨⟨_, _, _, _, _, _, _, P09.Nd_lasts.map sk, F, ⟨by decide +kernel, by decide +kernel, by decide +kernel, by decide +kernel, by decide +kernel, by decide +kernel, by decide +kernel⟩, by decide +kernel, by decide +kernel⟩, rfl, F.bindsN fun _ _ _ _ _ _ us hl => match us, hl with | [_], _ => rfl⟩
theorem ok_18 {K : PySem.W.Frag} {fa : Addr} {fd : FuncData} (F : FunD K "check_form" "check_form" (defArgs (top 18)) (defBody (top 18)) (defScope (top 18)) [] [] fa fd) : DefOk tell.gam K P09.d_check_form fa fd [sk [114, 105, 103, 104, 116]] :=
  ⟨⟨_, _, _, _, _, _, _, P09.Nd_check_form.map sk, F, ⟨by decide +kernel, by decide +kernel, by decide +kernel, by decide +kernel, by decide +kernel, by decide +kernel, by decide +kernel⟩, by decide +kernel, by decide +kernel⟩, rfl, F.bindsN fun _ _ _ _ _ _ us hl => match us, hl with | [_], _ => rfl⟩
theorem ok_20 {K : PySem.W.Frag} {fa : Addr} {fd : FuncData} (F : FunD K "meet" "meet" (defArgs (top 20)) (defBody (top 20)) (defScope (top 20)) [] [] fa fd) : DefOk tell.gam K P09.d_meet fa fd [sk [102, 114, 97, 109, 101], sk [102, 105, 114, 115, 116], sk [115, 101, 99, 111, 110, 100]] :=
  ⟨⟨_, _, _, _, _, _, _, P09.Nd_meet.map sk, F, ⟨by decide +kernel, by decide +kernel, by decide +kernel, by decide +kernel, by decide +kernel, by decide +kernel, by decide +kernel⟩, by decide +kernel, by decide +kernel⟩, rfl, F.bindsN fun _ _ _ _ _ _ us hl => match us, hl with | [_, _, _], _ => rfl⟩
theorem ok_21 {K : PySem.W.Frag} {fa : Addr} {fd : FuncData} (F : FunD K "leads_on" "leads_on" (defArgs (top 21)) (defBody (top 21)) (defScope (top 21)) [] [] fa fd) : DefOk tell.gam K P09.d_leads_on fa fd [sk [102, 114, 97, 109, 101], sk [102, 105, 114, 115, 116], sk [115, 101, 99, 111, 110, 100]] :=
  ⟨⟨_, _, _, _, _, _, _, P09.Nd_leads_on.map sk, F, ⟨by decide +kernel, by decide +kernel, by decide +kernel, by decide +kernel, by decide +kernel, by decide +kernel, by decide +kernel⟩, by decide +kernel, by decide +kernel⟩, rfl, F.bindsN fun _ _ _ _ _ _ us hl => match us, hl with | [_, _, _], _ => rfl⟩
theorem ok_22 {K : PySem.W.Frag} {fa : Addr} {fd : FuncData} (F : FunD K "all_pairs" "all_pairs" (defArgs (top 22)) (defBody (top 22)) (defScope (top 22)) [] [] fa fd) : DefOk tell.gam K P09.d_all_pairs fa fd [sk [102, 114, 97, 109, 101], sk [115, 116, 97, 103, 101], sk [104, 111, 108, 100, 115]] :=
  ⟨⟨_, _, _, _, _, _, _, P09.Nd_all_pairs.map sk, F, ⟨by decide +kernel, by decide +kernel, by decide +kernel, by decide +kernel, by decide +kernel, by decide +kernel, by decide +kernel⟩, by decide +kernel, by decide +kernel⟩, rfl, F.bindsN fun _ _ _ _ _ _ us hl => match us, hl with | [_, _, _], _ => rfl⟩
theorem ok_23 {K : PySem.W.Frag} {fa : Addr} {fd : FuncData} (F : FunD K "chain" "chain" (defArgs (top 23)) (defBody (top 23)) (defScope (top 23)) [] [] fa fd) : DefOk tell.gam K P09.d_chain fa fd [sk [102, 114, 97, 109, 101], sk [102, 105, 114, 115, 116], sk [115, 101, 99, 111, 110, 100]] :=
  ⟨⟨_, _, _, _, _, _, _, P09.Nd_chain.map sk, F, ⟨by decide +kernel, by decide +kernel, by decide +kernel, by decide +kernel, by decide +kernel, by decide +kernel, by decide +kernel⟩, by decide +kernel, by decide +kernel⟩, rfl, F.bindsN fun _ _ _ _ _ _ us hl => match us, hl with | [_, _, _], _ => rfl⟩
theorem ok_24 {K : PySem.W.Frag} {fa : Addr} {fd : FuncData} (F : FunD K "is_weak" "is_weak" (defArgs (top 24)) (defBody (top 24)) (defScope (top 24)) [] [] fa fd) : DefOk tell.gam K P09.d_is_weak fa fd [sk [102, 114, 97, 109, 101], sk [115, 116, 97, 103, 101]] :=
  ⟨⟨_, _, _, _, _, _, _, P09.Nd_is_weak.map sk, F, ⟨by decide +kernel, by decide +kernel, by decide +kernel, by decide +kernel, by decide +kernel, by decide +kernel, by decide +kernel⟩, by decide +kernel, by decide +kernel⟩, rfl, F.bindsN fun _ _ _ _ _ _ us hl => match us, hl with | [_, _], _ => rfl⟩
theorem ok_25 {K : PySem.W.Frag} {fa : Addr} {fd : FuncData} (F : FunD K "is_chained" "is_chained" (defArgs (top 25)) (defBody (top 25)) (defScope (top 25)) [] [] fa fd) : DefOk tell.gam K P09.d_is_chained fa fd [sk [102, 114, 97, 109, 101], sk [115, 116, 97, 103, 101]] :=
  ⟨⟨_, _, _, _, _, _, _, P09.Nd_is_chained.map sk, F, ⟨by decide +kernel, by decide +kernel, by decide +kernel, by decide +kernel, by decide +kernel, by decide +kernel, by decide +kernel⟩, by decide +kernel, by decide +kernel⟩, rfl, F.bindsN fun _ _ _ _ _ _ us hl => match us, hl with | [_, _], _ => rfl⟩
theorem ok_26 {K : PySem.W.Frag} {fa : Addr} {fd : FuncData} (F : FunD K "is_shifted" "is_shifted" (defArgs (top 26)) (defBody (top 26)) (defScope (top 26)) [] [] fa fd) : DefOk tell.gam K P09.d_is_shifted fa fd [sk [102, 114, 97, 109, 101], sk [115, 116, 97, 103, 101]] :=
  ⟨⟨_, _, _, _, _, _, _, P09.Nd_is_shifted.map sk, F, ⟨by decide +kernel, by decide +kernel, by decide +kernel, by decide +kernel, by decide +kernel, by decide +kernel, by decide +kernel⟩, by decide +kernel, by decide +kernel⟩, rfl, F.bindsN fun _ _ _ _ _ _ us hl => match us, hl with | [_, _], _ => rfl⟩
theorem ok_27 {K : PySem.W.Frag} {fa : Addr} {fd : FuncData} (F : FunD K "comes_back" "comes_back" (defArgs (top 27)) (defBody (top 27)) (defScope (top 27)) [] [] fa fd) : DefOk tell.gam K P09.d_comes_back fa fd [sk [102, 114, 97, 109, 101], sk [97, 114, 114, 111, 119]] :=
  ⟨⟨_, _, _, _, _, _, _, P09.Nd_comes_back.map sk, F, ⟨by decide +kernel, by decide +kernel, by decide +kernel, by decide +kernel, by decide +kernel, by decide +kernel, by decide +kernel⟩, by decide +kernel, by decide +kernel⟩, rfl, F.bindsN fun _ _ _ _ _ _ us hl => match us, hl with | [_, _], _ => rfl⟩
theorem ok_28 {K : PySem.W.Frag} {fa : Addr} {fd : FuncData} (F : FunD K "has_premise" "has_premise" (defArgs (top 28)) (defBody (top 28)) (defScope (top 28)) [] [] fa fd) : DefOk tell.gam K P09.d_has_premise fa fd [sk [102, 114, 97, 109, 101], sk [115, 116, 97, 103, 101]] :=
  ⟨⟨_, _, _, _, _, _, _, P09.Nd_has_premise.map sk, F, ⟨by decide +kernel, by decide +kernel, by decide +kernel, by decide +kernel, by decide +kernel, by decide +kernel, by decide +kernel⟩, by decide +kernel, by decide +kernel⟩, rfl, F.bindsN fun _ _ _ _ _ _ us hl => match us, hl with | [_, _], _ => rfl⟩
theorem ok_29 {K : PySem.W.Frag} {fa : Addr} {fd : FuncData} (F : FunD K "is_end" "is_end" (defArgs (top 29)) (defBody (top 29)) (defScope (top 29)) [] [] fa fd) : DefOk tell.gam K P09.d_is_end fa fd [sk [102, 114, 97, 109, 101], sk [115, 116, 97, 103, 101]] :=
  ⟨⟨_, _, _, _, _, _, _, P09.Nd_is_end.map sk, F, ⟨by decide +kernel, by decide +kernel, by decide +kernel, by decide +kernel, by decide +kernel, by decide +kernel, by decide +kernel⟩, by decide +kernel, by decide +kernel⟩, rfl, F.bindsN fun _ _ _ _ _ _ us hl => match us, hl with | [_, _], _ => rfl⟩
theorem ok_30 {K : PySem.W.Frag} {fa : Addr} {fd : FuncData} (F : FunD K "is_last" "is_last" (defArgs (top 30)) (defBody (top 30)) (defScope (top 30)) [] [] fa fd) : DefOk tell.gam K P09.d_is_last fa fd [sk [102, 114, 97, 109, 101], sk [115, 116, 97, 103, 101]] :=
  ⟨⟨_, _, _, _, _, _, _, P09.Nd_is_last.map sk, F, ⟨by decide +kernel, by decide +kernel, by decide +kernel, by decide +kernel, by decide +kernel, by decide +kernel, by decide +kernel⟩, by decide +kernel, by decide +kernel⟩, rfl, F.bindsN fun _ _ _ _ _ _ us hl => match us, hl with | [_, _], _ => rfl⟩
theorem ok_32 {K : PySem.W.Frag} {fa : Addr} {fd : FuncData} (F : FunD K "stages_of" "stages_of" (defArgs (top 32)) (defBody (top 32)) (defScope (top 32)) [] [] fa fd) : DefOk tell.gam K P09.d_stages_of fa fd [sk [99, 97, 116, 101, 103, 111, 114, 121], sk [119, 111, 114, 100]] :=
  ⟨⟨_, _, _, _, _, _, _, P09.Nd_stages_of.map sk, F, ⟨by decide +kernel, by decide +kernel, by decide +kernel, by decide +kernel, by decide +kernel, by decide +kernel, by decide +kernel⟩, by decide +kernel, by decide +kernel⟩, rfl, F.bindsN fun _ _ _ _ _ _ us hl => match us, hl with | [_, _], _ => rfl⟩
theorem ok_33 {K : PySem.W.Frag} {fa : Addr} {fd : FuncData} (F : FunD K "chooses" "chooses" (defArgs (top 33)) (defBody (top 33)) (defScope (top 33)) [] [] fa fd) : DefOk tell.gam K P09.d_chooses fa fd [sk [99, 97, 116, 101, 103, 111, 114, 121]] :=
  ⟨⟨_, _, _, _, _, _, _, P09.Nd_chooses.map sk, F, ⟨by decide +kernel, by decide +kernel, by decide +kernel, by decide +kernel, by decide +kernel, by decide +kernel, by decide +kernel⟩, by decide +kernel, by decide +kernel⟩, rfl, F.bindsN fun _ _ _ _ _ _ us hl => match us, hl with | [_], _ => rfl⟩
theorem ok_35 {K : PySem.W.Frag} {fa : Addr} {fd : FuncData} (F : FunD K "_law_yes" "_law_yes" (defArgs (top 35)) (defBody (top 35)) (defScope (top 35)) [] [] fa fd) : DefOk tell.gam K P09.d_l_yes fa fd [sk [116, 111, 108, 100], sk [100, 117, 101]] :=
  ⟨⟨_, _, _, _, _, _, _, P09.Nd_l_yes.map sk, F, ⟨by decide +kernel, by decide +kernel, by decide +kernel, by decide +kernel, by decide +kernel, by decide +kernel, by decide +kernel⟩, by decide +kernel, by decide +kernel⟩, rfl, F.bindsN fun _ _ _ _ _ _ us hl => match us, hl with | [_, _], _ => rfl⟩
theorem ok_36 {K : PySem.W.Frag} {fa : Addr} {fd : FuncData} (F : FunD K "_law_cell" "_law_cell" (defArgs (top 36)) (defBody (top 36)) (defScope (top 36)) [] [] fa fd) : DefOk tell.gam K P09.d_l_cell fa fd [sk [115, 99, 114, 105, 112, 116], sk [107]] :=
  ⟨⟨_, _, _, _, _, _, _, P09.Nd_l_cell.map sk, F, ⟨by decide +kernel, by decide +kernel, by decide +kernel, by decide +kernel, by decide +kernel, by decide +kernel, by decide +kernel⟩, by decide +kernel, by decide +kernel⟩, rfl, F.bindsN fun _ _ _ _ _ _ us hl => match us, hl with | [_, _], _ => rfl⟩
theorem ok_37 {K : PySem.W.Frag} {fa : Addr} {fd : FuncData} (F : FunD K "_law_stream" "_law_stream" (defArgs (top 37)) (defBody (top 37)) (defScope (top 37)) [] [] fa fd) : DefOk tell.gam K P09.d_l_stream fa fd [sk [115, 99, 114, 105, 112, 116], sk [107]] :=
  ⟨⟨_, _, _, _, _, _, _, P09.Nd_l_stream.map sk, F, ⟨by decide +kernel, by decide +kernel, by decide +kernel, by decide +kernel, by decide +kernel, by decide +kernel, by decide +kernel⟩, by decide +kernel, by decide +kernel⟩, rfl, F.bindsN fun _ _ _ _ _ _ us hl => match us, hl with | [_, _], _ => rfl⟩
theorem ok_38 {K : PySem.W.Frag} {fa : Addr} {fd : FuncData} (F : FunD K "_law_draw" "_law_draw" (defArgs (top 38)) (defBody (top 38)) (defScope (top 38)) [] [] fa fd) : DefOk tell.gam K P09.d_l_draw fa fd [sk [98, 111, 120], sk [109, 97, 110, 121]] :=
  ⟨⟨_, _, _, _, _, _, _, P09.Nd_l_draw.map sk, F, ⟨by decide +kernel, by decide +kernel, by decide +kernel, by decide +kernel, by decide +kernel, by decide +kernel, by decide +kernel⟩, by decide +kernel, by decide +kernel⟩, rfl, F.bindsN fun _ _ _ _ _ _ us hl => match us, hl with | [_, _], _ => rfl⟩
theorem ok_39 {K : PySem.W.Frag} {fa : Addr} {fd : FuncData} (F : FunD K "_law_ordered" "_law_ordered" (defArgs (top 39)) (defBody (top 39)) (defScope (top 39)) [] [] fa fd) : DefOk tell.gam K P09.d_l_ordered fa fd [sk [114, 101, 97, 99, 104]] :=
  ⟨⟨_, _, _, _, _, _, _, P09.Nd_l_ordered.map sk, F, ⟨by decide +kernel, by decide +kernel, by decide +kernel, by decide +kernel, by decide +kernel, by decide +kernel, by decide +kernel⟩, by decide +kernel, by decide +kernel⟩, rfl, F.bindsN fun _ _ _ _ _ _ us hl => match us, hl with | [_], _ => rfl⟩
theorem ok_40 {K : PySem.W.Frag} {fa : Addr} {fd : FuncData} (F : FunD K "_law_known" "_law_known" (defArgs (top 40)) (defBody (top 40)) (defScope (top 40)) [] [] fa fd) : DefOk tell.gam K P09.d_l_known fa fd [sk [112, 105, 99, 107]] :=
  ⟨⟨_, _, _, _, _, _, _, P09.Nd_l_known.map sk, F, ⟨by decide +kernel, by decide +kernel, by decide +kernel, by decide +kernel, by decide +kernel, by decide +kernel, by decide +kernel⟩, by decide +kernel, by decide +kernel⟩, rfl, F.bindsN fun _ _ _ _ _ _ us hl => match us, hl with | [_], _ => rfl⟩
theorem ok_41 {K : PySem.W.Frag} {fa : Addr} {fd : FuncData} (F : FunD K "_law_out" "_law_out" (defArgs (top 41)) (defBody (top 41)) (defScope (top 41)) [] [] fa fd) : DefOk tell.gam K P09.d_l_out fa fd [sk [99, 97, 116], sk [105]] :=
  ⟨⟨_, _, _, _, _, _, _, P09.Nd_l_out.map sk, F, ⟨by decide +kernel, by decide +kernel, by decide +kernel, by decide +kernel, by decide +kernel, by decide +kernel, by decide +kernel⟩, by decide +kernel, by decide +kernel⟩, rfl, F.bindsN fun _ _ _ _ _ _ us hl => match us, hl with | [_, _], _ => rfl⟩
theorem ok_42 {K : PySem.W.Frag} {fa : Addr} {fd : FuncData} (F : FunD K "_law_end" "_law_end" (defArgs (top 42)) (defBody (top 42)) (defScope (top 42)) [] [] fa fd) : DefOk tell.gam K P09.d_l_end fa fd [sk [99, 97, 116], sk [102]] :=
  ⟨⟨_, _, _, _, _, _, _, P09.Nd_l_end.map sk, F, ⟨by decide +kernel, by decide +kernel, by decide +kernel, by decide +kernel, by decide +kernel, by decide +kernel, by decide +kernel⟩, by decide +kernel, by decide +kernel⟩, rfl, F.bindsN fun _ _ _ _ _ _ us hl => match us, hl with | [_, _], _ => rfl⟩
theorem ok_43 {K : PySem.W.Frag} {fa : Addr} {fd : FuncData} (F : FunD K "_law_undone" "_law_undone" (defArgs (top 43)) (defBody (top 43)) (defScope (top 43)) [] [] fa fd) : DefOk tell.gam K P09.d_l_undone fa fd [sk [99, 97, 116], sk [102]] :=
  ⟨⟨_, _, _, _, _, _, _, P09.Nd_l_undone.map sk, F, ⟨by decide +kernel, by decide +kernel, by decide +kernel, by decide +kernel, by decide +kernel, by decide +kernel, by decide +kernel⟩, by decide +kernel, by decide +kernel⟩, rfl, F.bindsN fun _ _ _ _ _ _ us hl => match us, hl with | [_, _], _ => rfl⟩
theorem ok_44 {K : PySem.W.Frag} {fa : Addr} {fd : FuncData} (F : FunD K "_law_inverse" "_law_inverse" (defArgs (top 44)) (defBody (top 44)) (defScope (top 44)) [] [] fa fd) : DefOk tell.gam K P09.d_l_inverse fa fd [sk [99, 97, 116], sk [102]] :=
  ⟨⟨_, _, _, _, _, _, _, P09.Nd_l_inverse.map sk, F, ⟨by decide +kernel, by decide +kernel, by decide +kernel, by decide +kernel, by decide +kernel, by decide +kernel, by decide +kernel⟩, by decide +kernel, by decide +kernel⟩, rfl, F.bindsN fun _ _ _ _ _ _ us hl => match us, hl with | [_, _], _ => rfl⟩
theorem ok_45 {K : PySem.W.Frag} {fa : Addr} {fd : FuncData} (F : FunD K "_law_ends" "_law_ends" (defArgs (top 45)) (defBody (top 45)) (defScope (top 45)) [] [] fa fd) : DefOk tell.gam K P09.d_l_ends fa fd [sk [99, 97, 116]] :=
  ⟨⟨_, _, _, _, _, _, _, P09.Nd_l_ends.map sk, F, ⟨by decide +kernel, by decide +kernel, by decide +kernel, by decide +kernel, by decide +kernel, by decide +kernel, by decide +kernel⟩, by decide +kernel, by decide +kernel⟩, rfl, F.bindsN fun _ _ _ _ _ _ us hl => match us, hl with | [_], _ => rfl⟩
theorem ok_46 {K : PySem.W.Frag} {fa : Addr} {fd : FuncData} (F : FunD K "_law_lasts" "_law_lasts" (defArgs (top 46)) (defBody (top 46)) (defScope (top 46)) [] [] fa fd) : DefOk tell.gam K P09.d_l_lasts fa fd [sk [99, 97, 116]] :=
  ⟨⟨_, _, _, _, _, _, _, P09.Nd_l_lasts.map sk, F, ⟨by decide +kernel, by decide +kernel, by decide +kernel, by decide +kernel, by decide +kernel, by decide +kernel, by decide +kernel⟩, by decide +kernel, by decide +kernel⟩, rfl, F.bindsN fun _ _ _ _ _ _ us hl => match us, hl with | [_], _ => rfl⟩
theorem ok_47 {K : PySem.W.Frag} {fa : Addr} {fd : FuncData} (F : FunD K "_law_reached" "_law_reached" (defArgs (top 47)) (defBody (top 47)) (defScope (top 47)) [] [] fa fd) : DefOk tell.gam K P09.d_l_reached fa fd [sk [99, 97, 116], sk [105]] :=
  ⟨⟨_, _, _, _, _, _, _, P09.Nd_l_reached.map sk, F, ⟨by decide +kernel, by decide +kernel, by decide +kernel, by decide +kernel, by decide +kernel, by decide +kernel, by decide +kernel⟩, by decide +kernel, by decide +kernel⟩, rfl, F.bindsN fun _ _ _ _ _ _ us hl => match us, hl with | [_, _], _ => rfl⟩
theorem ok_48 {K : PySem.W.Frag} {fa : Addr} {fd : FuncData} (F : FunD K "_law_choices" "_law_choices" (defArgs (top 48)) (defBody (top 48)) (defScope (top 48)) [] [] fa fd) : DefOk tell.gam K P09.d_l_choices fa fd [sk [108, 105, 115, 116, 115]] :=
  ⟨⟨_, _, _, _, _, _, _, P09.Nd_l_choices.map sk, F, ⟨by decide +kernel, by decide +kernel, by decide +kernel, by decide +kernel, by decide +kernel, by decide +kernel, by decide +kernel⟩, by decide +kernel, by decide +kernel⟩, rfl, F.bindsN fun _ _ _ _ _ _ us hl => match us, hl with | [_], _ => rfl⟩
theorem ok_49 {K : PySem.W.Frag} {fa : Addr} {fd : FuncData} (F : FunD K "_law_read" "_law_read" (defArgs (top 49)) (defBody (top 49)) (defScope (top 49)) [] [] fa fd) : DefOk tell.gam K P09.d_l_read fa fd [sk [116, 111, 108, 100]] :=
  ⟨⟨_, _, _, _, _, _, _, P09.Nd_l_read.map sk, F, ⟨by decide +kernel, by decide +kernel, by decide +kernel, by decide +kernel, by decide +kernel, by decide +kernel, by decide +kernel⟩, by decide +kernel, by decide +kernel⟩, rfl, F.bindsN fun _ _ _ _ _ _ us hl => match us, hl with | [_], _ => rfl⟩
theorem ok_50 {K : PySem.W.Frag} {fa : Addr} {fd : FuncData} (F : FunD K "_law_rising" "_law_rising" (defArgs (top 50)) (defBody (top 50)) (defScope (top 50)) [] [] fa fd) : DefOk tell.gam K P09.d_l_rising fa fd [sk [98, 111, 120]] :=
  ⟨⟨_, _, _, _, _, _, _, P09.Nd_l_rising.map sk, F, ⟨by decide +kernel, by decide +kernel, by decide +kernel, by decide +kernel, by decide +kernel, by decide +kernel, by decide +kernel⟩, by decide +kernel, by decide +kernel⟩, rfl, F.bindsN fun _ _ _ _ _ _ us hl => match us, hl with | [_], _ => rfl⟩
theorem ok_51 {K : PySem.W.Frag} {fa : Addr} {fd : FuncData} (F : FunD K "_law_single" "_law_single" (defArgs (top 51)) (defBody (top 51)) (defScope (top 51)) [] [] fa fd) : DefOk tell.gam K P09.d_l_single fa fd [sk [109, 97, 110, 121], sk [116, 117, 114, 110, 101, 100]] :=
  ⟨⟨_, _, _, _, _, _, _, P09.Nd_l_single.map sk, F, ⟨by decide +kernel, by decide +kernel, by decide +kernel, by decide +kernel, by decide +kernel, by decide +kernel, by decide +kernel⟩, by decide +kernel, by decide +kernel⟩, rfl, F.bindsN fun _ _ _ _ _ _ us hl => match us, hl with | [_, _], _ => rfl⟩
theorem ok_52 {K : PySem.W.Frag} {fa : Addr} {fd : FuncData} (F : FunD K "_law_times" "_law_times" (defArgs (top 52)) (defBody (top 52)) (defScope (top 52)) [] [] fa fd) : DefOk tell.gam K P09.d_l_times fa fd [sk [99, 97, 116], sk [109, 97, 110, 121]] :=
  ⟨⟨_, _, _, _, _, _, _, P09.Nd_l_times.map sk, F, ⟨by decide +kernel, by decide +kernel, by decide +kernel, by decide +kernel, by decide +kernel, by decide +kernel, by decide +kernel⟩, by decide +kernel, by decide +kernel⟩, rfl, F.bindsN fun _ _ _ _ _ _ us hl => match us, hl with | [_, _], _ => rfl⟩
theorem ok_53 {K : PySem.W.Frag} {fa : Addr} {fd : FuncData} (F : FunD K "_law_of_maps" "_law_of_maps" (defArgs (top 53)) (defBody (top 53)) (defScope (top 53)) [] [] fa fd) : DefOk tell.gam K P09.d_l_of_maps fa fd [sk [115, 105, 122, 101, 115]] :=
  ⟨⟨_, _, _, _, _, _, _, P09.Nd_l_of_maps.map sk, F, ⟨by decide +kernel, by decide +kernel, by decide +kernel, by decide +kernel, by decide +kernel, by decide +kernel, by decide +kernel⟩, by decide +kernel, by decide +kernel⟩, rfl, F.bindsN fun _ _ _ _ _ _ us hl => match us, hl with | [_], _ => rfl⟩
theorem ok_54 {K : PySem.W.Frag} {fa : Addr} {fd : FuncData} (F : FunD K "_law_full" "_law_full" (defArgs (top 54)) (defBody (top 54)) (defScope (top 54)) [] [] fa fd) : DefOk tell.gam K P09.d_l_full fa fd [sk [98, 111, 120]] :=
  ⟨⟨_, _, _, _, _, _, _, P09.Nd_l_full.map sk, F, ⟨by decide +kernel, by decide +kernel, by decide +kernel, by decide +kernel, by decide +kernel, by decide +kernel, by decide +kernel⟩, by decide +kernel, by decide +kernel⟩, rfl, F.bindsN fun _ _ _ _ _ _ us hl => match us, hl with | [_], _ => rfl⟩
theorem ok_55 {K : PySem.W.Frag} {fa : Addr} {fd : FuncData} (F : FunD K "_law_beside" "_law_beside" (defArgs (top 55)) (defBody (top 55)) (defScope (top 55)) [] [] fa fd) : DefOk tell.gam K P09.d_l_beside fa fd [sk [111, 110, 101], sk [116, 119, 111]] :=
  ⟨⟨_, _, _, _, _, _, _, P09.Nd_l_beside.map sk, F, ⟨by decide +kernel, by decide +kernel, by decide +kernel, by decide +kernel, by decide +kernel, by decide +kernel, by decide +kernel⟩, by decide +kernel, by decide +kernel⟩, rfl, F.bindsN fun _ _ _ _ _ _ us hl => match us, hl with | [_, _], _ => rfl⟩
theorem ok_56 {K : PySem.W.Frag} {fa : Addr} {fd : FuncData} (F : FunD K "_law_meet" "_law_meet" (defArgs (top 56)) (defBody (top 56)) (defScope (top 56)) [] [] fa fd) : DefOk tell.gam K P09.d_l_meet fa fd [sk [99, 97, 116], sk [102], sk [103]] :=
  ⟨⟨_, _, _, _, _, _, _, P09.Nd_l_meet.map sk, F, ⟨by decide +kernel, by decide +kernel, by decide +kernel, by decide +kernel, by decide +kernel, by decide +kernel, by decide +kernel⟩, by decide +kernel, by decide +kernel⟩, rfl, F.bindsN fun _ _ _ _ _ _ us hl => match us, hl with | [_, _, _], _ => rfl⟩
theorem ok_57 {K : PySem.W.Frag} {fa : Addr} {fd : FuncData} (F : FunD K "_law_leads" "_law_leads" (defArgs (top 57)) (defBody (top 57)) (defScope (top 57)) [] [] fa fd) : DefOk tell.gam K P09.d_l_leads fa fd [sk [99, 97, 116], sk [102], sk [103]] :=
  ⟨⟨_, _, _, _, _, _, _, P09.Nd_l_leads.map sk, F, ⟨by decide +kernel, by decide +kernel, by decide +kernel, by decide +kernel, by decide +kernel, by decide +kernel, by decide +kernel⟩, by decide +kernel, by decide +kernel⟩, rfl, F.bindsN fun _ _ _ _ _ _ us hl => match us, hl with | [_, _, _], _ => rfl⟩
theorem ok_58 {K : PySem.W.Frag} {fa : Addr} {fd : FuncData} (F : FunD K "_law_comes_back" "_law_comes_back" (defArgs (top 58)) (defBody (top 58)) (defScope (top 58)) [] [] fa fd) : DefOk tell.gam K P09.d_l_comes_back fa fd [sk [99, 97, 116], sk [102]] :=
  ⟨⟨_, _, _, _, _, _, _, P09.Nd_l_comes_back.map sk, F, ⟨by decide +kernel, by decide +kernel, by decide +kernel, by decide +kernel, by decide +kernel, by decide +kernel, by decide +kernel⟩, by decide +kernel, by decide +kernel⟩, rfl, F.bindsN fun _ _ _ _ _ _ us hl => match us, hl with | [_, _], _ => rfl⟩
theorem ok_59 {K : PySem.W.Frag} {fa : Addr} {fd : FuncData} (F : FunD K "_law_at" "_law_at" (defArgs (top 59)) (defBody (top 59)) (defScope (top 59)) [] [] fa fd) : DefOk tell.gam K P09.d_l_at fa fd [sk [99, 97, 116], sk [119, 111, 114, 100], sk [105]] :=
  ⟨⟨_, _, _, _, _, _, _, P09.Nd_l_at.map sk, F, ⟨by decide +kernel, by decide +kernel, by decide +kernel, by decide +kernel, by decide +kernel, by decide +kernel, by decide +kernel⟩, by decide +kernel, by decide +kernel⟩, rfl, F.bindsN fun _ _ _ _ _ _ us hl => match us, hl with | [_, _, _], _ => rfl⟩
theorem ok_60 {K : PySem.W.Frag} {fa : Addr} {fd : FuncData} (F : FunD K "_law_chosen" "_law_chosen" (defArgs (top 60)) (defBody (top 60)) (defScope (top 60)) [] [] fa fd) : DefOk tell.gam K P09.d_l_chosen fa fd [sk [99, 97, 116]] :=
  ⟨⟨_, _, _, _, _, _, _, P09.Nd_l_chosen.map sk, F, ⟨by decide +kernel, by decide +kernel, by decide +kernel, by decide +kernel, by decide +kernel, by decide +kernel, by decide +kernel⟩, by decide +kernel, by decide +kernel⟩, rfl, F.bindsN fun _ _ _ _ _ _ us hl => match us, hl with | [_], _ => rfl⟩
theorem ok_61 {K : PySem.W.Frag} {fa : Addr} {fd : FuncData} (F : FunD K "_law_told" "_law_told" (defArgs (top 61)) (defBody (top 61)) (defScope (top 61)) [] [] fa fd) : DefOk tell.gam K P09.d_l_told fa fd [sk [99, 97, 116], sk [119, 111, 114, 100]] :=
  ⟨⟨_, _, _, _, _, _, _, P09.Nd_l_told.map sk, F, ⟨by decide +kernel, by decide +kernel, by decide +kernel, by decide +kernel, by decide +kernel, by decide +kernel, by decide +kernel⟩, by decide +kernel, by decide +kernel⟩, rfl, F.bindsN fun _ _ _ _ _ _ us hl => match us, hl with | [_, _], _ => rfl⟩
theorem ok_62 {K : PySem.W.Frag} {fa : Addr} {fd : FuncData} (F : FunD K "law" "law" (defArgs (top 62)) (defBody (top 62)) (defScope (top 62)) [] [] fa fd) : DefOk tell.gam K P09.d_law fa fd [sk [115, 99, 114, 105, 112, 116]] :=
  ⟨⟨_, _, _, _, _, _, _, P09.Nd_law.map sk, F, ⟨by decide +kernel, by decide +kernel, by decide +kernel, by decide +kernel, by decide +kernel, by decide +kernel, by decide +kernel⟩, by decide +kernel, by decide +kernel⟩, rfl, F.bindsN fun _ _ _ _ _ _ us hl => match us, hl with | [_], _ => rfl⟩
theorem ok_7_0 {K : PySem.W.Frag} {fa : Addr} {fd : FuncData} (F : FunD K "__init__" "Frame.__init__" (defArgs (inClass (top 7) 0)) (defBody (inClass (top 7) 0)) (defScope (inClass (top 7) 0)) [] [] fa fd) : DefOk tell.gam K P09.d_Frame_init fa fd [sk [115, 101, 108, 102], sk [99, 97, 116, 101, 103, 111, 114, 121]] :=
  ⟨⟨_, _, _, _, _, _, _, P09.Nd_Frame_init.map sk, F, ⟨by decide +kernel, by decide +kernel, by decide +kernel, by decide +kernel, by decide +kernel, by decide +kernel, by decide +kernel⟩, by decide +kernel, by decide +kernel⟩, rfl, F.bindsN fun _ _ _ _ _ _ us hl => match us, hl with | [_, _], _ => rfl⟩
theorem ok_7_1 {K : PySem.W.Frag} {fa : Addr} {fd : FuncData} (F : FunD K "source" "Frame.source" (defArgs (inClass (top 7) 1)) (defBody (inClass (top 7) 1)) (defScope (inClass (top 7) 1)) [] [] fa fd) : DefOk tell.gam K P09.d_Frame_source fa fd [sk [115, 101, 108, 102], sk [97, 114, 114, 111, 119]] :=
  ⟨⟨_, _, _, _, _, _, _, P09.Nd_Frame_source.map sk, F, ⟨by decide +kernel, by decide +kernel, by decide +kernel, by decide +kernel, by decide +kernel, by decide +kernel, by decide +kernel⟩, by decide +kernel, by decide +kernel⟩, rfl, F.bindsN fun _ _ _ _ _ _ us hl => match us, hl with | [_, _], _ => rfl⟩
theorem ok_7_2 {K : PySem.W.Frag} {fa : Addr} {fd : FuncData} (F : FunD K "target" "Frame.target" (defArgs (inClass (top 7) 2)) (defBody (inClass (top 7) 2)) (defScope (inClass (top 7) 2)) [] [] fa fd) : DefOk tell.gam K P09.d_Frame_target fa fd [sk [115, 101, 108, 102], sk [97, 114, 114, 111, 119]] :=
  ⟨⟨_, _, _, _, _, _, _, P09.Nd_Frame_target.map sk, F, ⟨by decide +kernel, by decide +kernel, by decide +kernel, by decide +kernel, by decide +kernel, by decide +kernel, by decide +kernel⟩, by decide +kernel, by decide +kernel⟩, rfl, F.bindsN fun _ _ _ _ _ _ us hl => match us, hl with | [_, _], _ => rfl⟩
theorem ok_7_3 {K : PySem.W.Frag} {fa : Addr} {fd : FuncData} (F : FunD K "behind" "Frame.behind" (defArgs (inClass (top 7) 3)) (defBody (inClass (top 7) 3)) (defScope (inClass (top 7) 3)) [] [] fa fd) : DefOk tell.gam K P09.d_Frame_behind fa fd [sk [115, 101, 108, 102], sk [97, 114, 114, 111, 119]] :=
  ⟨⟨_, _, _, _, _, _, _, P09.Nd_Frame_behind.map sk, F, ⟨by decide +kernel, by decide +kernel, by decide +kernel, by decide +kernel, by decide +kernel, by decide +kernel, by decide +kernel⟩, by decide +kernel, by decide +kernel⟩, rfl, F.bindsN fun _ _ _ _ _ _ us hl => match us, hl with | [_, _], _ => rfl⟩
theorem ok_7_4 {K : PySem.W.Frag} {fa : Addr} {fd : FuncData} (F : FunD K "then" "Frame.then" (defArgs (inClass (top 7) 4)) (defBody (inClass (top 7) 4)) (defScope (inClass (top 7) 4)) [] [] fa fd) : DefOk tell.gam K P09.d_Frame_then fa fd [sk [115, 101, 108, 102], sk [102, 105, 114, 115, 116], sk [115, 101, 99, 111, 110, 100]] :=
  ⟨⟨_, _, _, _, _, _, _, P09.Nd_Frame_then.map sk, F, ⟨by decide +kernel, by decide +kernel, by decide +kernel, by decide +kernel, by decide +kernel, by decide +kernel, by decide +kernel⟩, by decide +kernel, by decide +kernel⟩, rfl, F.bindsN fun _ _ _ _ _ _ us hl => match us, hl with | [_, _, _], _ => rfl⟩
theorem ok_7_5 {K : PySem.W.Frag} {fa : Addr} {fd : FuncData} (F : FunD K "row" "Frame.row" (defArgs (inClass (top 7) 5)) (defBody (inClass (top 7) 5)) (defScope (inClass (top 7) 5)) [] [] fa fd) : DefOk tell.gam K P09.d_Frame_row fa fd [sk [115, 101, 108, 102], sk [97, 114, 114, 111, 119]] :=
  ⟨⟨_, _, _, _, _, _, _, P09.Nd_Frame_row.map sk, F, ⟨by decide +kernel, by decide +kernel, by decide +kernel, by decide +kernel, by decide +kernel, by decide +kernel, by decide +kernel⟩, by decide +kernel, by decide +kernel⟩, rfl, F.bindsN fun _ _ _ _ _ _ us hl => match us, hl with | [_, _], _ => rfl⟩
theorem ok_7_6 {K : PySem.W.Frag} {fa : Addr} {fd : FuncData} (F : FunD K "is_undone" "Frame.is_undone" (defArgs (inClass (top 7) 6)) (defBody (inClass (top 7) 6)) (defScope (inClass (top 7) 6)) [] [] fa fd) : DefOk tell.gam K P09.d_Frame_is_undone fa fd [sk [115, 101, 108, 102], sk [97, 114, 114, 111, 119]] :=
  ⟨⟨_, _, _, _, _, _, _, P09.Nd_Frame_is_undone.map sk, F, ⟨by decide +kernel, by decide +kernel, by decide +kernel, by decide +kernel, by decide +kernel, by decide +kernel, by decide +kernel⟩, by decide +kernel, by decide +kernel⟩, rfl, F.bindsN fun _ _ _ _ _ _ us hl => match us, hl with | [_, _], _ => rfl⟩
theorem ok_7_7 {K : PySem.W.Frag} {fa : Addr} {fd : FuncData} (F : FunD K "has_inverse" "Frame.has_inverse" (defArgs (inClass (top 7) 7)) (defBody (inClass (top 7) 7)) (defScope (inClass (top 7) 7)) [] [] fa fd) : DefOk tell.gam K P09.d_Frame_has_inverse fa fd [sk [115, 101, 108, 102], sk [97, 114, 114, 111, 119]] :=
  ⟨⟨_, _, _, _, _, _, _, P09.Nd_Frame_has_inverse.map sk, F, ⟨by decide +kernel, by decide +kernel, by decide +kernel, by decide +kernel, by decide +kernel, by decide +kernel, by decide +kernel⟩, by decide +kernel, by decide +kernel⟩, rfl, F.bindsN fun _ _ _ _ _ _ us hl => match us, hl with | [_, _], _ => rfl⟩
theorem ok_7_8 {K : PySem.W.Frag} {fa : Addr} {fd : FuncData} (F : FunD K "is_end" "Frame.is_end" (defArgs (inClass (top 7) 8)) (defBody (inClass (top 7) 8)) (defScope (inClass (top 7) 8)) [] [] fa fd) : DefOk tell.gam K P09.d_Frame_is_end fa fd [sk [115, 101, 108, 102], sk [115, 116, 97, 103, 101]] :=
  ⟨⟨_, _, _, _, _, _, _, P09.Nd_Frame_is_end.map sk, F, ⟨by decide +kernel, by decide +kernel, by decide +kernel, by decide +kernel, by decide +kernel, by decide +kernel, by decide +kernel⟩, by decide +kernel, by decide +kernel⟩, rfl, F.bindsN fun _ _ _ _ _ _ us hl => match us, hl with | [_, _], _ => rfl⟩
theorem ok_7_9 {K : PySem.W.Frag} {fa : Addr} {fd : FuncData} (F : FunD K "is_last" "Frame.is_last" (defArgs (inClass (top 7) 9)) (defBody (inClass (top 7) 9)) (defScope (inClass (top 7) 9)) [] [] fa fd) : DefOk tell.gam K P09.d_Frame_is_last fa fd [sk [115, 101, 108, 102], sk [115, 116, 97, 103, 101]] :=
  ⟨⟨_, _, _, _, _, _, _, P09.Nd_Frame_is_last.map sk, F, ⟨by decide +kernel, by decide +kernel, by decide +kernel, by decide +kernel, by decide +kernel, by decide +kernel, by decide +kernel⟩, by decide +kernel, by decide +kernel⟩, rfl, F.bindsN fun _ _ _ _ _ _ us hl => match us, hl with | [_, _], _ => rfl⟩
theorem ok_7_10 {K : PySem.W.Frag} {fa : Addr} {fd : FuncData} (F : FunD K "reached" "Frame.reached" (defArgs (inClass (top 7) 10)) (defBody (inClass (top 7) 10)) (defScope (inClass (top 7) 10)) [] [] fa fd) : DefOk tell.gam K P09.d_Frame_reached fa fd [sk [115, 101, 108, 102], sk [115, 116, 97, 103, 101]] :=
  ⟨⟨_, _, _, _, _, _, _, P09.Nd_Frame_reached.map sk, F, ⟨by decide +kernel, by decide +kernel, by decide +kernel, by decide +kernel, by decide +kernel, by decide +kernel, by decide +kernel⟩, by decide +kernel, by decide +kernel⟩, rfl, F.bindsN fun _ _ _ _ _ _ us hl => match us, hl with | [_, _], _ => rfl⟩
end L09
end Hf
end

section
set_option Elab.async false
set_option linter.all false
set_option maxRecDepth 100000
set_option maxHeartbeats 0
namespace Hf
namespace L09
open PySem PySem.Spec PyProof.Rows L2 P09
theorem lookup_memG {α β : Type} [BEq α] [LawfulBEq α] {a : α} {o : β} : ∀ {l : List (α × β)}, l.lookup a = some o → (a, o) ∈ l
  | [], h => by cases h
  | (b, u) :: r, h => by
    simp only [List.lookup] at h
    split at h
    · rename_i q
      cases h
      rw [beq_iff_eq.mp q]
      exact List.mem_cons_self
    · exact List.mem_cons_of_mem _ (lookup_memG h)
def Q (K : PySem.W.Frag) (p : PySem.Str × Nat × Nat) : Prop := ∃ D fd ps, prog.defs p.2.1 = some D ∧ D.np = p.2.2 ∧ DefOk tell.gam K D (He.ga K p.1) fd ps
theorem hd0 {K : PySem.W.Frag} (c : He.SaysD fa fn K) : ∀ p ∈ fns0, Q K p := by
  intro p hp
  simp only [fns0, List.mem_cons, List.not_mem_nil, or_false] at hp
  rcases hp with rfl | rfl | rfl | rfl | rfl | rfl | rfl | rfl | rfl | rfl | rfl | rfl
  · obtain ⟨fd, F⟩ := c.def_ 0 rfl
    exact ⟨P09.d_is_between, fd, _, by rfl, by rfl, ok_8 F⟩
  · obtain ⟨fd, F⟩ := c.def_ 1 rfl
    exact ⟨P09.d_is_arrow, fd, _, by rfl, by rfl, ok_9 F⟩
  · obtain ⟨fd, F⟩ := c.def_ 2 rfl
    exact ⟨P09.d_has_shape, fd, _, by rfl, by rfl, ok_10 F⟩
  · obtain ⟨fd, F⟩ := c.def_ 3 rfl
    exact ⟨P09.d_has_composites, fd, _, by rfl, by rfl, ok_11 F⟩
  · obtain ⟨fd, F⟩ := c.def_ 4 rfl
    exact ⟨P09.d_is_joined, fd, _, by rfl, by rfl, ok_12 F⟩
  · obtain ⟨fd, F⟩ := c.def_ 5 rfl
    exact ⟨P09.d_check_category, fd, _, by rfl, by rfl, ok_13 F⟩
  · obtain ⟨fd, F⟩ := c.def_ 6 rfl
    exact ⟨P09.d_read_frame, fd, _, by rfl, by rfl, ok_14 F⟩
  · obtain ⟨fd, F⟩ := c.def_ 7 rfl
    exact ⟨P09.d_ends, fd, _, by rfl, by rfl, ok_15 F⟩
  · obtain ⟨fd, F⟩ := c.def_ 8 rfl
    exact ⟨P09.d_lasts, fd, _, by rfl, by rfl, ok_16 F⟩
  · obtain ⟨fd, F⟩ := c.def_ 9 rfl
    exact ⟨P09.d_check_form, fd, _, by rfl, by rfl, ok_18 F⟩
  · obtain ⟨fd, F⟩ := c.def_ 10 rfl
    exact ⟨P09.d_meet, fd, _, by rfl, by rfl, ok_20 F⟩
  · obtain ⟨fd, F⟩ := c.def_ 11 rfl
    exact ⟨P09.d_leads_on, fd, _, by rfl, by rfl, ok_21 F⟩
theorem hd1 {K : PySem.W.Frag} (c : He.SaysD fa fn K) : ∀ p ∈ fns1, Q K p := by
  intro p hp
  simp only [fns1, List.mem_cons, List.not_mem_nil, or_false] at hp
  rcases hp with rfl | rfl | rfl | rfl | rfl | rfl | rfl | rfl | rfl | rfl | rfl | rfl
  · obtain ⟨fd, F⟩ := c.def_ 12 rfl
    exact ⟨P09.d_all_pairs, fd, _, by rfl, by rfl, ok_22 F⟩
  · obtain ⟨fd, F⟩ := c.def_ 13 rfl
    exact ⟨P09.d_chain, fd, _, by rfl, by rfl, ok_23 F⟩
  · obtain ⟨fd, F⟩ := c.def_ 14 rfl
    exact ⟨P09.d_is_weak, fd, _, by rfl, by rfl, ok_24 F⟩
  · obtain ⟨fd, F⟩ := c.def_ 15 rfl
    exact ⟨P09.d_is_chained, fd, _, by rfl, by rfl, ok_25 F⟩
  · obtain ⟨fd, F⟩ := c.def_ 16 rfl
    exact ⟨P09.d_is_shifted, fd, _, by rfl, by rfl, ok_26 F⟩
  · obtain ⟨fd, F⟩ := c.def_ 17 rfl
    exact ⟨P09.d_comes_back, fd, _, by rfl, by rfl, ok_27 F⟩
  · obtain ⟨fd, F⟩ := c.def_ 18 rfl
    exact ⟨P09.d_has_premise, fd, _, by rfl, by rfl, ok_28 F⟩
  · obtain ⟨fd, F⟩ := c.def_ 19 rfl
    exact ⟨P09.d_is_end, fd, _, by rfl, by rfl, ok_29 F⟩
  · obtain ⟨fd, F⟩ := c.def_ 20 rfl
    exact ⟨P09.d_is_last, fd, _, by rfl, by rfl, ok_30 F⟩
  · obtain ⟨fd, F⟩ := c.def_ 21 rfl
    exact ⟨P09.d_stages_of, fd, _, by rfl, by rfl, ok_32 F⟩
  · obtain ⟨fd, F⟩ := c.def_ 22 rfl
    exact ⟨P09.d_chooses, fd, _, by rfl, by rfl, ok_33 F⟩
  · obtain ⟨fd, F⟩ := c.def_ 23 rfl
    exact ⟨P09.d_l_yes, fd, _, by rfl, by rfl, ok_35 F⟩
theorem hd2 {K : PySem.W.Frag} (c : He.SaysD fa fn K) : ∀ p ∈ fns2, Q K p := by
  intro p hp
  simp only [fns2, List.mem_cons, List.not_mem_nil, or_false] at hp
  rcases hp with rfl | rfl | rfl | rfl | rfl | rfl | rfl | rfl | rfl | rfl | rfl | rfl
  · obtain ⟨fd, F⟩ := c.def_ 24 rfl
    exact ⟨P09.d_l_cell, fd, _, by rfl, by rfl, ok_36 F⟩
  · obtain ⟨fd, F⟩ := c.def_ 25 rfl
    exact ⟨P09.d_l_stream, fd, _, by rfl, by rfl, ok_37 F⟩
  · obtain ⟨fd, F⟩ := c.def_ 26 rfl
    exact ⟨P09.d_l_draw, fd, _, by rfl, by rfl, ok_38 F⟩
  · obtain ⟨fd, F⟩ := c.def_ 27 rfl
    exact ⟨P09.d_l_ordered, fd, _, by rfl, by rfl, ok_39 F⟩
  · obtain ⟨fd, F⟩ := c.def_ 28 rfl
    exact ⟨P09.d_l_known, fd, _, by rfl, by rfl, ok_40 F⟩
  · obtain ⟨fd, F⟩ := c.def_ 29 rfl
    exact ⟨P09.d_l_out, fd, _, by rfl, by rfl, ok_41 F⟩
  · obtain ⟨fd, F⟩ := c.def_ 30 rfl
    exact ⟨P09.d_l_end, fd, _, by rfl, by rfl, ok_42 F⟩
  · obtain ⟨fd, F⟩ := c.def_ 31 rfl
    exact ⟨P09.d_l_undone, fd, _, by rfl, by rfl, ok_43 F⟩
  · obtain ⟨fd, F⟩ := c.def_ 32 rfl
    exact ⟨P09.d_l_inverse, fd, _, by rfl, by rfl, ok_44 F⟩
  · obtain ⟨fd, F⟩ := c.def_ 33 rfl
    exact ⟨P09.d_l_ends, fd, _, by rfl, by rfl, ok_45 F⟩
  · obtain ⟨fd, F⟩ := c.def_ 34 rfl
    exact ⟨P09.d_l_lasts, fd, _, by rfl, by rfl, ok_46 F⟩
  · obtain ⟨fd, F⟩ := c.def_ 35 rfl
    exact ⟨P09.d_l_reached, fd, _, by rfl, by rfl, ok_47 F⟩
theorem hd3 {K : PySem.W.Frag} (c : He.SaysD fa fn K) : ∀ p ∈ fns3, Q K p := by
  intro p hp
  simp only [fns3, List.mem_cons, List.not_mem_nil, or_false] at hp
  rcases hp with rfl | rfl | rfl | rfl | rfl | rfl | rfl | rfl | rfl | rfl | rfl | rfl
  · obtain ⟨fd, F⟩ := c.def_ 36 rfl
    exact ⟨P09.d_l_choices, fd, _, by rfl, by rfl, ok_48 F⟩
  · obtain ⟨fd, F⟩ := c.def_ 37 rfl
    exact ⟨P09.d_l_read, fd, _, by rfl, by rfl, ok_49 F⟩
  · obtain ⟨fd, F⟩ := c.def_ 38 rfl
    exact ⟨P09.d_l_rising, fd, _, by rfl, by rfl, ok_50 F⟩
  · obtain ⟨fd, F⟩ := c.def_ 39 rfl
    exact ⟨P09.d_l_single, fd, _, by rfl, by rfl, ok_51 F⟩
  · obtain ⟨fd, F⟩ := c.def_ 40 rfl
    exact ⟨P09.d_l_times, fd, _, by rfl, by rfl, ok_52 F⟩
  · obtain ⟨fd, F⟩ := c.def_ 41 rfl
    exact ⟨P09.d_l_of_maps, fd, _, by rfl, by rfl, ok_53 F⟩
  · obtain ⟨fd, F⟩ := c.def_ 42 rfl
    exact ⟨P09.d_l_full, fd, _, by rfl, by rfl, ok_54 F⟩
  · obtain ⟨fd, F⟩ := c.def_ 43 rfl
    exact ⟨P09.d_l_beside, fd, _, by rfl, by rfl, ok_55 F⟩
  · obtain ⟨fd, F⟩ := c.def_ 44 rfl
    exact ⟨P09.d_l_meet, fd, _, by rfl, by rfl, ok_56 F⟩
  · obtain ⟨fd, F⟩ := c.def_ 45 rfl
    exact ⟨P09.d_l_leads, fd, _, by rfl, by rfl, ok_57 F⟩
  · obtain ⟨fd, F⟩ := c.def_ 46 rfl
    exact ⟨P09.d_l_comes_back, fd, _, by rfl, by rfl, ok_58 F⟩
  · obtain ⟨fd, F⟩ := c.def_ 47 rfl
    exact ⟨P09.d_l_at, fd, _, by rfl, by rfl, ok_59 F⟩
theorem hd4 {K : PySem.W.Frag} (c : He.SaysD fa fn K) : ∀ p ∈ fns4, Q K p := by
  intro p hp
  simp only [fns4, List.mem_cons, List.not_mem_nil, or_false] at hp
  rcases hp with rfl | rfl | rfl
  · obtain ⟨fd, F⟩ := c.def_ 48 rfl
    exact ⟨P09.d_l_chosen, fd, _, by rfl, by rfl, ok_60 F⟩
  · obtain ⟨fd, F⟩ := c.def_ 49 rfl
    exact ⟨P09.d_l_told, fd, _, by rfl, by rfl, ok_61 F⟩
  · obtain ⟨fd, F⟩ := c.def_ 50 rfl
    exact ⟨P09.d_law, fd, _, by rfl, by rfl, ok_62 F⟩
theorem hd {K : PySem.W.Frag} (c : He.SaysD fa fn K) : ∀ p ∈ tell.fns, Q K p := by
  intro p hp
  have hp : p ∈ fns0 ++ fns1 ++ fns2 ++ fns3 ++ fns4 := hp
  simp only [List.mem_append] at hp
  rcases hp with (((h | h) | h) | h) | h
  · exact hd0 c p h
  · exact hd1 c p h
  · exact hd2 c p h
  · exact hd3 c p h
  · exact hd4 c p h
theorem hcl {K : PySem.W.Frag} (fm : ∀ f ∈ fa, f.ok K = true) : ∀ p ∈ tell.cls, (He.Fa.cls p.1).ok K = true ∧ (He.Fa.glo p.1).ok K = true ∧ (He.Fa.mkr p.1).ok K = true ∧ ∀ a ∈ tell.attrs, (He.Fa.noat p.1 a.2).ok K = true := by
    have cf : ∀ (i : Nat) (f : He.Fa), clf[i]? = some f → f.ok K = true := fun i f (h : clf[i]? = some f) => fm f (List.mem_append_right _ (List.mem_of_getElem? h))
    intro p hp
    have hp : p ∈ cls := hp
    simp only [cls, cls0, List.append_nil, List.cons_append, List.nil_append, List.mem_cons, List.not_mem_nil, or_false] at hp
    rcases hp with rfl
    · exact ⟨cf 0 _ rfl, cf 1 _ rfl, cf 2 _ rfl, fun a ha => by
      have ha : a ∈ attrs := ha
      simp only [attrs, attrs0, List.append_nil, List.cons_append, List.nil_append, List.mem_cons, List.mem_append, List.not_mem_nil, or_false, false_or] at ha
      rcases ha with rfl | rfl | rfl | rfl <;> first | exact cf 3 _ rfl | exact cf 4 _ rfl | exact cf 5 _ rfl | exact cf 6 _ rfl⟩
theorem hin {K : PySem.W.Frag} (c : He.SaysD fa fn K) : ∀ p ∈ tell.cls, ∃ D fd ps, prog.init p.2.1 = some D ∧ D.np = p.2.2 + 1 ∧ DefOk tell.gam K D (He.ma K (He.ga K p.1) "__init__") fd ps := by
    intro p hp
    have hp : p ∈ cls := hp
    simp only [cls, cls0, List.append_nil, List.cons_append, List.nil_append, List.mem_cons, List.not_mem_nil, or_false] at hp
    rcases hp with rfl
    · obtain ⟨fd, F⟩ := c.def_ 51 rfl
      exact ⟨P09.d_Frame_init, fd, _, by rfl, by rfl, ok_7_0 F⟩
theorem hme {K : PySem.W.Frag} (c : He.SaysD fa fn K) (fm : ∀ f ∈ fa, f.ok K = true) : ∀ p ∈ tell.cls, ∀ m mm f, tell.meths.lookup m = some mm → prog.meth p.2.1 m = some f → (He.Fa.meth p.1 mm).ok K = true ∧ ∃ D fd ps, prog.defs f = some D ∧ DefOk tell.gam K D (He.ma K (He.ga K p.1) mm) fd ps := by
    have cf : ∀ (i : Nat) (f : He.Fa), clf[i]? = some f → f.ok K = true := fun i f (h : clf[i]? = some f) => fm f (List.mem_append_right _ (List.mem_of_getElem? h))
    intro p hp m mm f hl hm
    have hp : p ∈ cls := hp
    simp only [cls, cls0, List.append_nil, List.cons_append, List.nil_append, List.mem_cons, List.not_mem_nil, or_false] at hp
    rcases hp with rfl
    · have hm : ((0, m), f) ∈ P09.meths := lookup_memG hm
      simp only [P09.meths, List.mem_cons, List.not_mem_nil, or_false, Prod.mk.injEq] at hm
      rcases hm with ⟨⟨h1, rfl⟩, rfl⟩ | ⟨⟨h1, rfl⟩, rfl⟩ | ⟨⟨h1, rfl⟩, rfl⟩ | ⟨⟨h1, rfl⟩, rfl⟩ | ⟨⟨h1, rfl⟩, rfl⟩ | ⟨⟨h1, rfl⟩, rfl⟩ | ⟨⟨h1, rfl⟩, rfl⟩ | ⟨⟨h1, rfl⟩, rfl⟩ | ⟨⟨h1, rfl⟩, rfl⟩ | ⟨⟨h1, rfl⟩, rfl⟩
      · have e : tell.meths.lookup 4 = some "source" := by rfl
        rw [e] at hl; cases hl
        obtain ⟨fd, F⟩ := c.def_ 52 rfl
        exact ⟨cf 7 _ rfl, P09.d_Frame_source, fd, _, by rfl, ok_7_1 F⟩
      · have e : tell.meths.lookup 5 = some "target" := by rfl
        rw [e] at hl; cases hl
        obtain ⟨fd, F⟩ := c.def_ 53 rfl
        exact ⟨cf 8 _ rfl, P09.d_Frame_target, fd, _, by rfl, ok_7_2 F⟩
      · have e : tell.meths.lookup 0 = some "behind" := by rfl
        rw [e] at hl; cases hl
        obtain ⟨fd, F⟩ := c.def_ 54 rfl
        exact ⟨cf 9 _ rfl, P09.d_Frame_behind, fd, _, by rfl, ok_7_3 F⟩
      · have e : tell.meths.lookup 1 = some "then" := by rfl
        rw [e] at hl; cases hl
        obtain ⟨fd, F⟩ := c.def_ 55 rfl
        exact ⟨cf 10 _ rfl, P09.d_Frame_then, fd, _, by rfl, ok_7_4 F⟩
      · have e : tell.meths.lookup 6 = some "row" := by rfl
        rw [e] at hl; cases hl
        obtain ⟨fd, F⟩ := c.def_ 56 rfl
        exact ⟨cf 11 _ rfl, P09.d_Frame_row, fd, _, by rfl, ok_7_5 F⟩
      · have e : tell.meths.lookup 7 = some "is_undone" := by rfl
        rw [e] at hl; cases hl
        obtain ⟨fd, F⟩ := c.def_ 57 rfl
        exact ⟨cf 12 _ rfl, P09.d_Frame_is_undone, fd, _, by rfl, ok_7_6 F⟩
      · have e : tell.meths.lookup 8 = some "has_inverse" := by rfl
        rw [e] at hl; cases hl
        obtain ⟨fd, F⟩ := c.def_ 58 rfl
        exact ⟨cf 13 _ rfl, P09.d_Frame_has_inverse, fd, _, by rfl, ok_7_7 F⟩
      · have e : tell.meths.lookup 2 = some "is_end" := by rfl
        rw [e] at hl; cases hl
        obtain ⟨fd, F⟩ := c.def_ 59 rfl
        exact ⟨cf 14 _ rfl, P09.d_Frame_is_end, fd, _, by rfl, ok_7_8 F⟩
      · have e : tell.meths.lookup 3 = some "is_last" := by rfl
        rw [e] at hl; cases hl
        obtain ⟨fd, F⟩ := c.def_ 60 rfl
        exact ⟨cf 15 _ rfl, P09.d_Frame_is_last, fd, _, by rfl, ok_7_9 F⟩
      · have e : tell.meths.lookup 9 = some "reached" := by rfl
        rw [e] at hl; cases hl
        obtain ⟨fd, F⟩ := c.def_ 61 rfl
        exact ⟨cf 16 _ rfl, P09.d_Frame_reached, fd, _, by rfl, ok_7_10 F⟩

theorem top_facts {P : Program} {w : World} {K : PySem.W.Frag} {h : Heap} {mg : PySem.Str → Option Value} (KX : K.In h) (G : h.Ns mainGlobals mg) (c : He.SaysX Hf.L09.fa Hf.L09.fn Hf.L09.ts [] Hf.L09.ex w h K) : Hf.TopOk Hf.L09.tell.gam Hf.L09.prog K mg w (Hf.L09.tell.d K w) ∧ Hf.NoLists K := by
  have fm : ∀ f, f ∈ Hf.L09.fa → f.ok K = true := fun f hf => c.t.d.facts hf
  have more : exB tell prog.sub (Hf.L09.ts.map fun t => t.1) K = true := c.more
  refine Hf.top_ok (t := tell) (P := prog) (ts := Hf.L09.ts.map fun t => t.1) KX G (by decide +kernel) (fun p hp => fm _ ?_) (fun p hp => ⟨fm _ ?_, fm _ ?_⟩) (fun x hx => fm _ ?_) more (fun f hf => ?_) (Hf.L09.hd c.t.d) (hcl fm) (hme c.t.d fm) (hin c.t.d)
  · exact List.mem_append_left _ (List.mem_append_left _ (List.mem_append_left _ (List.mem_append_left _ (List.mem_map.mpr ⟨p, hp, rfl⟩))))
  · exact List.mem_append_left _ (List.mem_append_left _ (List.mem_append_left _ (List.mem_append_right _ (List.mem_map.mpr ⟨p, hp, rfl⟩))))
  · exact List.mem_append_left _ (List.mem_append_left _ (List.mem_append_right _ (List.mem_map.mpr ⟨p, hp, rfl⟩)))
  · exact List.mem_append_left _ (List.mem_append_right _ (List.mem_map.mpr ⟨x, hx, rfl⟩))
  · obtain ⟨t, ht, rfl⟩ := List.mem_map.mp hf
    obtain ⟨i, hi, e⟩ := List.mem_iff_getElem.mp ht
    exact c.t.tab i (t := t) (by rw [List.getElem?_eq_getElem hi, e])
theorem facts {P : Program} {w : World} {K : PySem.W.Frag} {h : Heap} {mg : PySem.Str → Option Value} {f : Addr} (fuel : Nat) (law : ∀ ns : List Int, ns.length ≤ 63 → ∃ S', Hf.call Hf.L09.prog fuel 26 [.lst (ns.map .int)] [] = .ok (.bl true) S') (KX : K.In h) (G : h.Ns mainGlobals mg) (hfa : mg ("law" : PySem.Str) = some (.ref f)) (c : He.SaysX Hf.L09.fa Hf.L09.fn Hf.L09.ts [] Hf.L09.ex w h K) :
    ∃ (fd : FuncData) (sp : L2.Sp), Hf.NoLists K ∧ (∀ (s : Shared) (v : Value), BindsTo s fd ⟨[v], []⟩ [(("script" : PySem.Str), v)]) ∧
      (∀ (H : L2.Hp) (a : Addr) (ns : List Int), ns.length ≤ 63 → L2.Only H → L2.Rd H a (.lst (ns.map L2.V.int)) → sp [.ref a] H (fun v _ => v = .bl true) fun _ _ _ => False) ∧
      ∀ base : Heap, K.In base → base.Ns mainGlobals mg → Hf.FnG P w K mg base (2 * fuel) f fd ["script"] sp := by
  obtain ⟨tp, nl⟩ := top_facts (P := P) KX G c
  obtain ⟨fd, F⟩ := c.t.d.def_ 50 rfl
  have e := hfa.symm.trans (He.glo_ok KX G (c.t.d.facts (f := .glo "law") (List.mem_append_left _ (List.mem_append_left _ (List.mem_append_left _ (List.mem_append_left _ (List.mem_map.mpr ⟨("law", 26, 1), by decide +kernel, rfl⟩)))))))
  have e2 : f = He.ga K "law" := by injection e with e; injection e
  subst e2
  have b := L2.FunD.bindsA (ps := ["script"]) F fun _ _ _ _ _ _ us hl => match us, hl with | [_], _ => rfl
  have en : (Hf.sk [115, 99, 114, 105, 112, 116] : PySem.Str) = "script" := by decide +kernel
  have ok := Hf.L09.ok_62 F
  rw [en] at ok
  exact ⟨fd, Hf.spT (Hf.L09.tell.d K w) 1 (Hf.call Hf.L09.prog fuel 26), nl, fun s v => b s [v] rfl,
    fun H a ns hl hO hr => Hf.sp_law rfl (Nat.le_trans hl (by decide)) hO hr (law ns hl),
    fun base hb hg => Hf.fn_all tp fuel (f := 26) (D := P09.d_law) rfl ok⟩
end L09
end Hf
open PySem PySem.W PySem.Calls PyProof.Rows
theorem Hf.L09.holds_of (fuel : Nat) (hfu : fuel ≤ 110) (law : ∀ ns : List Int, ns.length ≤ 63 → ∃ S', Hf.call Hf.L09.prog fuel 26 [.lst (ns.map .int)] [] = .ok (.bl true) S') : PySem.Challenge.rw_henceforth_k09_stages_of_principles_in_f.Holds := by
  w_on; o_law
  refine HandSHeadRun.head_any (r := OpenLaw.row PySem.Challenge.rw_henceforth_k09_stages_of_principles_in_f) (q := PySem.W.view (PySem.W.OpenLaw.row PySem.Challenge.rw_henceforth_k09_stages_of_principles_in_f).prog [62]) (H := Hf.L09.hk) (ob := Hf.L09.ob) (M := 6000) (loose := Hf.L09.names) (d := HandSHeadRun.topDef (OpenLaw.row PySem.Challenge.rw_henceforth_k09_stages_of_principles_in_f).prog 62) (kwd := []) Hf.L09.ob_eq
    (by kernel_rfl) (fun s => by kernel_rfl) Hf.L09.run (by kernel_rfl) (by kernel_rfl) (by kernel_rfl) (by rfl) (by first | assumption | decide +kernel) (by decide +kernel) ⟨rfl, rfl, rfl, rfl, rfl, by decide +kernel⟩ ?hw ?hc
  case hw => w_witness2
  case hc =>
    refine Hf.walk_ofG (l := PySem.Challenge.rw_henceforth_k09_stages_of_principles_in_f) (n := 63) (k := 2 * fuel) (x := "script") rfl (by decide) (by kernel_rfl) ⟨rfl, by show 301 + 3 * (2 * fuel) + 5 < 1000; omega, by show 4 + 16 * (2 * fuel) + 200 < 9900; omega⟩ ?F (fun _ _ _ _ _ z => Hf.cx_none z)
    intro w mg fa h Y G hmg0
    obtain ⟨K, KX, c⟩ := Y
    have hmg : mg ("law" : PySem.Str) = some (.ref fa) := by
      have e : (HandSHeadRun.topDef (OpenLaw.row PySem.Challenge.rw_henceforth_k09_stages_of_principles_in_f).prog 62).name = ("law" : PySem.Str) := by kernel_rfl
      rw [← e]
      exact hmg0
    obtain ⟨fd, sp, nl, hb, hsp, hF⟩ := Hf.L09.facts (P := (PySem.Challenge.rw_henceforth_k09_stages_of_principles_in_f).prog) (w := w) fuel law KX G hmg c
    exact ⟨K, fd, sp, KX, nl, hb, hsp, hF⟩
end

section
set_option Elab.async false
set_option linter.all false
set_option maxRecDepth 100000
set_option maxHeartbeats 200000
/-! K09a: the plain law of k09: what can be reached, row by row. -/
namespace Hf
namespace K09
open P09
def sub (e c : Nat) : Bool := e == c || c == 0 || c == 11
def pr : Prog := ⟨fun f => P09.tab.lookup f, fun c m => P09.meths.lookup (c, m), fun c => P09.inits.lookup c, sub⟩
inductive Rch (ps : List (Nat × Nat)) : Nat → Nat → Prop where
  | refl (i : Nat) : Rch ps i i
  | step {i j k : Nat} : Rch ps i j → (j, k) ∈ ps → Rch ps i k
theorem Rch.trans {ps : List (Nat × Nat)} {i j k : Nat} (h : Rch ps i j) (h' : Rch ps j k) : Rch ps i k := by
  induction h' with
  | refl => exact h
  | step _ e ih => exact .step ih e
theorem Rch.mono {ps qs : List (Nat × Nat)} (hs : ∀ p ∈ ps, Rch qs p.1 p.2) {i j : Nat} (h : Rch ps i j) : Rch qs i j := by
  induction h with
  | refl => exact .refl _
  | step _ e ih => exact ih.trans (hs _ e)
theorem Rch.lt {ps : List (Nat × Nat)} {n : Nat} (hb : ∀ p ∈ ps, p.1 < n ∧ p.2 < n) {i j : Nat} (h : Rch ps i j) (hi : i < n) : j < n := by
  induction h with
  | refl => exact hi
  | step _ e _ => exact (hb _ e).2
open Classical in
noncomputable def rB (ps : List (Nat × Nat)) (i j : Nat) : Bool := decide (Rch ps i j)
theorem rB_iff {ps : List (Nat × Nat)} {i j : Nat} : rB ps i j = true ↔ Rch ps i j := by simp [rB]
/-- by way of the first m -/
def Pth (ps : List (Nat × Nat)) : Nat → Nat → Nat → Prop
  | 0, s, e => s = e ∨ (s, e) ∈ ps
  | m + 1, s, e => Pth ps m s e ∨ (Pth ps m s m ∧ Pth ps m m e)
theorem Pth.up {ps : List (Nat × Nat)} {s e : Nat} : ∀ {m : Nat}, Pth ps 0 s e → Pth ps m s e
  | 0, h => h
  | m + 1, h => .inl (Pth.up (m := m) h)
theorem Pth.trans {ps : List (Nat × Nat)} : ∀ (m k s e : Nat), k < m → Pth ps m s k → Pth ps m k e → Pth ps m s e
  | m + 1, k, s, e, hk, h1, h2 => by
    by_cases q : k = m
    · subst q
      have a : Pth ps k s k := by
        rcases h1 with h | h
        · exact h
        · exact h.1
      have b : Pth ps k k e := by
        rcases h2 with h | h
        · exact h
        · exact h.2
      exact .inr ⟨a, b⟩
    · have hk' : k < m := by omega
      rcases h1 with h1 | ⟨h1, h1'⟩
      · rcases h2 with h2 | ⟨h2, h2'⟩
        · exact .inl (Pth.trans m k s e hk' h1 h2)
        · exact .inr ⟨Pth.trans m k s m hk' h1 h2, h2'⟩
      · rcases h2 with h2 | ⟨h2, h2'⟩
        · exact .inr ⟨h1, Pth.trans m k m e hk' h1' h2⟩
        · exact .inr ⟨h1, h2'⟩
theorem Pth.all {ps : List (Nat × Nat)} {n : Nat} (hb : ∀ p ∈ ps, p.1 < n ∧ p.2 < n) {s e : Nat} (h : Rch ps s e) : Pth ps n s e := by
  induction h with
  | refl => exact Pth.up (.inl rfl)
  | step _ e ih => exact Pth.trans n _ _ _ (hb _ e).1 ih (Pth.up (.inr e))
/-! ### small defs -/
theorem c_between (n : Nat) (i lo hi : Int) (S : Store) : call pr (n + 1) 0 [.int i, .int lo, .int hi] S = .ok (.bl (decide (lo ≤ i) && decide (i ≤ hi))) S := by
  rw [call_of (d := d_is_between) rfl rfl]
  by_cases h : lo ≤ i <;> simp [d_is_between, startE, Ty.ev, h]
def prI (p : Int × Int) : T := .tup [.int p.1, .int p.2]
def prT (p : Nat × Nat) : T := .tup [.int p.1, .int p.2]
def okI (n : Int) (p : Int × Int) : Bool := (decide (0 ≤ p.1) && decide (p.1 ≤ n - 1)) && (decide (0 ≤ p.2) && decide (p.2 ≤ n - 1))
theorem c_arrow (m : Nat) (p : Int × Int) (n : Int) (S : Store) : call pr (m + 2) 1 [prI p, .int n] S = .ok (.bl (okI n p)) S := by
  rw [call_of (d := d_is_arrow) rfl rfl]
  have e : compLoop (fun _ => true) (turn pr (call pr (m + 1)) (make pr (m + 1)) [.val (prI p), .val (.int n), .no] (.call 0 [(.v 2), (.k (.int 0)), (.op .sub (.v 1) (.k (.int 1)))]) (.n 2)) ([p.1, p.2].map .int) S = .ok ([p.1, p.2].map fun i => T.bl (decide (0 ≤ i) && decide (i ≤ n - 1))) S :=
    compLoop_of rfl _ _ fun c _ => by simp [turn, c_between]
  simp [d_is_arrow, startE, Ty.ev, prI]
  rw [show (still (T.tup [.int p.1, .int p.2]) [.int p.1, .int p.2]) = fun _ => true from rfl]
  rw [show ([T.int p.1, T.int p.2]) = [p.1, p.2].map .int from rfl, show (T.tup ([p.1, p.2].map .int)) = prI p from rfl, e]
  have ea : ∀ x y : Bool, Bi.ev .all [.lst [.bl x, .bl y]] = some (.bl (x && y)) := fun x y => by cases x <;> cases y <;> rfl
  simp [okI, ea]
/-! ### the rows in the store -/
def row (n : Nat) (f : Nat → Bool) : List T := (List.range n).map fun j => T.bl (f j)
def Rw (n b : Nat) (L : Nat → Nat → Bool) (S : Store) : Prop := ∀ i, i < n → S[b + i]? = some (.lst (row n (L i)))
/-- only what lies behind b is changed -/
def Fr (b : Nat) (S S' : Store) : Prop := S'.length = S.length ∧ ∀ i, i < b → S'[i]? = S[i]?
theorem Fr.refl (b : Nat) (S : Store) : Fr b S S := ⟨rfl, fun _ _ => rfl⟩
theorem Fr.trans {b : Nat} {A B C : Store} (h : Fr b A B) (h' : Fr b B C) : Fr b A C := ⟨h'.1.trans h.1, fun i hi => (h'.2 i hi).trans (h.2 i hi)⟩
def refs (n b : Nat) : List T := (List.range n).map fun i => T.ref (b + i)
theorem atI_row {n : Nat} {f : Nat → Bool} {j : Nat} (h : j < n) : atI (row n f) (j : Int) = some (.bl (f j)) := by
  rw [atI_nat]; simp [row, h]
theorem atI_refs {n b : Nat} {j : Nat} (h : j < n) : atI (refs n b) (j : Int) = some (.ref (b + j)) := by
  rw [atI_nat]; simp [refs, h]
theorem row_set {n : Nat} {f : Nat → Bool} {j : Nat} (v : Bool) : (row n f).set j (.bl v) = row n (fun k => if k = j then v else f k) := by
  apply List.ext_getElem?
  intro i
  simp only [row, List.getElem?_set, List.getElem?_map, List.length_map, List.length_range]
  by_cases h : j = i
  · subst h
    by_cases hj : j < n <;> simp [hj]
  · have h' : ¬ i = j := fun e => h e.symm
    by_cases hi : i < n <;> simp [h, h', hi]
theorem Rw.look {n b : Nat} {L : Nat → Nat → Bool} {S : Store} (h : Rw n b L S) {i : Nat} (hi : i < n) : Hf.look S (.ref (b + i)) = .lst (row n (L i)) := look_at (h i hi)
def upd1 (L : Nat → Nat → Bool) (s e : Nat) (v : Bool) : Nat → Nat → Bool := fun i j => if i = s ∧ j = e then v else L i j
theorem Rw.set {n b : Nat} {L : Nat → Nat → Bool} {S : Store} (h : Rw n b L S) {s e : Nat} (hs : s < n) (v : Bool) : Rw n b (upd1 L s e v) (S.set (b + s) (.lst ((row n (L s)).set e (.bl v)))) ∧ Fr b S (S.set (b + s) (.lst ((row n (L s)).set e (.bl v)))) := by
  have hl : b + s < S.length := (List.getElem?_eq_some_iff.mp (h s hs)).1
  refine ⟨fun i hi => ?_, by simp, fun i hi => by rw [List.getElem?_set_ne (by omega)]⟩
  by_cases q : i = s
  · subst q
    rw [List.getElem?_set_self hl, row_set]
    have : (fun k => if k = e then v else L i k) = upd1 L i e v i := by funext k; simp [upd1]
    rw [this]
  · rw [List.getElem?_set_ne (by omega), h i hi]
    have : L i = upd1 L s e v i := by funext k; simp [upd1, q]
    rw [← this]
end K09
end Hf
end

section
set_option Elab.async false
set_option linter.all false
set_option maxRecDepth 100000
set_option maxHeartbeats 200000
/-! K09c: the plain law of k09: what order answers. -/
namespace Hf
namespace K09
open P09
@[simp] theorem data_prT (p : Nat × Nat) : (prT p).data = true := rfl
@[simp] theorem depth_prT (p : Nat × Nat) : (prT p).depth = 1 := rfl
theorem data_prTs (ps : List (Nat × Nat)) : T.dataAll (ps.map prT) = true := dataAll_of fun x hx => by
  obtain ⟨p, _, rfl⟩ := List.mem_map.mp hx; rfl
theorem depth_prTs (ps : List (Nat × Nat)) : T.depthAll (ps.map prT) ≤ 1 := depthAll_le fun x hx => by
  obtain ⟨p, _, rfl⟩ := List.mem_map.mp hx; exact Nat.le_refl _
@[simp] theorem eqv_prT (p q : Nat × Nat) : T.eqv (prT p) (prT q) = decide (p = q) := by
  obtain ⟨a, b⟩ := p
  obtain ⟨c, d⟩ := q
  simp only [prT, T.eqv, T.eqvAll, Bool.and_true]
  by_cases h1 : a = c <;> by_cases h2 : b = d <;> simp [h1, h2] <;> omega
theorem in_prT (p : Nat × Nat) (ps : List (Nat × Nat)) : inItems (prT p) (ps.map prT) = some (ps.contains p) := by
  unfold inItems
  have : min (T.depthAll (ps.map prT)) (prT p).depth ≤ eqLine := by rw [depth_prT]; unfold eqLine; omega
  rw [if_pos (by simp only [data_prT, data_prTs, Bool.and_self, this, decide_true])]
  congr 1
  rw [List.any_map, Bool.eq_iff_iff]
  simp
theorem idxOf_prT {A : List (Nat × Nat)} {p : Nat × Nat} (h : p ∈ A) : ∀ k, Hf.idxOf (prT p) (A.map prT) k = some (k + A.idxOf p) := by
  induction A with
  | nil => cases h
  | cons q A ih =>
    intro k
    simp only [List.map_cons, Hf.idxOf, eqv_prT, List.idxOf_cons]
    by_cases e : q = p
    · subst e; simp
    · have hp : p ∈ A := by
        rcases List.mem_cons.mp h with rfl | h
        · exact absurd rfl e
        · exact h
      have eb : (q == p) = false := by simpa using e
      simp [e, eb, ih hp]
      omega
theorem index_prT {A : List (Nat × Nat)} {p : Nat × Nat} (h : p ∈ A) : (T.lst (A.map prT)).index (prT p) = some (.int (A.idxOf p : Nat)) := by
  have h1 := depth_prTs A
  have h2 : T.depthAll (A.map prT) < eqLine := by unfold eqLine; omega
  have h3 : (prT p).depth ≤ eqLine := by rw [depth_prT]; decide
  unfold T.index
  simp only []
  rw [if_pos (by simp only [data_prT, data_prTs, Bool.and_self, h2, h3, decide_true])]
  rw [idxOf_prT h]
  simp
/-! ### the arrows and the table -/
def dg (n : Nat) : List (Nat × Nat) := (List.range n).map fun i => (i, i)
def more (n : Nat) (R : Nat → Nat → Bool) (i : Nat) : List (Nat × Nat) := ((List.range n).filter fun j => decide (i ≠ j) && R i j).map fun j => (i, j)
def arrsTo (n : Nat) (R : Nat → Nat → Bool) (k : Nat) : List (Nat × Nat) := dg n ++ (List.range k).flatMap (more n R)
def arrs (n : Nat) (R : Nat → Nat → Bool) : List (Nat × Nat) := arrsTo n R n
def entry (A : List (Nat × Nat)) (f g : Nat × Nat) : Int := if f.2 = g.1 then (A.idxOf (f.1, g.2) : Nat) else -1
def tbl (A : List (Nat × Nat)) : List (List Int) := A.map fun f => A.map fun g => entry A f g
theorem mem_arrs {n : Nat} {R : Nat → Nat → Bool} {p : Nat × Nat} (hr : ∀ i, R i i = true) : p ∈ arrs n R ↔ p.1 < n ∧ p.2 < n ∧ R p.1 p.2 = true := by
  obtain ⟨a, b⟩ := p
  simp only [arrs, arrsTo, dg, more, List.mem_append, List.mem_map, List.mem_range, List.mem_flatMap, List.mem_filter, Bool.and_eq_true, decide_eq_true_eq, Prod.mk.injEq]
  constructor
  · rintro (⟨i, hi, rfl, rfl⟩ | ⟨i, hi, j, ⟨hj, _, hR⟩, rfl, rfl⟩)
    · exact ⟨hi, hi, hr _⟩
    · exact ⟨hi, hj, hR⟩
  · rintro ⟨h1, h2, h3⟩
    by_cases e : a = b
    · exact .inl ⟨a, h1, rfl, e⟩
    · exact .inr ⟨a, h1, b, ⟨h2, e, h3⟩, rfl, rfl⟩
theorem len_range_filter (n : Nat) (p : Nat → Bool) : ((List.range n).filter p).length ≤ n := by
  have := List.length_filter_le p (List.range n)
  simpa using this
theorem len_flat (n : Nat) (R : Nat → Nat → Bool) : ∀ k, ((List.range k).flatMap (more n R)).length ≤ k * n
  | 0 => by simp
  | k + 1 => by
    have h1 := len_flat n R k
    have h2 := len_range_filter n (fun j => decide (k ≠ j) && R k j)
    rw [List.range_succ, List.flatMap_append, List.length_append, Nat.succ_mul]
    simp only [List.flatMap_cons, List.flatMap_nil, List.append_nil, more, List.length_map]
    omega
theorem arrs_small {n : Nat} (R : Nat → Nat → Bool) (hn : n ≤ 6) : (arrs n R).length ≤ 42 := by
  have h := len_flat n R n
  simp only [arrs, arrsTo, dg, List.length_append, List.length_map, List.length_range]
  have : n * n ≤ 6 * 6 := Nat.mul_le_mul hn hn
  omega
/-! ### order, statement by statement -/
section
variable (m : Nat)
abbrev cf := call pr (m + 2)
abbrev mk := make pr (m + 2)
end
end K09
end Hf
end

section
set_option Elab.async false
set_option linter.all false
set_option maxRecDepth 100000
set_option maxHeartbeats 200000
/-! K09d: the plain law of k09: what order answers. -/
namespace Hf
namespace K09
open P09
def f0 (ps : List (Nat × Nat)) (i j : Nat) : Bool := decide (i = j) || ps.contains (i, j)
def ledE : E := .cell (.comp (.or (.cmp .eq (.v 5) (.v 8)) (.cmp .isin (.tup [(.v 5), (.v 8)]) (.v 1))) (.n 8) (.rng (.v 0)))
def zts (n : Nat) : List T := (List.range n).map fun (k : Nat) => T.int (k : Int)
@[simp] theorem rangeL_ints (n : Nat) : rangeL 0 (n : Int) = zts n := rangeL_nat n
@[simp] theorem still_ints (n : Nat) (xs : List T) : still (T.lst xs) xs = fun _ => true := rfl
section
variable (m : Nat) (n : Nat) (ps : List (Nat × Nat))
theorem flat_succ (n : Nat) (R : Nat → Nat → Bool) (k : Nat) : arrsTo n R (k + 1) = arrsTo n R k ++ more n R k := by
  simp [arrsTo, List.range_succ, List.flatMap_append]
def rowI (r : List Int) : T := .tup (r.map .int)
def tblT (A : List (Nat × Nat)) : List T := (tbl A).map rowI
end
end K09
end Hf
end

section
set_option Elab.async false
set_option linter.all false
set_option maxRecDepth 100000
set_option maxHeartbeats 400000
/-! K09e: the plain law of k09: order answers the category of what can be reached. -/
namespace Hf
namespace K09
open P09
def ordT (n : Nat) (A : List (Nat × Nat)) : T := .tup [.int n, .tup (A.map prT), .tup (tblT A)]
section
variable (m : Nat) (n : Nat) (ps : List (Nat × Nat))
theorem rB_refl (i : Nat) : rB ps i i = true := rB_iff.mpr (.refl i)
theorem arrs_closed (n : Nat) : ∀ f ∈ arrs n (rB ps), ∀ g ∈ arrs n (rB ps), f.2 = g.1 → (f.1, g.2) ∈ arrs n (rB ps) := fun f hf g hg e => by
  rw [mem_arrs (rB_refl ps)] at *
  refine ⟨hf.1, hg.2.1, rB_iff.mpr ?_⟩
  have a := rB_iff.mp hf.2.2
  have b := rB_iff.mp hg.2.2
  rw [e] at a
  exact a.trans b
theorem okI_nat {n : Nat} {p : Nat × Nat} (h : p.1 < n ∧ p.2 < n) : okI n ((p.1 : Int), (p.2 : Int)) = true := by
  simp only [okI, Bool.and_eq_true, decide_eq_true_eq]
  omega
end
end K09
end Hf
end

section
set_option Elab.async false
set_option linter.all false
set_option maxRecDepth 100000
set_option maxHeartbeats 200000
/-! K09f: the plain law of k09: the law's own way to what can be reached. -/
namespace Hf
theorem mem_insI (i x : Int) : ∀ l : List Int, x ∈ insI i l ↔ x = i ∨ x ∈ l
  | [] => by simp [insI]
  | j :: r => by
    unfold insI
    split
    · simp
    · simp [mem_insI i x r]
      constructor
      · rintro (h | h | h)
        · exact .inr (.inl h)
        · exact .inl h
        · exact .inr (.inr h)
      · rintro (h | h | h)
        · exact .inr (.inl h)
        · exact .inl h
        · exact .inr (.inr h)
theorem insI_lt (i : Int) : ∀ l : List Int, l.Pairwise (· < ·) → i ∉ l → (insI i l).Pairwise (· < ·)
  | [], _, _ => by simp [insI]
  | j :: r, h, hi => by
    unfold insI
    rw [List.pairwise_cons] at h
    have hij : i ≠ j := fun e => hi (by simp [e])
    split
    · rename_i hle
      rw [List.pairwise_cons]
      refine ⟨fun x hx => ?_, List.pairwise_cons.mpr h⟩
      rcases List.mem_cons.mp hx with rfl | hx
      · omega
      · have := h.1 x hx; omega
    · rename_i hle
      rw [List.pairwise_cons]
      refine ⟨fun x hx => ?_, insI_lt i r h.2 fun q => hi (List.mem_cons_of_mem _ q)⟩
      rcases (mem_insI i x r).mp hx with rfl | hx
      · omega
      · exact h.1 x hx
theorem sortI_lt : ∀ l : List Int, l.Nodup → (sortI l).Pairwise (· < ·) ∧ ∀ x, x ∈ sortI l ↔ x ∈ l
  | [], _ => by simp [sortI]
  | i :: l, h => by
    rw [List.nodup_cons] at h
    obtain ⟨h1, h2⟩ := sortI_lt l h.2
    have e : sortI (i :: l) = insI i (sortI l) := rfl
    rw [e]
    refine ⟨insI_lt i _ h1 fun q => h.1 ((h2 i).mp q), fun x => ?_⟩
    rw [mem_insI, h2, List.mem_cons]
theorem lt_unique : ∀ {l l' : List Int}, l.Pairwise (· < ·) → l'.Pairwise (· < ·) → (∀ x, x ∈ l ↔ x ∈ l') → l = l'
  | [], [], _, _, _ => rfl
  | [], x :: l', _, _, h => by have := (h x).mpr (by simp); cases this
  | x :: l, [], _, _, h => by have := (h x).mp (by simp); cases this
  | x :: l, y :: l', h1, h2, h => by
    rw [List.pairwise_cons] at h1 h2
    have e : x = y := by
      rcases List.mem_cons.mp ((h x).mp (by simp)) with e | q
      · exact e
      · rcases List.mem_cons.mp ((h y).mpr (by simp)) with e | q'
        · exact e.symm
        · have a := h1.1 y q'
          have b := h2.1 x q
          omega
    subst e
    congr 1
    refine lt_unique h1.2 h2.2 fun z => ?_
    constructor
    · intro hz
      rcases List.mem_cons.mp ((h z).mp (List.mem_cons_of_mem _ hz)) with rfl | q
      · have := h1.1 z hz; omega
      · exact q
    · intro hz
      rcases List.mem_cons.mp ((h z).mpr (List.mem_cons_of_mem _ hz)) with rfl | q
      · have := h2.1 z hz; omega
      · exact q
theorem intsOf_map (is : List Int) : intsOf (is.map .int) = some is := by
  induction is with
  | nil => rfl
  | cons i is ih => simp [intsOf, ih]
namespace K09
open P09
def flI (n : Nat) (p : Nat → Bool) : List Int := ((List.range n).filter p).map fun (j : Nat) => (j : Int)
def fl (n : Nat) (p : Nat → Bool) : List T := (flI n p).map .int
theorem mem_flI {n : Nat} {p : Nat → Bool} {x : Int} : x ∈ flI n p ↔ ∃ j : Nat, j < n ∧ p j = true ∧ x = j := by
  simp only [flI, List.mem_map, List.mem_filter, List.mem_range]
  constructor
  · rintro ⟨j, ⟨h1, h2⟩, rfl⟩; exact ⟨j, h1, h2, rfl⟩
  · rintro ⟨j, h1, h2, rfl⟩; exact ⟨j, ⟨h1, h2⟩, rfl⟩
theorem flI_lt (n : Nat) (p : Nat → Bool) : (flI n p).Pairwise (· < ·) := by
  unfold flI
  rw [List.pairwise_map]
  refine List.Pairwise.imp (fun h => ?_) (List.Pairwise.filter _ List.pairwise_lt_range)
  omega
theorem sort_fl {n : Nat} {p : Nat → Bool} {b : Nat} (hb : b < n) (h : p b = false) : (T.lst (fl n p ++ [.int b])).sorted = some (.lst (fl n fun k => if k = b then true else p k)) := by
  have e : fl n p ++ [T.int b] = (flI n p ++ [(b : Int)]).map .int := by simp [fl]
  rw [e]
  simp only [T.sorted, intsOf_map, Option.map_some]
  congr 2
  unfold fl
  congr 1
  have hnb : (b : Int) ∉ flI n p := fun q => by
    obtain ⟨j, _, h2, h3⟩ := mem_flI.mp q
    have : b = j := by omega
    subst this
    rw [h] at h2; cases h2
  have nd : (flI n p ++ [(b : Int)]).Nodup := by
    rw [List.nodup_append]
    refine ⟨List.Pairwise.imp (fun h => by omega) (flI_lt n p), by simp, fun x hx y hy => ?_⟩
    simp at hy
    subst hy
    exact fun e => hnb (e ▸ hx)
  obtain ⟨h1, h2⟩ := sortI_lt _ nd
  refine lt_unique h1 (flI_lt _ _) fun x => ?_
  rw [h2, List.mem_append, mem_flI, mem_flI, List.mem_singleton]
  constructor
  · rintro (⟨j, a1, a2, rfl⟩ | rfl)
    · exact ⟨j, a1, by simp [a2], rfl⟩
    · exact ⟨b, hb, by simp, rfl⟩
  · rintro ⟨j, a1, a2, rfl⟩
    by_cases q : j = b
    · exact .inr (by rw [q])
    · exact .inl ⟨j, a1, by simpa [q] using a2, rfl⟩
theorem fl_data (n : Nat) (p : Nat → Bool) : T.dataAll (fl n p) = true ∧ T.depthAll (fl n p) = 0 := by
  unfold fl
  generalize flI n p = l
  induction l with
  | nil => exact ⟨rfl, rfl⟩
  | cons i l ih => simp [T.dataAll, T.depthAll, ih.1, ih.2, T.data, T.depth]
theorem in_fl {n : Nat} {p : Nat → Bool} {a : Nat} (ha : a < n) : inItems (.int a) (fl n p) = some (p a) := by
  obtain ⟨h1, h2⟩ := fl_data n p
  unfold inItems
  rw [if_pos (by rw [h1, h2]; simp)]
  congr 1
  rw [Bool.eq_iff_iff, List.any_eq_true]
  constructor
  · rintro ⟨x, hx, he⟩
    obtain ⟨i, hi, rfl⟩ := List.mem_map.mp hx
    obtain ⟨j, a1, a2, rfl⟩ := mem_flI.mp hi
    have : (j : Int) = a := by simpa using he
    have : j = a := by omega
    subst this; exact a2
  · intro h
    exact ⟨.int a, List.mem_map.mpr ⟨a, mem_flI.mpr ⟨a, ha, h, rfl⟩, rfl⟩, by simp⟩
def rws (n : Nat) (M : Nat → Nat → Bool) : List T := (List.range n).map fun i => T.lst (fl n (M i))
theorem atI_rws {n : Nat} {M : Nat → Nat → Bool} {i : Nat} (h : i < n) : atI (rws n M) (i : Int) = some (.lst (fl n (M i))) := by
  rw [atI_nat]; simp [rws, h]
theorem rws_set {n : Nat} {M : Nat → Nat → Bool} {i b : Nat} : (rws n M).set i (.lst (fl n fun k => if k = b then true else M i k)) = rws n (upd1 M i b true) := by
  apply List.ext_getElem?
  intro j
  simp only [rws, List.getElem?_set, List.getElem?_map, List.length_map, List.length_range]
  by_cases h : i = j
  · subst h
    have : (fun k => if k = b then true else M i k) = upd1 M i b true i := by funext k; simp [upd1]
    rw [this]
    by_cases hj : i < n <;> simp [hj]
  · have : M j = upd1 M i b true j := by funext k; simp [upd1]; omega
    by_cases hj : j < n <;> simp [h, hj, ← this]
theorem upd1_self {M : Nat → Nat → Bool} {i b : Nat} {v : Bool} (h : M i b = v) : upd1 M i b v = M := by
  funext x y
  unfold upd1
  split
  · rename_i q; rw [q.1, q.2, h]
  · rfl
/-! ### the turns -/
theorem filter_mono {p q : Nat → Bool} : ∀ {l : List Nat}, (∀ x ∈ l, p x = true → q x = true) → (l.filter p).length ≤ (l.filter q).length
  | [], _ => by simp
  | x :: l, h => by
    have ih := filter_mono (l := l) fun y hy => h y (List.mem_cons_of_mem _ hy)
    have hx := h x (List.mem_cons_self ..)
    cases a : p x with
    | false => cases b : q x <;> simp [a, b] <;> omega
    | true => simp [a, hx a]; exact ih
theorem filter_more {p q : Nat → Bool} : ∀ {l : List Nat}, (∀ x ∈ l, p x = true → q x = true) → (∃ x ∈ l, q x = true ∧ p x = false) → (l.filter p).length + 1 ≤ (l.filter q).length
  | [], _, ⟨_, h, _⟩ => by cases h
  | x :: l, h, ⟨y, hy, h1, h2⟩ => by
    have hm := filter_mono (l := l) fun y hy => h y (List.mem_cons_of_mem _ hy)
    have hx := h x (List.mem_cons_self ..)
    rcases List.mem_cons.mp hy with rfl | hy
    · simp [h1, h2]; exact hm
    · have ih := filter_more (l := l) (fun y hy => h y (List.mem_cons_of_mem _ hy)) ⟨y, hy, h1, h2⟩
      cases a : p x with
      | false => cases b : q x <;> simp [a, b] <;> omega
      | true => simp [a, hx a]; omega
section
variable (cf mk : Nat → List T → Store → Res T) (ps : List (Nat × Nat)) (n : Nat) (M0 : Nat → Nat → Bool) (S : Store) (x0 x3 : Slot)
end
end K09
end Hf
end

section
set_option Elab.async false
set_option linter.all false
set_option maxRecDepth 100000
set_option maxHeartbeats 200000
/-! K09g: the plain law of k09: the law's reach and its category. -/
namespace Hf
namespace K09
open P09
theorem fl_map (n : Nat) (p : Nat → Bool) : fl n p = ((List.range n).filter p).map fun (j : Nat) => T.int (j : Int) := by
  simp [fl, flI, Function.comp_def]
theorem fl_one {n i : Nat} (h : i < n) : fl n (fun j => decide (i = j)) = [.int i] := by
  have : flI n (fun j => decide (i = j)) = [(i : Int)] := lt_unique (flI_lt _ _) (by simp) fun x => by
    rw [mem_flI]
    constructor
    · rintro ⟨j, _, h2, rfl⟩
      have : i = j := by simpa using h2
      simp [this]
    · intro hx
      have : x = i := by simpa using hx
      exact ⟨i, h, by simp, this⟩
  simp [fl, this]
section
variable (m : Nat) (n : Nat) (ps : List (Nat × Nat))
def cnt (n : Nat) (p : Nat → Bool) : Nat := ((List.range n).filter p).length
/-! ### the law's category of what can be reached -/
theorem ord_arrows (hn : n ≤ 6) (R : Nat → Nat → Bool) (S : Store) (x3 x4 x5 x6 x7 x8 : Slot) : ∃ y3, forLoop (fun _ => true) (goS pr (call pr m) (make pr m) (.n 3) d_l_ordered_b1) (zts n) [.val (.lst (rws n R)), .val (.int n), .val (.lst ((dg n).map prT)), x3, x4, x5, x6, x7, x8] S = .nx [.val (.lst (rws n R)), .val (.int n), .val (.lst ((arrs n R).map prT)), y3, x4, x5, x6, x7, x8] S := by
  obtain ⟨r', S', e, ⟨y3, rfl⟩, rfl⟩ := forS_inv (g := fun _ => true) (f := goS pr (call pr m) (make pr m) (.n 3) d_l_ordered_b1) (fun (k : Nat) => T.int (k : Int)) (fun k r S' => (∃ x3, r = [.val (.lst (rws n R)), .val (.int n), .val (.lst ((arrsTo n R k).map prT)), x3, x4, x5, x6, x7, x8]) ∧ S' = S) (fun _ => rfl) (List.range n) 0 [.val (.lst (rws n R)), .val (.int n), .val (.lst ((dg n).map prT)), x3, x4, x5, x6, x7, x8] S (fun j x hx r S' hI => by
    obtain ⟨hj, rfl⟩ := range_get hx
    obtain ⟨⟨x3, rfl⟩, rfl⟩ := hI
    rw [Nat.zero_add]
    refine ⟨_, _, ?_, ⟨.val (.int x), rfl⟩, rfl⟩
    have ei : compLoop (fun _ => true) (turnI pr (call pr m) (make pr m) [.val (.lst (rws n R)), .val (.int n), .val (.lst ((arrsTo n R x).map prT)), .val (.int x), x4, x5, x6, x7, x8] (.tup [(.v 3), (.v 8)]) (.n 8) (.cmp .ne (.v 8) (.v 3))) (fl n (R x)) S' = .ok ((more n R x).map prT) S' := by
      have := compLoop_ofI (g := fun _ => true) (f := turnI pr (call pr m) (make pr m) [.val (.lst (rws n R)), .val (.int n), .val (.lst ((arrsTo n R x).map prT)), .val (.int x), x4, x5, x6, x7, x8] (.tup [(.v 3), (.v 8)]) (.n 8) (.cmp .ne (.v 8) (.v 3))) (S := S') rfl (fun (k : Nat) => T.int (k : Int)) (fun j => decide (x ≠ j)) (fun j => prT (x, j)) (xs := (List.range n).filter (R x)) fun j hj' => by
        by_cases q : (j : Int) = x
        · have q' : x = j := by omega
          simp [turnI, q, q']
        · have q' : ¬ x = j := by omega
          simp [turnI, q, q', prT]
      rw [fl_map, this, List.filter_filter]
      simp [more, List.map_map, Function.comp_def]
    have hs : (arrsTo n R x).length + (more n R x).length ≤ sizeLim := by
      have h1 := len_flat n R x
      have h2 := len_range_filter n (fun j => decide (x ≠ j) && R x j)
      simp only [arrsTo, dg, more, List.length_map, List.length_append, List.length_range, sizeLim]
      have : x * n ≤ 6 * 6 := Nat.mul_le_mul (by omega) hn
      omega
    simp [goS, d_l_ordered_b1, atI_rws hj]
    rw [ei]
    simp [hs, flat_succ]) ⟨⟨x3, by simp [arrsTo]⟩, rfl⟩
  exact ⟨y3, by rw [Nat.zero_add, List.length_range] at e; exact e⟩
theorem ord_table {A : List (Nat × Nat)} (hA : A.length ≤ 1000) (hc : ∀ f ∈ A, ∀ g ∈ A, f.2 = g.1 → (f.1, g.2) ∈ A) (S : Store) (x0 x1 x3 x5 x6 x7 x8 : Slot) : ∃ y5 y6 y7, forLoop (fun _ => true) (goS pr (call pr m) (make pr m) (.n 5) d_l_ordered_b3) (A.map prT) [x0, x1, .val (.lst (A.map prT)), x3, .own [], x5, x6, x7, x8] S = .nx [x0, x1, .val (.lst (A.map prT)), x3, .own (tblT A), y5, y6, y7, x8] S := by
  obtain ⟨r', S', e, ⟨y5, y6, y7, rfl⟩, rfl⟩ := forS_inv (g := fun _ => true) (f := goS pr (call pr m) (make pr m) (.n 5) d_l_ordered_b3) prT (fun k r S' => (∃ x5 x6 x7, r = [x0, x1, .val (.lst (A.map prT)), x3, .own ((tblT A).take k), x5, x6, x7, x8]) ∧ S' = S) (fun _ => rfl) A 0 [x0, x1, .val (.lst (A.map prT)), x3, .own [], x5, x6, x7, x8] S (fun j f hf r S' hI => by
    obtain ⟨⟨x5, x6, x7, rfl⟩, rfl⟩ := hI
    rw [Nat.zero_add]
    have hj : j < A.length := (List.getElem?_eq_some_iff.mp hf).1
    have hfm := List.mem_of_getElem? hf
    obtain ⟨r2, S2, e2, ⟨y7, rfl⟩, rfl⟩ := forS_inv (g := fun _ => true) (f := goS pr (call pr m) (make pr m) (.n 7) d_l_ordered_b2) prT (fun k r S2 => (∃ x7, r = [x0, x1, .val (.lst (A.map prT)), x3, .own ((tblT A).take j), .val (prT f), .own ((A.map fun g => T.int (entry A f g)).take k), x7, x8]) ∧ S2 = S') (fun _ => rfl) A 0 [x0, x1, .val (.lst (A.map prT)), x3, .own ((tblT A).take j), .val (prT f), .own [], x7, x8] S' (fun i g hg r S2 hI => by
      obtain ⟨⟨x7, rfl⟩, rfl⟩ := hI
      rw [Nat.zero_add]
      have hi : i < A.length := (List.getElem?_eq_some_iff.mp hg).1
      have hgm := List.mem_of_getElem? hg
      refine ⟨_, _, ?_, ⟨.val (prT g), rfl⟩, rfl⟩
      have hr : (A.map fun g => T.int (entry A f g))[i]? = some (T.int (entry A f g)) := by simp [hg]
      have ht : (A.map fun g => T.int (entry A f g)).take (i + 1) = (A.map fun g => T.int (entry A f g)).take i ++ [T.int (entry A f g)] := by
        rw [List.take_add_one, hr]; rfl
      rw [ht]
      generalize hu : (A.map fun g => T.int (entry A f g)).take i = u
      have hs : u.length < sizeLim := by
        rw [← hu, List.length_take]
        unfold sizeLim; omega
      by_cases q : (f.2 : Int) = g.1
      · have q' : f.2 = g.1 := by omega
        have hx := index_prT (hc f hfm g hgm q')
        simp only [prT] at hx
        simp [goS, d_l_ordered_b2, prT, q, entry, q', hx, hs]
      · have q' : ¬ f.2 = g.1 := by omega
        simp [goS, d_l_ordered_b2, prT, q, entry, q', hs]) ⟨⟨x7, by simp⟩, rfl⟩
    have hfull : (A.map fun g => T.int (entry A f g)).take (0 + A.length) = A.map fun g => T.int (entry A f g) := by
      rw [Nat.zero_add, show A.length = (A.map fun g => T.int (entry A f g)).length by simp, List.take_length]
    rw [hfull] at e2
    refine ⟨_, _, ?_, ⟨.val (prT f), .own (A.map fun g => T.int (entry A f g)), y7, rfl⟩, rfl⟩
    have hr : (tblT A)[j]? = some (.tup (A.map fun g => .int (entry A f g))) := by simp [tblT, tbl, hf, rowI, Function.comp_def]
    have ht : (tblT A).take (j + 1) = (tblT A).take j ++ [.tup (A.map fun g => .int (entry A f g))] := by
      rw [List.take_add_one, hr]; rfl
    rw [ht]
    generalize hu : (tblT A).take j = u at *
    have hs : u.length < sizeLim := by
      rw [← hu, List.length_take]
      unfold sizeLim; omega
    simp [goS, d_l_ordered_b3]
    rw [e2]
    simp [hs]) ⟨⟨x5, x6, x7, by simp⟩, rfl⟩
  refine ⟨y5, y6, y7, ?_⟩
  rw [Nat.zero_add] at e
  rw [e]
  have : (tblT A).take A.length = tblT A := by rw [show A.length = (tblT A).length by simp [tblT, tbl]]; simp
  rw [this]
theorem ordered_ok (hn : n ≤ 6) (S : Store) : call pr (m + 1) 13 [.lst (rws n (rB ps))] S = .ok (ordT n (arrs n (rB ps))) S := by
  rw [call_of (d := d_l_ordered) rfl rfl]
  have g := rng_nat (n := n) (by omega)
  obtain ⟨y3, e1⟩ := ord_arrows m n hn (rB ps) S .no .no .no .no .no .no
  obtain ⟨y5, y6, y7, e2⟩ := ord_table m (A := arrs n (rB ps)) (by have := arrs_small (rB ps) hn; omega) (arrs_closed ps n) S (.val (.lst (rws n (rB ps)))) (.val (.int n)) y3 .no .no .no .no
  have hl : (rws n (rB ps)).length = n := by simp [rws]
  have key : exs pr (call pr m) (make pr m) d_l_ordered.body [.val (.lst (rws n (rB ps))), .no, .no, .no, .no, .no, .no, .no, .no] S = .ret (ordT n (arrs n (rB ps))) S := by
    simp only [d_l_ordered]
    refine (exs_nx (r' := [.val (.lst (rws n (rB ps))), .val (.int n), .no, .no, .no, .no, .no, .no, .no]) (S' := S) ?_).trans ?_
    · simp [hl]
    refine (exs_nx (r' := [.val (.lst (rws n (rB ps))), .val (.int n), .val (.lst ((dg n).map prT)), .no, .no, .no, .no, .no, .no]) (S' := S) ?_).trans ?_
    · have : compLoop (fun _ => true) (turn pr (call pr m) (make pr m) [.val (.lst (rws n (rB ps))), .val (.int n), .no, .no, .no, .no, .no, .no, .no] (.tup [(.v 3), (.v 3)]) (.n 3)) (zts n) S = .ok ((List.range n).map fun i => prT (i, i)) S :=
        compLoop_of rfl _ _ fun j _ => by simp [turn, prT]
      simp [g.1, g.2]
      rw [this]
      simp [dg, Function.comp_def]
    refine (exs_nx (r' := [.val (.lst (rws n (rB ps))), .val (.int n), .val (.lst ((arrs n (rB ps)).map prT)), y3, .no, .no, .no, .no, .no]) (S' := S) ?_).trans ?_
    · simp [g.1, g.2]
      exact e1
    refine (exs_nx (r' := [.val (.lst (rws n (rB ps))), .val (.int n), .val (.lst ((arrs n (rB ps)).map prT)), y3, .own [], .no, .no, .no, .no]) (S' := S) ?_).trans ?_
    · simp
    refine (exs_nx (r' := [.val (.lst (rws n (rB ps))), .val (.int n), .val (.lst ((arrs n (rB ps)).map prT)), y3, .own (tblT (arrs n (rB ps))), y5, y6, y7, .no]) (S' := S) ?_).trans ?_
    · simp
      exact e2
    refine exs_ret ?_
    simp [ordT]
  exact congrArg SRes.fin key
end
end K09
end Hf
end

section
set_option Elab.async false
set_option linter.all false
set_option maxRecDepth 100000
set_option maxHeartbeats 200000
/-! K09h: the plain law of k09: what a category is, and that the program takes it for one. -/
namespace Hf
namespace K09
open P09
def ar (A : List (Nat × Nat)) (f : Nat) : Nat × Nat := A.getD f (0, 0)
def rwt (tb : List (List Int)) (f : Nat) : List Int := tb.getD f []
def en (tb : List (List Int)) (f g : Nat) : Int := (rwt tb f).getD g 0
def catT (n : Nat) (A : List (Nat × Nat)) (tb : List (List Int)) : T := .tup [.int n, .tup (A.map prT), .tup (tb.map rowI)]
structure Cat (n : Nat) (A : List (Nat × Nat)) (tb : List (List Int)) : Prop where
  n1 : 1 ≤ n
  n6 : n ≤ 6
  nA : n ≤ A.length
  A24 : A.length ≤ 24
  lt : ∀ f, f < A.length → (ar A f).1 < n ∧ (ar A f).2 < n
  id : ∀ i, i < n → ar A i = (i, i)
  tl : tb.length = A.length
  rl : ∀ f, f < A.length → (rwt tb f).length = A.length
  no : ∀ f g, f < A.length → g < A.length → (ar A f).2 ≠ (ar A g).1 → en tb f g = -1
  cm : ∀ f g, f < A.length → g < A.length → (ar A f).2 = (ar A g).1 → ∃ k : Nat, k < A.length ∧ en tb f g = k ∧ ar A k = ((ar A f).1, (ar A g).2) ∧ (f < n → k = g) ∧ (g < n → k = f)
  as : ∀ f g h, f < A.length → g < A.length → h < A.length → (ar A f).2 = (ar A g).1 → (ar A g).2 = (ar A h).1 → en tb (en tb f g).toNat h = en tb f (en tb g h).toNat
section
variable {n : Nat} {A : List (Nat × Nat)} {tb : List (List Int)}
theorem at_ar {f : Nat} (h : f < A.length) : A[f]? = some (ar A f) := by simp [ar, h]
theorem atI_ar {f : Nat} (h : f < A.length) : atI (A.map prT) (f : Int) = some (prT (ar A f)) := by
  rw [atI_nat]; simp [ar, h]
theorem atI_tb (hc : Cat n A tb) {f : Nat} (h : f < A.length) : atI (tb.map rowI) (f : Int) = some (rowI (rwt tb f)) := by
  rw [atI_nat]
  have : f < tb.length := by rw [hc.tl]; exact h
  simp [this, rwt]
theorem atI_row2 (hc : Cat n A tb) {f g : Nat} (h : f < A.length) (h' : g < A.length) : atI ((rwt tb f).map T.int) (g : Int) = some (.int (en tb f g)) := by
  rw [atI_nat]
  have : g < (rwt tb f).length := by rw [hc.rl f h]; exact h'
  rw [List.getElem?_map, List.getElem?_eq_getElem this]
  simp only [Option.map_some, en]
  congr 2
  rw [List.getD_eq_getElem?_getD (l := rwt tb f), List.getElem?_eq_getElem this]; rfl
theorem eqs_prT (p q : Nat × Nat) : T.eqs (prT p) (prT q) = some (decide (p = q)) := by
  rw [eqs_of rfl rfl (.inl (by rw [depth_prT]; omega)), eqv_prT]
theorem map_range {α β : Type} (t : α → β) (d : α) (A : List α) : A.map t = (List.range A.length).map fun i => t (A.getD i d) := by
  apply List.ext_getElem?
  intro i
  by_cases h : i < A.length <;> simp [h]
theorem enumL_map {α : Type} (t : α → T) (d : α) : ∀ (A : List α) (k : Nat), enumL k (A.map t) = (List.range A.length).map fun i => T.tup [.int ((k + i : Nat) : Int), t (A.getD i d)]
  | [], k => rfl
  | x :: A, k => by
    have ih := enumL_map t d A (k + 1)
    simp only [List.map_cons, enumL, List.length_cons, List.range_succ_eq_map]
    rw [ih]
    simp only [List.map_cons, List.map_map, Function.comp_def]
    congr 1
    apply List.map_congr_left
    intro i _
    simp only [List.getD_cons_succ]
    rw [show k + 1 + i = k + (i + 1) by omega]
theorem c_shape (m : Nat) (hc : Cat n A tb) (S : Store) : call pr (m + 3) 2 [catT n A tb] S = .ok (.bl true) S := by
  rw [call_of (d := d_has_shape) rfl rfl]
  have g := rng_nat (n := n) (by have := hc.n6; omega)
  have h1 : (1 : Int) ≤ n := by have := hc.n1; omega
  have h2 : (n : Int) ≤ 6 := by have := hc.n6; omega
  have h3 : (n : Int) ≤ A.length := by have := hc.nA; omega
  have h4 : (A.length : Int) ≤ 24 := by have := hc.A24; omega
  have cb := c_between (m + 1) n 1 6 S
  have ea : compLoop (fun _ => true) (turn pr (call pr (m + 2)) (make pr (m + 2)) [.val (catT n A tb), .val (.int n), .val (.tup (A.map prT)), .val (.tup (tb.map rowI)), .no, .no, .no] (.call 1 [(.v 5), (.v 1)]) (.n 5)) (A.map prT) S = .ok (A.map fun p => T.bl (okI n ((p.1 : Int), (p.2 : Int)))) S :=
    compLoop_of rfl _ _ fun p _ => by
      have := c_arrow m ((p.1 : Int), (p.2 : Int)) n S
      rw [show prI ((p.1 : Int), (p.2 : Int)) = prT p from rfl] at this
      simp [turn, this]
  have ha : A.all (fun p => okI n ((p.1 : Int), (p.2 : Int))) = true := by
    rw [List.all_eq_true]
    intro p hp
    obtain ⟨f, hf, e⟩ := List.mem_iff_getElem.mp hp
    have := hc.lt f hf
    rw [show ar A f = p by simp [ar, hf, e]] at this
    exact okI_nat this
  have eb : compLoop (fun _ => true) (turn pr (call pr (m + 2)) (make pr (m + 2)) [.val (catT n A tb), .val (.int n), .val (.tup (A.map prT)), .val (.tup (tb.map rowI)), .no, .no, .no] (.cmp .eq (.sub (.v 2) (.v 6)) (.tup [(.v 6), (.v 6)])) (.n 6)) (zts n) S = .ok ((List.range n).map fun p => T.bl ((fun _ => true) p)) S :=
    compLoop_of rfl _ _ fun i hi => by
      have hi : i < n := by simpa using hi
      have hl : i < A.length := Nat.lt_of_lt_of_le hi hc.nA
      have he := eqs_prT (i, i) (i, i)
      simp only [prT] at he
      have hx := atI_ar (A := A) hl
      rw [hc.id i hi] at hx
      simp [turn, hx, prT, he]
  have ec : compLoop (fun _ => true) (turn pr (call pr (m + 2)) (make pr (m + 2)) [.val (catT n A tb), .val (.int n), .val (.tup (A.map prT)), .val (.tup (tb.map rowI)), .no, .no, .no] (.and (.isi (.v 4) .tup) (.cmp .eq (.bi .len [(.v 4)]) (.bi .len [(.v 2)]))) (.n 4)) (tb.map rowI) S = .ok (tb.map fun p => T.bl ((fun _ => true) p)) S :=
    compLoop_of rfl _ _ fun r hr => by
      obtain ⟨f, hf, e⟩ := List.mem_iff_getElem.mp hr
      have hl := hc.rl f (by rw [← hc.tl]; exact hf)
      rw [show rwt tb f = r by simp [rwt, hf, e]] at hl
      simp [turn, rowI, Ty.ev, hl]
  have key : exs pr (call pr (m + 2)) (make pr (m + 2)) d_has_shape.body [.val (catT n A tb), .no, .no, .no, .no, .no, .no] S = .ret (.bl true) S := by
    simp only [d_has_shape]
    refine (exs_nx (r' := [.val (catT n A tb), .no, .no, .no, .no, .no, .no]) (S' := S) ?_).trans ?_
    · simp [catT, Ty.ev, cb, h1, h2, c_MOST_STAGES]
    refine (exs_nx (r' := [.val (catT n A tb), .val (.int n), .val (.tup (A.map prT)), .val (.tup (tb.map rowI)), .no, .no, .no]) (S' := S) ?_).trans ?_
    · simp [catT, nxO]
    refine (exs_nx (r' := [.val (catT n A tb), .val (.int n), .val (.tup (A.map prT)), .val (.tup (tb.map rowI)), .no, .no, .no]) (S' := S) ?_).trans ?_
    · simp [Ty.ev, h3, h4, c_MOST_ARROWS]
    refine (exs_nx (r' := [.val (catT n A tb), .val (.int n), .val (.tup (A.map prT)), .val (.tup (tb.map rowI)), .no, .no, .no]) (S' := S) ?_).trans ?_
    · simp
      rw [show (still (T.tup (A.map prT)) (A.map prT)) = fun _ => true from rfl, ea]
      simp only [bnd_ok, eV_nil, List.map_cons, List.map_nil, look_lst, bi_all_map, ha, of_some, notB_bl, Bool.not_true, toT_ok, forkS_false, q_nil]
    refine (exs_nx (r' := [.val (catT n A tb), .val (.int n), .val (.tup (A.map prT)), .val (.tup (tb.map rowI)), .no, .no, .no]) (S' := S) ?_).trans ?_
    · simp [g.1, g.2]
      rw [eb]
      simp only [bnd_ok, eV_nil, List.map_cons, List.map_nil, look_lst, bi_all_map, of_some, notB_bl, toT_ok]
      rw [show (List.range n).all (fun _ => true) = true by rw [List.all_eq_true]; exact fun _ _ => rfl]
      simp
    refine (exs_nx (r' := [.val (catT n A tb), .val (.int n), .val (.tup (A.map prT)), .val (.tup (tb.map rowI)), .no, .no, .no]) (S' := S) ?_).trans ?_
    · simp [Ty.ev, hc.tl]
    refine exs_ret ?_
    simp
    rw [show (still (T.tup (tb.map rowI)) (tb.map rowI)) = fun _ => true from rfl, ec]
    simp only [bnd_ok, eV_nil, List.map_cons, List.map_nil, look_lst, bi_all_map, of_some, toT_ok]
    rw [show tb.all (fun _ => true) = true by rw [List.all_eq_true]; exact fun _ _ => rfl]
  exact congrArg SRes.fin key
theorem c_comp (m : Nat) (hc : Cat n A tb) (S : Store) : call pr (m + 2) 3 [catT n A tb] S = .ok (.bl true) S := by
  rw [call_of (d := d_has_composites) rfl rfl]
  have inner : ∀ (f : Nat) (hf : f < A.length) (x6 x7 x8 : Slot), ∃ y6 y7 y8, forLoop (fun _ => true) (goS pr (call pr (m + 1)) (make pr (m + 1)) (.t [6, 7]) d_has_composites_b1) (enumL 0 (A.map prT)) [.val (catT n A tb), .val (.int n), .val (.tup (A.map prT)), .val (.tup (tb.map rowI)), .val (.int f), .val (prT (ar A f)), x6, x7, x8] S = .nx [.val (catT n A tb), .val (.int n), .val (.tup (A.map prT)), .val (.tup (tb.map rowI)), .val (.int f), .val (prT (ar A f)), y6, y7, y8] S := fun f hf x6 x7 x8 => by
    rw [enumL_map prT (0, 0)]
    obtain ⟨r', S', e, ⟨y6, y7, y8, rfl⟩, rfl⟩ := forS_inv (g := fun _ => true) (f := goS pr (call pr (m + 1)) (make pr (m + 1)) (.t [6, 7]) d_has_composites_b1) (fun i => T.tup [.int ((0 + i : Nat) : Int), prT (A.getD i (0, 0))]) (fun k r S' => (∃ y6 y7 y8, r = [.val (catT n A tb), .val (.int n), .val (.tup (A.map prT)), .val (.tup (tb.map rowI)), .val (.int f), .val (prT (ar A f)), y6, y7, y8]) ∧ S' = S) (fun _ => rfl) (List.range A.length) 0 _ S (fun j x hx r S' hI => by
      obtain ⟨hj, rfl⟩ := range_get hx
      obtain ⟨⟨y6, y7, y8, rfl⟩, rfl⟩ := hI
      refine ⟨_, _, ?_, ⟨.val (.int x), .val (prT (ar A x)), .val (.int (en tb f x)), rfl⟩, rfl⟩
      have e1 := atI_tb hc hf
      have e2 := atI_row2 hc hf hj
      rw [show A.getD x (0, 0) = ar A x from rfl, Nat.zero_add]
      by_cases q : ((ar A f).2 : Int) = (ar A x).1
      · have q' : (ar A f).2 = (ar A x).1 := by omega
        obtain ⟨k, k1, k2, k3, k4, k5⟩ := hc.cm f x hf hj q'
        have cb := c_between m (en tb f x) 0 ((A.length : Int) - 1) S'
        have b1 : (0 : Int) ≤ en tb f x := by rw [k2]; omega
        have b2 : en tb f x ≤ (A.length : Int) - 1 := by rw [k2]; omega
        have ea := atI_ar (A := A) k1
        rw [k3] at ea
        have es := eqs_prT ((ar A f).1, (ar A x).2) ((ar A f).1, (ar A x).2)
        simp only [prT] at es
        rw [← k2] at ea
        have z1 : (f : Int) < n → (en tb f x = (x : Int)) := fun h => by rw [k2, k4 (by omega)]
        have z2 : (x : Int) < n → (en tb f x = (f : Int)) := fun h => by rw [k2, k5 (by omega)]
        by_cases w1 : (f : Int) < n <;> by_cases w2 : (x : Int) < n
        · simp [goS, d_has_composites_b1, rowI, e1, e2, prT, q, cb, b1, b2, ea, es, w1, w2, eq_true (z1 w1), eq_true (z2 w2)]
        · simp [goS, d_has_composites_b1, rowI, e1, e2, prT, q, cb, b1, b2, ea, es, w1, w2, eq_true (z1 w1)]
        · simp [goS, d_has_composites_b1, rowI, e1, e2, prT, q, cb, b1, b2, ea, es, w1, w2, eq_true (z2 w2)]
        · simp [goS, d_has_composites_b1, rowI, e1, e2, prT, q, cb, b1, b2, ea, es, w1, w2]
      · have q' : (ar A f).2 ≠ (ar A x).1 := by omega
        have k := hc.no f x hf hj q'
        have cb := c_between m (-1) (-1) (-1) S'
        simp [goS, d_has_composites_b1, rowI, e1, e2, prT, q, k, cb]) ⟨⟨x6, x7, x8, rfl⟩, rfl⟩
    exact ⟨y6, y7, y8, e⟩
  have key : exs pr (call pr (m + 1)) (make pr (m + 1)) d_has_composites.body [.val (catT n A tb), .no, .no, .no, .no, .no, .no, .no, .no] S = .ret (.bl true) S := by
    simp only [d_has_composites]
    refine (exs_nx (r' := [.val (catT n A tb), .val (.int n), .val (.tup (A.map prT)), .val (.tup (tb.map rowI)), .no, .no, .no, .no, .no]) (S' := S) ?_).trans ?_
    · simp [catT, nxO]
    obtain ⟨r', S', e, ⟨y4, y5, y6, y7, y8, rfl⟩, rfl⟩ := forS_inv (g := fun _ => true) (f := goS pr (call pr (m + 1)) (make pr (m + 1)) (.t [4, 5]) d_has_composites_b2) (fun i => T.tup [.int ((0 + i : Nat) : Int), prT (A.getD i (0, 0))]) (fun k r S' => (∃ y4 y5 y6 y7 y8, r = [.val (catT n A tb), .val (.int n), .val (.tup (A.map prT)), .val (.tup (tb.map rowI)), y4, y5, y6, y7, y8]) ∧ S' = S) (fun _ => rfl) (List.range A.length) 0 [.val (catT n A tb), .val (.int n), .val (.tup (A.map prT)), .val (.tup (tb.map rowI)), .no, .no, .no, .no, .no] S (fun j x hx r S' hI => by
      obtain ⟨hj, rfl⟩ := range_get hx
      obtain ⟨⟨y4, y5, y6, y7, y8, rfl⟩, rfl⟩ := hI
      obtain ⟨z6, z7, z8, e⟩ := inner x hj y6 y7 y8
      refine ⟨_, _, ?_, ⟨.val (.int x), .val (prT (ar A x)), z6, z7, z8, rfl⟩, rfl⟩
      rw [show A.getD x (0, 0) = ar A x from rfl, Nat.zero_add]
      simp [goS, d_has_composites_b2]
      rw [e]
      simp) ⟨⟨_, _, _, _, _, rfl⟩, rfl⟩
    refine (exs_nx (r' := [.val (catT n A tb), .val (.int n), .val (.tup (A.map prT)), .val (.tup (tb.map rowI)), y4, y5, y6, y7, y8]) (S' := S') ?_).trans ?_
    · simp
      rw [enumL_map prT (0, 0)]
      exact e
    exact exs_ret (by simp)
  exact congrArg SRes.fin key
end
end K09
end Hf
end

section
set_option Elab.async false
set_option linter.all false
set_option maxRecDepth 100000
set_option maxHeartbeats 200000
/-! K09i: the plain law of k09: a frame, its ends and lasts, beside the law's. -/
namespace Hf
theorem make_of {P : Prog} {n c : Nat} {xs : List T} {S S' : Store} {d : FDef} {r : Env} {fs : List (Nat × T)} (h : P.init c = some d) (hl : xs.length + 1 = d.np) (hx : exs P (call P n) (make P n) d.body (Slot.inst c [] :: startE { d with ns := d.ns - 1 } xs) S = .nx r S') (hr : r[0]? = some (.inst c fs)) : make P (n + 1) c xs S = .ok (.ins c fs) S' := by
  simp only [make, h, runI, hl, if_true, hx, hr]
namespace K09
open P09
def outsN (A : List (Nat × Nat)) (s : Nat) : List Nat := (List.range A.length).filter fun f => decide ((ar A f).1 = s)
def outs (A : List (Nat × Nat)) (s : Nat) : List T := (outsN A s).map fun (f : Nat) => T.int (f : Int)
theorem mem_outs {A : List (Nat × Nat)} {s f : Nat} : f ∈ outsN A s ↔ f < A.length ∧ (ar A f).1 = s := by simp [outsN]
def lead (n : Nat) (A : List (Nat × Nat)) : List T := (List.range n).map fun s => .lst (outs A s)
def FR (n : Nat) (A : List (Nat × Nat)) (tb : List (List Int)) : T := .ins 0 [(1, .lst (zts n)), (0, .tup (A.map prT)), (2, .tup (tb.map rowI)), (3, .lst (lead n A))]
section
variable {n : Nat} {A : List (Nat × Nat)} {tb : List (List Int)}
@[simp] theorem fr0 : (FR n A tb).attr 0 = some (.tup (A.map prT)) := rfl
@[simp] theorem fr1 : (FR n A tb).attr 1 = some (.lst (zts n)) := rfl
@[simp] theorem fr2 : (FR n A tb).attr 2 = some (.tup (tb.map rowI)) := rfl
@[simp] theorem fr3 : (FR n A tb).attr 3 = some (.lst (lead n A)) := rfl
@[simp] theorem fm0 (k : Nat → Res T) (u : U k) : methV pr 0 (FR n A tb) k u = k 29 := rfl
@[simp] theorem fm1 (k : Nat → Res T) (u : U k) : methV pr 1 (FR n A tb) k u = k 30 := rfl
@[simp] theorem fm2 (k : Nat → Res T) (u : U k) : methV pr 2 (FR n A tb) k u = k 34 := rfl
@[simp] theorem fm3 (k : Nat → Res T) (u : U k) : methV pr 3 (FR n A tb) k u = k 35 := rfl
@[simp] theorem fm4 (k : Nat → Res T) (u : U k) : methV pr 4 (FR n A tb) k u = k 27 := rfl
@[simp] theorem fm5 (k : Nat → Res T) (u : U k) : methV pr 5 (FR n A tb) k u = k 28 := rfl
@[simp] theorem fm7 (k : Nat → Res T) (u : U k) : methV pr 7 (FR n A tb) k u = k 32 := rfl
@[simp] theorem fm8 (k : Nat → Res T) (u : U k) : methV pr 8 (FR n A tb) k u = k 33 := rfl
@[simp] theorem fr_look (S : Store) : look S (FR n A tb) = FR n A tb := rfl
theorem atI_lead {s : Nat} (h : s < n) : atI (lead n A) (s : Int) = some (.lst (outs A s)) := by
  rw [atI_nat]; simp [lead, h]
theorem c_frame (m : Nat) (hc : Cat n A tb) (S : Store) : make pr (m + 1) 0 [catT n A tb] S = .ok (FR n A tb) S := by
  have g1 : (n : Int) ≤ 16777216 := by have := hc.n6; omega
  have g2 : (-16777216 : Int) ≤ n := by omega
  have ei : ∀ s : Nat, compLoop (fun _ => true) (turnI pr (call pr m) (make pr m) [.inst 0 [(1, .lst (zts n)), (0, .tup (A.map prT)), (2, .tup (tb.map rowI))], .val (catT n A tb), .val (.int s), .no, .no] (.v 3) (.t [3, 4]) (.cmp .eq (.sub (.v 4) (.k (.int 0))) (.v 2))) (enumL 0 (A.map prT)) S = .ok (outs A s) S := fun s => by
    rw [enumL_map prT (0, 0)]
    have := compLoop_ofI (g := fun _ => true) (f := turnI pr (call pr m) (make pr m) [.inst 0 [(1, .lst (zts n)), (0, .tup (A.map prT)), (2, .tup (tb.map rowI))], .val (catT n A tb), .val (.int s), .no, .no] (.v 3) (.t [3, 4]) (.cmp .eq (.sub (.v 4) (.k (.int 0))) (.v 2))) (S := S) rfl (fun i => T.tup [.int ((0 + i : Nat) : Int), prT (A.getD i (0, 0))]) (fun f => decide ((ar A f).1 = s)) (fun (f : Nat) => T.int (f : Int)) (xs := List.range A.length) fun f _ => by
      rw [show A.getD f (0, 0) = ar A f from rfl, Nat.zero_add]
      by_cases q : ((ar A f).1 : Int) = s
      · have q' : (ar A f).1 = s := by omega
        simp [turnI, prT, q, q']
      · have q' : ¬ (ar A f).1 = s := by omega
        simp [turnI, prT, q, q']
    exact this
  have eo : compLoop (fun _ => true) (turn pr (call pr m) (make pr m) [.inst 0 [(1, .lst (zts n)), (0, .tup (A.map prT)), (2, .tup (tb.map rowI))], .val (catT n A tb), .no, .no, .no] (.compI (.v 3) (.t [3, 4]) (.enum (.attr (.v 0) 0)) (.cmp .eq (.sub (.v 4) (.k (.int 0))) (.v 2))) (.n 2)) (zts n) S = .ok (lead n A) S :=
    compLoop_of rfl _ _ fun s _ => by
      have l0 : List.lookup 0 [(1, T.lst (zts n)), (0, T.tup (A.map prT)), (2, T.tup (tb.map rowI))] = some (.tup (A.map prT)) := rfl
      simp [turn, T.attr, l0]
      rw [ei]
      simp
  refine make_of (d := d_Frame_init) (r := [.inst 0 [(1, .lst (zts n)), (0, .tup (A.map prT)), (2, .tup (tb.map rowI)), (3, .lst (lead n A))], .val (catT n A tb), .no, .no, .no]) rfl rfl ?_ rfl
  simp only [d_Frame_init]
  refine (exs_nx (r' := [.inst 0 [(1, .lst (zts n))], .val (catT n A tb), .no, .no, .no]) (S' := S) ?_).trans ?_
  · simp [startE, catT, g1, g2, noInst, putFs]
  refine (exs_nx (r' := [.inst 0 [(1, .lst (zts n)), (0, .tup (A.map prT))], .val (catT n A tb), .no, .no, .no]) (S' := S) ?_).trans ?_
  · simp [catT, noInst, putFs]
  refine (exs_nx (r' := [.inst 0 [(1, .lst (zts n)), (0, .tup (A.map prT)), (2, .tup (tb.map rowI))], .val (catT n A tb), .no, .no, .no]) (S' := S) ?_).trans ?_
  · simp [catT, noInst, putFs]
  refine (exs_nx (r' := [.inst 0 [(1, .lst (zts n)), (0, .tup (A.map prT)), (2, .tup (tb.map rowI)), (3, .lst (lead n A))], .val (catT n A tb), .no, .no, .no]) (S' := S) ?_).trans ?_
  · simp [T.attr]
    rw [eo]
    simp [noInst, putFs]
  simp
theorem c_source (m : Nat) {f : Nat} (hf : f < A.length) (S : Store) : call pr (m + 1) 27 [FR n A tb, .int f] S = .ok (.int (ar A f).1) S := by
  rw [call_of (d := d_Frame_source) rfl rfl]
  simp [d_Frame_source, startE, atI_ar hf, prT]
theorem c_target (m : Nat) {f : Nat} (hf : f < A.length) (S : Store) : call pr (m + 1) 28 [FR n A tb, .int f] S = .ok (.int (ar A f).2) S := by
  rw [call_of (d := d_Frame_target) rfl rfl]
  simp [d_Frame_target, startE, atI_ar hf, prT]
theorem c_behind (m : Nat) (hc : Cat n A tb) {f : Nat} (hf : f < A.length) (S : Store) : call pr (m + 2) 29 [FR n A tb, .int f] S = .ok (.lst (outs A (ar A f).2)) S := by
  rw [call_of (d := d_Frame_behind) rfl rfl]
  simp [d_Frame_behind, startE, c_target m hf, atI_lead (hc.lt f hf).2]
theorem c_then (m : Nat) (hc : Cat n A tb) {f g : Nat} (hf : f < A.length) (hg : g < A.length) (S : Store) : call pr (m + 1) 30 [FR n A tb, .int f, .int g] S = .ok (.int (en tb f g)) S := by
  rw [call_of (d := d_Frame_then) rfl rfl]
  simp [d_Frame_then, startE, atI_tb hc hf, rowI, atI_row2 hc hf hg]
/-- what has something behind it that leads back -/
def und (A : List (Nat × Nat)) (tb : List (List Int)) (f : Nat) : Bool := (outsN A (ar A f).2).any fun g => decide (en tb f g = (ar A f).1)
def invs (A : List (Nat × Nat)) (tb : List (List Int)) (f : Nat) : Bool := ((outsN A (ar A f).2).filter fun g => decide ((ar A g).2 = (ar A f).1)).any fun g => decide (en tb f g = (ar A f).1) && decide (en tb g f = (ar A f).2)
theorem c_undone (m : Nat) (hc : Cat n A tb) {f : Nat} (hf : f < A.length) (S : Store) : call pr (m + 3) 32 [FR n A tb, .int f] S = .ok (.bl (und A tb f)) S := by
  rw [call_of (d := d_Frame_is_undone) rfl rfl]
  have e : compLoop (fun _ => true) (turn pr (call pr (m + 2)) (make pr (m + 2)) [.val (FR n A tb), .val (.int f), .no] (.cmp .eq (.meth 1 (.v 0) [(.v 1), (.v 2)]) (.meth 4 (.v 0) [(.v 1)])) (.n 2)) (outs A (ar A f).2) S = .ok ((outsN A (ar A f).2).map fun g => T.bl (decide (en tb f g = (ar A f).1))) S :=
    compLoop_of rfl _ _ fun g hg => by
      have hg := (mem_outs.mp hg).1
      simp [turn, c_then (m + 1) hc hf hg, c_source (m + 1) hf]
  simp [d_Frame_is_undone, startE, c_behind m hc hf]
  rw [e]
  simp only [bnd_ok, eV_nil, List.map_cons, List.map_nil, look_lst, bi_all_map, bi_any_map, of_some, toT_ok]
  simp [und]
theorem c_inverse (m : Nat) (hc : Cat n A tb) {f : Nat} (hf : f < A.length) (S : Store) : call pr (m + 3) 33 [FR n A tb, .int f] S = .ok (.bl (invs A tb f)) S := by
  rw [call_of (d := d_Frame_has_inverse) rfl rfl]
  have e : compLoop (fun _ => true) (turnI pr (call pr (m + 2)) (make pr (m + 2)) [.val (FR n A tb), .val (.int f), .val (.int (ar A f).1), .val (.int (ar A f).2), .no] (.and (.cmp .eq (.meth 1 (.v 0) [(.v 1), (.v 4)]) (.v 2)) (.cmp .eq (.meth 1 (.v 0) [(.v 4), (.v 1)]) (.v 3))) (.n 4) (.cmp .eq (.meth 5 (.v 0) [(.v 4)]) (.v 2))) (outs A (ar A f).2) S = .ok (((outsN A (ar A f).2).filter fun g => decide ((ar A g).2 = (ar A f).1)).map fun g => T.bl (decide (en tb f g = (ar A f).1) && decide (en tb g f = (ar A f).2))) S :=
    compLoop_ofI rfl _ _ _ fun g hg => by
      have hg := (mem_outs.mp hg).1
      by_cases q : ((ar A g).2 : Int) = (ar A f).1
      · have q' : (ar A g).2 = (ar A f).1 := by omega
        by_cases w : en tb f g = (ar A f).1
        · simp [turnI, c_then (m + 1) hc hf hg, c_then (m + 1) hc hg hf, c_target (m + 1) hg, q', w]
        · simp [turnI, c_then (m + 1) hc hf hg, c_then (m + 1) hc hg hf, c_target (m + 1) hg, q', w]
      · have q' : ¬ (ar A g).2 = (ar A f).1 := by omega
        simp [turnI, c_target (m + 1) hg, q, q']
  have key : exs pr (call pr (m + 2)) (make pr (m + 2)) d_Frame_has_inverse.body [.val (FR n A tb), .val (.int f), .no, .no, .no] S = .ret (.bl (invs A tb f)) S := by
    simp only [d_Frame_has_inverse]
    refine (exs_nx (r' := [.val (FR n A tb), .val (.int f), .val (.int (ar A f).1), .val (.int (ar A f).2), .no]) (S' := S) ?_).trans ?_
    · simp [atI_ar hf, prT, nxO]
    refine exs_ret ?_
    simp [atI_lead (hc.lt f hf).2]
    rw [e]
    simp only [bnd_ok, eV_nil, List.map_cons, List.map_nil, look_lst, bi_all_map, bi_any_map, of_some, toT_ok]
    simp [invs]
  exact congrArg SRes.fin key
theorem c_isend (m : Nat) (hc : Cat n A tb) {s : Nat} (hs : s < n) (S : Store) : call pr (m + 4) 34 [FR n A tb, .int s] S = .ok (.bl ((outsN A s).all (und A tb))) S := by
  rw [call_of (d := d_Frame_is_end) rfl rfl]
  have e : compLoop (fun _ => true) (turn pr (call pr (m + 3)) (make pr (m + 3)) [.val (FR n A tb), .val (.int s), .no] (.meth 7 (.v 0) [(.v 2)]) (.n 2)) (outs A s) S = .ok ((outsN A s).map fun g => T.bl (und A tb g)) S :=
    compLoop_of rfl _ _ fun g hg => by
      have hg := (mem_outs.mp hg).1
      simp [turn, c_undone m hc hg]
  simp [d_Frame_is_end, startE, atI_lead hs]
  rw [e]
  simp only [bnd_ok, eV_nil, List.map_cons, List.map_nil, look_lst, bi_all_map, bi_any_map, of_some, toT_ok]
  simp
theorem c_islast (m : Nat) (hc : Cat n A tb) {s : Nat} (hs : s < n) (S : Store) : call pr (m + 4) 35 [FR n A tb, .int s] S = .ok (.bl ((outsN A s).all (invs A tb))) S := by
  rw [call_of (d := d_Frame_is_last) rfl rfl]
  have e : compLoop (fun _ => true) (turn pr (call pr (m + 3)) (make pr (m + 3)) [.val (FR n A tb), .val (.int s), .no] (.meth 8 (.v 0) [(.v 2)]) (.n 2)) (outs A s) S = .ok ((outsN A s).map fun g => T.bl (invs A tb g)) S :=
    compLoop_of rfl _ _ fun g hg => by
      have hg := (mem_outs.mp hg).1
      simp [turn, c_inverse m hc hg]
  simp [d_Frame_is_last, startE, atI_lead hs]
  rw [e]
  simp only [bnd_ok, eV_nil, List.map_cons, List.map_nil, look_lst, bi_all_map, bi_any_map, of_some, toT_ok]
  simp
end
end K09
end Hf
end

section
set_option Elab.async false
set_option linter.all false
set_option maxRecDepth 100000
set_option maxHeartbeats 200000
/-! K09j: the plain law of k09: a category passes; its ends and lasts are the law's. -/
namespace Hf
namespace K09
open P09
section
variable {n : Nat} {A : List (Nat × Nat)} {tb : List (List Int)}
theorem outs_get {s j x : Nat} (hx : (outsN A s)[j]? = some x) : x < A.length ∧ (ar A x).1 = s := mem_outs.mp (List.mem_of_getElem? hx)
theorem one_join (m : Nat) (hc : Cat n A tb) {f g h : Nat} (hf : f < A.length) (hg : g < A.length) (hh : h < A.length) (q1 : (ar A f).2 = (ar A g).1) (q2 : (ar A g).2 = (ar A h).1) (y4 : Slot) (S : Store) :
    goS pr (call pr (m + 4)) (make pr (m + 4)) (.n 4) d_is_joined_b1 (.int h) [.val (catT n A tb), .val (FR n A tb), .val (.int f), .val (.int g), y4] S = .nx [.val (catT n A tb), .val (FR n A tb), .val (.int f), .val (.int g), .val (.int h)] S := by
  obtain ⟨k, k1, k2, _⟩ := hc.cm f g hf hg q1
  obtain ⟨l, l1, l2, _⟩ := hc.cm g h hg hh q2
  have e1 := c_then (m + 3) hc hf hg S
  have e2 := c_then (m + 3) hc hg hh S
  have e3 := c_then (m + 3) hc k1 hh S
  have e4 := c_then (m + 3) hc hf l1 S
  have a := hc.as f g h hf hg hh q1 q2
  rw [k2, l2] at a
  simp only [Int.toNat_natCast] at a
  rw [k2] at e1
  rw [l2] at e2
  simp [goS, d_is_joined_b1, e1, e2, e3, e4, a]
theorem c_joined (m : Nat) (hc : Cat n A tb) (S : Store) : call pr (m + 5) 4 [catT n A tb] S = .ok (.bl true) S := by
  rw [call_of (d := d_is_joined) rfl rfl]
  have g1 := rng_nat (n := A.length) (by have := hc.A24; omega)
  have l3 : ∀ (f g : Nat) (hf : f < A.length) (hg : g < A.length) (q1 : (ar A f).2 = (ar A g).1) (y4 : Slot), ∃ z4, forLoop (fun _ => true) (goS pr (call pr (m + 4)) (make pr (m + 4)) (.n 4) d_is_joined_b1) (outs A (ar A g).2) [.val (catT n A tb), .val (FR n A tb), .val (.int f), .val (.int g), y4] S = .nx [.val (catT n A tb), .val (FR n A tb), .val (.int f), .val (.int g), z4] S := fun f g hf hg q1 y4 => by
    obtain ⟨r', S', e, ⟨z4, rfl⟩, rfl⟩ := forS_inv (g := fun _ => true) (f := goS pr (call pr (m + 4)) (make pr (m + 4)) (.n 4) d_is_joined_b1) (fun (k : Nat) => T.int (k : Int)) (fun k r S' => (∃ y4, r = [.val (catT n A tb), .val (FR n A tb), .val (.int f), .val (.int g), y4]) ∧ S' = S) (fun _ => rfl) (outsN A (ar A g).2) 0 _ S (fun j x hx r S' hI => by
      obtain ⟨⟨y4, rfl⟩, rfl⟩ := hI
      obtain ⟨hx, hx2⟩ := outs_get hx
      exact ⟨_, _, one_join m hc hf hg hx q1 hx2.symm y4 S', ⟨_, rfl⟩, rfl⟩) ⟨⟨y4, rfl⟩, rfl⟩
    exact ⟨z4, e⟩
  have l2 : ∀ (f : Nat) (hf : f < A.length) (y3 y4 : Slot), ∃ z3 z4, forLoop (fun _ => true) (goS pr (call pr (m + 4)) (make pr (m + 4)) (.n 3) d_is_joined_b2) (outs A (ar A f).2) [.val (catT n A tb), .val (FR n A tb), .val (.int f), y3, y4] S = .nx [.val (catT n A tb), .val (FR n A tb), .val (.int f), z3, z4] S := fun f hf y3 y4 => by
    obtain ⟨r', S', e, ⟨z3, z4, rfl⟩, rfl⟩ := forS_inv (g := fun _ => true) (f := goS pr (call pr (m + 4)) (make pr (m + 4)) (.n 3) d_is_joined_b2) (fun (k : Nat) => T.int (k : Int)) (fun k r S' => (∃ y3 y4, r = [.val (catT n A tb), .val (FR n A tb), .val (.int f), y3, y4]) ∧ S' = S) (fun _ => rfl) (outsN A (ar A f).2) 0 _ S (fun j x hx r S' hI => by
      obtain ⟨⟨y3, y4, rfl⟩, rfl⟩ := hI
      obtain ⟨hx, hx2⟩ := outs_get hx
      obtain ⟨z4, e⟩ := l3 f x hf hx hx2.symm y4
      refine ⟨_, _, ?_, ⟨.val (.int x), z4, rfl⟩, rfl⟩
      have hbh := c_behind (m + 2) hc hx S'
      simp [goS, d_is_joined_b2, hbh]
      rw [e]
      simp) ⟨⟨y3, y4, rfl⟩, rfl⟩
    exact ⟨z3, z4, e⟩
  have key : exs pr (call pr (m + 4)) (make pr (m + 4)) d_is_joined.body [.val (catT n A tb), .no, .no, .no, .no] S = .ret (.bl true) S := by
    simp only [d_is_joined]
    refine (exs_nx (r' := [.val (catT n A tb), .val (FR n A tb), .no, .no, .no]) (S' := S) ?_).trans ?_
    · simp [c_frame (m + 3) hc]
    obtain ⟨r', S', e, ⟨y2, y3, y4, rfl⟩, rfl⟩ := forS_inv (g := fun _ => true) (f := goS pr (call pr (m + 4)) (make pr (m + 4)) (.n 2) d_is_joined_b3) (fun (k : Nat) => T.int (k : Int)) (fun k r S' => (∃ y2 y3 y4, r = [.val (catT n A tb), .val (FR n A tb), y2, y3, y4]) ∧ S' = S) (fun _ => rfl) (List.range A.length) 0 [.val (catT n A tb), .val (FR n A tb), .no, .no, .no] S (fun j x hx r S' hI => by
      obtain ⟨⟨y2, y3, y4, rfl⟩, rfl⟩ := hI
      obtain ⟨hx, rfl⟩ := range_get hx
      obtain ⟨z3, z4, e⟩ := l2 x hx y3 y4
      refine ⟨_, _, ?_, ⟨.val (.int x), z3, z4, rfl⟩, rfl⟩
      have hbh := c_behind (m + 2) hc hx S'
      simp [goS, d_is_joined_b3, hbh]
      rw [e]
      simp) ⟨⟨_, _, _, rfl⟩, rfl⟩
    refine (exs_nx (r' := [.val (catT n A tb), .val (FR n A tb), y2, y3, y4]) (S' := S') ?_).trans ?_
    · simp [g1.1, g1.2]
      exact e
    exact exs_ret (by simp)
  exact congrArg SRes.fin key
theorem c_check (m : Nat) (hc : Cat n A tb) (S : Store) : call pr (m + 6) 5 [catT n A tb] S = .ok .non S := by
  rw [call_of (d := d_check_category) rfl rfl]
  simp [d_check_category, startE, c_shape (m + 2) hc, c_comp (m + 3) hc, c_joined m hc]
theorem c_readf (m : Nat) (hc : Cat n A tb) (S : Store) : call pr (m + 7) 6 [catT n A tb] S = .ok (FR n A tb) S := by
  rw [call_of (d := d_read_frame) rfl rfl]
  simp [d_read_frame, startE, c_check m hc, c_frame (m + 5) hc]
def endsL (n : Nat) (A : List (Nat × Nat)) (u : Nat → Bool) : List T := fl n fun i => (outsN A i).all u
theorem c_ends (m : Nat) (hc : Cat n A tb) (S : Store) : call pr (m + 8) 7 [catT n A tb] S = .ok (.ref S.length) (S ++ [.lst (endsL n A (und A tb))]) := by
  rw [call_of (d := d_ends) rfl rfl]
  have e : compLoop (fun _ => true) (turnI pr (call pr (m + 7)) (make pr (m + 7)) [.val (catT n A tb), .val (FR n A tb), .no] (.v 2) (.n 2) (.meth 2 (.v 1) [(.v 2)])) (zts n) S = .ok (endsL n A (und A tb)) S := by
    have := compLoop_ofI (g := fun _ => true) (f := turnI pr (call pr (m + 7)) (make pr (m + 7)) [.val (catT n A tb), .val (FR n A tb), .no] (.v 2) (.n 2) (.meth 2 (.v 1) [(.v 2)])) (S := S) rfl (fun (k : Nat) => T.int (k : Int)) (fun i => (outsN A i).all (und A tb)) (fun (k : Nat) => T.int (k : Int)) (xs := List.range n) fun i hi => by
      have hi : i < n := by simpa using hi
      have ee := c_isend (m + 3) hc hi S
      cases q : (outsN A i).all (und A tb) <;> simp [turnI, ee, q]
    rw [zts, this, endsL, fl_map]
  simp [d_ends, startE, c_readf m hc]
  rw [e]
  simp
theorem c_lasts (m : Nat) (hc : Cat n A tb) (S : Store) : call pr (m + 8) 8 [catT n A tb] S = .ok (.ref S.length) (S ++ [.lst (endsL n A (invs A tb))]) := by
  rw [call_of (d := d_lasts) rfl rfl]
  have e : compLoop (fun _ => true) (turnI pr (call pr (m + 7)) (make pr (m + 7)) [.val (catT n A tb), .val (FR n A tb), .no] (.v 2) (.n 2) (.meth 3 (.v 1) [(.v 2)])) (zts n) S = .ok (endsL n A (invs A tb)) S := by
    have := compLoop_ofI (g := fun _ => true) (f := turnI pr (call pr (m + 7)) (make pr (m + 7)) [.val (catT n A tb), .val (FR n A tb), .no] (.v 2) (.n 2) (.meth 3 (.v 1) [(.v 2)])) (S := S) rfl (fun (k : Nat) => T.int (k : Int)) (fun i => (outsN A i).all (invs A tb)) (fun (k : Nat) => T.int (k : Int)) (xs := List.range n) fun i hi => by
      have hi : i < n := by simpa using hi
      have ee := c_islast (m + 3) hc hi S
      cases q : (outsN A i).all (invs A tb) <;> simp [turnI, ee, q]
    rw [zts, this, endsL, fl_map]
  simp [d_lasts, startE, c_readf m hc]
  rw [e]
  simp
/-! ### the law's own -/
theorem c_lout (m : Nat) (hc : Cat n A tb) (i : Nat) (S : Store) : call pr (m + 1) 15 [catT n A tb, .int i] S = .ok (.lst (outs A i)) S := by
  rw [call_of (d := d_l_out) rfl rfl]
  have g1 := rng_nat (n := A.length) (by have := hc.A24; omega)
  have e : compLoop (fun _ => true) (turnI pr (call pr m) (make pr m) [.val (catT n A tb), .val (.int i), .no] (.v 2) (.n 2) (.cmp .eq (.sub (.sub (.sub (.v 0) (.k (.int 1))) (.v 2)) (.k (.int 0))) (.v 1))) (zts A.length) S = .ok (outs A i) S :=
    compLoop_ofI rfl (fun (k : Nat) => T.int (k : Int)) (fun f => decide ((ar A f).1 = i)) (fun (k : Nat) => T.int (k : Int)) fun f hf => by
      have hf : f < A.length := by simpa using hf
      have ha := atI_ar hf
      by_cases q : ((ar A f).1 : Int) = i
      · have q' : (ar A f).1 = i := by omega
        simp [turnI, catT, ha, prT, q, q']
      · have q' : ¬ (ar A f).1 = i := by omega
        simp [turnI, catT, ha, prT, q, q']
  have hl : compLoop (fun _ => true) (turnI pr (call pr m) (make pr m) [.val (.tup [.int n, .tup (A.map prT), .tup (tb.map rowI)]), .val (.int i), .no] (.v 2) (.n 2) (.cmp .eq (.sub (.sub (.sub (.v 0) (.k (.int 1))) (.v 2)) (.k (.int 0))) (.v 1))) (zts A.length) S = .ok (outs A i) S := e
  simp [d_l_out, startE, catT, g1.1, g1.2]
  rw [hl]
  simp
theorem pos_any {p : Nat → Bool} (l : List Nat) : decide ((0 : Int) < ((l.filter p).length : Int)) = l.any p := by
  rw [Bool.eq_iff_iff, decide_eq_true_eq, List.any_eq_true]
  constructor
  · intro h
    have : 0 < (l.filter p).length := by omega
    obtain ⟨x, hx⟩ := List.exists_mem_of_length_pos this
    exact ⟨x, (List.mem_filter.mp hx).1, (List.mem_filter.mp hx).2⟩
  · rintro ⟨x, hx, hp⟩
    have := List.length_pos_of_mem (List.mem_filter.mpr ⟨hx, hp⟩)
    omega
theorem c_lund (m : Nat) (hc : Cat n A tb) {f : Nat} (hf : f < A.length) (S : Store) : call pr (m + 2) 16 [catT n A tb, .int f] S = .ok (.bl (und A tb f)) S := by
  rw [call_of (d := d_l_undone) rfl rfl]
  have e : compLoop (fun _ => true) (turnI pr (call pr (m + 1)) (make pr (m + 1)) [.val (catT n A tb), .val (.int f), .val (.int (ar A f).1), .val (.int (ar A f).2), .no] (.v 4) (.n 4) (.and (.cmp .eq (.sub (.sub (.sub (.v 0) (.k (.int 1))) (.v 4)) (.k (.int 1))) (.v 2)) (.cmp .eq (.sub (.sub (.sub (.v 0) (.k (.int 2))) (.v 1)) (.v 4)) (.v 2)))) (outs A (ar A f).2) S = .ok (((outsN A (ar A f).2).filter fun g => decide ((ar A g).2 = (ar A f).1) && decide (en tb f g = (ar A f).1)).map fun (g : Nat) => T.int (g : Int)) S :=
    compLoop_ofI rfl (fun (k : Nat) => T.int (k : Int)) (fun g => decide ((ar A g).2 = (ar A f).1) && decide (en tb f g = (ar A f).1)) (fun (k : Nat) => T.int (k : Int)) fun g hg => by
      have hg := (mem_outs.mp hg).1
      have ha := atI_ar hg
      have e1 := atI_tb hc hf
      have e2 := atI_row2 hc hf hg
      by_cases q : ((ar A g).2 : Int) = (ar A f).1
      · have q' : (ar A g).2 = (ar A f).1 := by omega
        by_cases w : en tb f g = (ar A f).1
        · simp [turnI, catT, ha, prT, rowI, e1, e2, q', w]
        · simp [turnI, catT, ha, prT, rowI, e1, e2, q', w]
      · have q' : ¬ (ar A g).2 = (ar A f).1 := by omega
        simp [turnI, catT, ha, prT, q, q']
  have hu : ((outsN A (ar A f).2).any fun g => decide ((ar A g).2 = (ar A f).1) && decide (en tb f g = (ar A f).1)) = und A tb f := by
    unfold und
    rw [Bool.eq_iff_iff, List.any_eq_true, List.any_eq_true]
    constructor
    · rintro ⟨g, hg, h⟩
      simp only [Bool.and_eq_true] at h
      exact ⟨g, hg, h.2⟩
    · rintro ⟨g, hg, h⟩
      obtain ⟨h1, h2⟩ := mem_outs.mp hg
      have h' : en tb f g = (ar A f).1 := by simpa using h
      obtain ⟨k, k1, k2, k3, _, _⟩ := hc.cm f g hf h1 h2.symm
      have hk : k = (ar A f).1 := by omega
      have hi := hc.id k (by rw [hk]; exact (hc.lt f hf).1)
      rw [k3] at hi
      have : (ar A g).2 = k := by
        have := congrArg Prod.snd hi
        simpa using this
      refine ⟨g, hg, ?_⟩
      simp only [Bool.and_eq_true]
      exact ⟨by simp [this, hk], h⟩
  have key : exs pr (call pr (m + 1)) (make pr (m + 1)) d_l_undone.body [.val (catT n A tb), .val (.int f), .no, .no, .no] S = .ret (.bl (und A tb f)) S := by
    simp only [d_l_undone]
    refine (exs_nx (r' := [.val (catT n A tb), .val (.int f), .val (.int (ar A f).1), .val (.int (ar A f).2), .no]) (S' := S) ?_).trans ?_
    · simp [catT, atI_ar hf, prT, nxO]
    refine exs_ret ?_
    simp [c_lout m hc]
    rw [e]
    simp [pos_any]
    rw [← hu, Bool.eq_iff_iff, List.any_eq_true]
    simp
  exact congrArg SRes.fin key
theorem c_linv (m : Nat) (hc : Cat n A tb) {f : Nat} (hf : f < A.length) (S : Store) : call pr (m + 2) 17 [catT n A tb, .int f] S = .ok (.bl (invs A tb f)) S := by
  rw [call_of (d := d_l_inverse) rfl rfl]
  have e : compLoop (fun _ => true) (turnI pr (call pr (m + 1)) (make pr (m + 1)) [.val (catT n A tb), .val (.int f), .val (.int (ar A f).1), .val (.int (ar A f).2), .no] (.v 4) (.n 4) (.and (.cmp .eq (.sub (.sub (.sub (.v 0) (.k (.int 1))) (.v 4)) (.k (.int 1))) (.v 2)) (.and (.cmp .eq (.sub (.sub (.sub (.v 0) (.k (.int 2))) (.v 1)) (.v 4)) (.v 2)) (.cmp .eq (.sub (.sub (.sub (.v 0) (.k (.int 2))) (.v 4)) (.v 1)) (.v 3))))) (outs A (ar A f).2) S = .ok (((outsN A (ar A f).2).filter fun g => decide ((ar A g).2 = (ar A f).1) && (decide (en tb f g = (ar A f).1) && decide (en tb g f = (ar A f).2))).map fun (g : Nat) => T.int (g : Int)) S :=
    compLoop_ofI rfl (fun (k : Nat) => T.int (k : Int)) (fun g => decide ((ar A g).2 = (ar A f).1) && (decide (en tb f g = (ar A f).1) && decide (en tb g f = (ar A f).2))) (fun (k : Nat) => T.int (k : Int)) fun g hg => by
      have hg := (mem_outs.mp hg).1
      have ha := atI_ar hg
      have e1 := atI_tb hc hf
      have e2 := atI_row2 hc hf hg
      have e3 := atI_tb hc hg
      have e4 := atI_row2 hc hg hf
      by_cases q : ((ar A g).2 : Int) = (ar A f).1
      · have q' : (ar A g).2 = (ar A f).1 := by omega
        by_cases w : en tb f g = (ar A f).1
        · by_cases w2 : en tb g f = (ar A f).2
          · simp [turnI, catT, ha, prT, rowI, e1, e2, e3, e4, q', w, w2]
          · simp [turnI, catT, ha, prT, rowI, e1, e2, e3, e4, q', w, w2]
        · simp [turnI, catT, ha, prT, rowI, e1, e2, q', w]
      · have q' : ¬ (ar A g).2 = (ar A f).1 := by omega
        simp [turnI, catT, ha, prT, q, q']
  have hu : ((outsN A (ar A f).2).any fun g => decide ((ar A g).2 = (ar A f).1) && (decide (en tb f g = (ar A f).1) && decide (en tb g f = (ar A f).2))) = invs A tb f := by
    unfold invs
    rw [List.any_filter]
  have key : exs pr (call pr (m + 1)) (make pr (m + 1)) d_l_inverse.body [.val (catT n A tb), .val (.int f), .no, .no, .no] S = .ret (.bl (invs A tb f)) S := by
    simp only [d_l_inverse]
    refine (exs_nx (r' := [.val (catT n A tb), .val (.int f), .val (.int (ar A f).1), .val (.int (ar A f).2), .no]) (S' := S) ?_).trans ?_
    · simp [catT, atI_ar hf, prT, nxO]
    refine exs_ret ?_
    simp [c_lout m hc]
    rw [e]
    simp [pos_any]
    rw [← hu, Bool.eq_iff_iff, List.any_eq_true]
    simp
  exact congrArg SRes.fin key
end
end K09
end Hf
end

section
set_option Elab.async false
set_option linter.all false
set_option maxRecDepth 100000
set_option maxHeartbeats 200000
/-! K09k: the plain law of k09: which categories there are. -/
namespace Hf
namespace K09
open P09
section
variable {n : Nat} {A : List (Nat × Nat)} {tb : List (List Int)}
theorem c_lends (m : Nat) (hc : Cat n A tb) (S : Store) : call pr (m + 3) 18 [catT n A tb] S = .ok (.lst (endsL n A (und A tb))) S := by
  rw [call_of (d := d_l_ends) rfl rfl]
  have g := rng_nat (n := n) (by have := hc.n6; omega)
  have e : compLoop (fun _ => true) (turnI pr (call pr (m + 2)) (make pr (m + 2)) [.val (catT n A tb), .no, .no] (.v 1) (.n 1) (.bi .all [(.comp (.call 16 [(.v 0), (.v 2)]) (.n 2) (.call 15 [(.v 0), (.v 1)]))])) (zts n) S = .ok (endsL n A (und A tb)) S := by
    have := compLoop_ofI (g := fun _ => true) (f := turnI pr (call pr (m + 2)) (make pr (m + 2)) [.val (catT n A tb), .no, .no] (.v 1) (.n 1) (.bi .all [(.comp (.call 16 [(.v 0), (.v 2)]) (.n 2) (.call 15 [(.v 0), (.v 1)]))])) (S := S) rfl (fun (k : Nat) => T.int (k : Int)) (fun i => (outsN A i).all (und A tb)) (fun (k : Nat) => T.int (k : Int)) (xs := List.range n) fun i hi => by
      have ei : compLoop (fun _ => true) (turn pr (call pr (m + 2)) (make pr (m + 2)) [.val (catT n A tb), .val (.int i), .no] (.call 16 [(.v 0), (.v 2)]) (.n 2)) (outs A i) S = .ok ((outsN A i).map fun g => T.bl (und A tb g)) S :=
        compLoop_of rfl _ _ fun g hg => by
          have hg := (mem_outs.mp hg).1
          simp [turn, c_lund m hc hg]
      simp [turnI, c_lout (m + 1) hc]
      rw [ei]
      simp only [bnd_ok, eV_nil, List.map_cons, List.map_nil, look_lst, bi_all_map, of_some, toT_ok]
      cases q : (outsN A i).all (und A tb) <;> simp <;> simpa using q
    rw [zts, this, endsL, fl_map]
  have hl : compLoop (fun _ => true) (turnI pr (call pr (m + 2)) (make pr (m + 2)) [.val (.tup [.int n, .tup (A.map prT), .tup (tb.map rowI)]), .no, .no] (.v 1) (.n 1) (.bi .all [(.comp (.call 16 [(.v 0), (.v 2)]) (.n 2) (.call 15 [(.v 0), (.v 1)]))])) (zts n) S = .ok (endsL n A (und A tb)) S := e
  simp [d_l_ends, startE, catT, g.1, g.2]
  rw [hl]
  simp
theorem c_llasts (m : Nat) (hc : Cat n A tb) (S : Store) : call pr (m + 3) 19 [catT n A tb] S = .ok (.lst (endsL n A (invs A tb))) S := by
  rw [call_of (d := d_l_lasts) rfl rfl]
  have g := rng_nat (n := n) (by have := hc.n6; omega)
  have e : compLoop (fun _ => true) (turnI pr (call pr (m + 2)) (make pr (m + 2)) [.val (catT n A tb), .no, .no] (.v 1) (.n 1) (.bi .all [(.comp (.call 17 [(.v 0), (.v 2)]) (.n 2) (.call 15 [(.v 0), (.v 1)]))])) (zts n) S = .ok (endsL n A (invs A tb)) S := by
    have := compLoop_ofI (g := fun _ => true) (f := turnI pr (call pr (m + 2)) (make pr (m + 2)) [.val (catT n A tb), .no, .no] (.v 1) (.n 1) (.bi .all [(.comp (.call 17 [(.v 0), (.v 2)]) (.n 2) (.call 15 [(.v 0), (.v 1)]))])) (S := S) rfl (fun (k : Nat) => T.int (k : Int)) (fun i => (outsN A i).all (invs A tb)) (fun (k : Nat) => T.int (k : Int)) (xs := List.range n) fun i hi => by
      have ei : compLoop (fun _ => true) (turn pr (call pr (m + 2)) (make pr (m + 2)) [.val (catT n A tb), .val (.int i), .no] (.call 17 [(.v 0), (.v 2)]) (.n 2)) (outs A i) S = .ok ((outsN A i).map fun g => T.bl (invs A tb g)) S :=
        compLoop_of rfl _ _ fun g hg => by
          have hg := (mem_outs.mp hg).1
          simp [turn, c_linv m hc hg]
      simp [turnI, c_lout (m + 1) hc]
      rw [ei]
      simp only [bnd_ok, eV_nil, List.map_cons, List.map_nil, look_lst, bi_all_map, of_some, toT_ok]
      cases q : (outsN A i).all (invs A tb) <;> simp <;> simpa using q
    rw [zts, this, endsL, fl_map]
  have hl : compLoop (fun _ => true) (turnI pr (call pr (m + 2)) (make pr (m + 2)) [.val (.tup [.int n, .tup (A.map prT), .tup (tb.map rowI)]), .no, .no] (.v 1) (.n 1) (.bi .all [(.comp (.call 17 [(.v 0), (.v 2)]) (.n 2) (.call 15 [(.v 0), (.v 1)]))])) (zts n) S = .ok (endsL n A (invs A tb)) S := e
  simp [d_l_lasts, startE, catT, g.1, g.2]
  rw [hl]
  simp
end
/-! ### what can be reached is one -/
theorem arrs_nodup (n : Nat) (R : Nat → Nat → Bool) : (arrs n R).Nodup := by
  unfold arrs arrsTo
  rw [List.nodup_append]
  refine ⟨?_, ?_, fun x hx y hy e => ?_⟩
  · unfold dg List.Nodup
    rw [List.pairwise_map]
    exact List.Pairwise.imp (fun h => by simp; omega) (List.pairwise_lt_range (n := n))
  · unfold List.Nodup
    rw [List.pairwise_flatMap]
    refine ⟨fun i _ => ?_, ?_⟩
    · unfold more
      rw [List.pairwise_map]
      exact List.Pairwise.imp (fun h => by simp; omega) (List.Pairwise.filter _ (List.pairwise_lt_range (n := n)))
    · refine List.Pairwise.imp (fun h x hx y hy e => ?_) (List.pairwise_lt_range (n := n))
      simp only [more, List.mem_map] at hx hy
      obtain ⟨a, _, rfl⟩ := hx
      obtain ⟨b, _, rfl⟩ := hy
      simp at e
      omega
  · simp only [dg, List.mem_map] at hx
    simp only [List.mem_flatMap, more, List.mem_map, List.mem_filter, Bool.and_eq_true, decide_eq_true_eq] at hy
    obtain ⟨a, _, rfl⟩ := hx
    obtain ⟨i, _, j, ⟨_, h, _⟩, rfl⟩ := hy
    simp at e
    omega
theorem ar_idxOf {A : List (Nat × Nat)} {p : Nat × Nat} (h : p ∈ A) : A.idxOf p < A.length ∧ ar A (A.idxOf p) = p := by
  have hl := List.idxOf_lt_length_of_mem h
  refine ⟨hl, ?_⟩
  simp [ar, hl]
theorem idxOf_ar {A : List (Nat × Nat)} (nd : A.Nodup) {g : Nat} (h : g < A.length) : A.idxOf (ar A g) = g := by
  have hm : ar A g ∈ A := List.mem_of_getElem? (at_ar h)
  obtain ⟨h1, h2⟩ := ar_idxOf hm
  have e1 := at_ar h1
  have e2 := at_ar h
  rw [h2] at e1
  rw [List.getElem?_eq_some_iff] at e1 e2
  obtain ⟨a1, a2⟩ := e1
  obtain ⟨b1, b2⟩ := e2
  exact (List.getElem_inj nd).mp (a2.trans b2.symm)
theorem en_tbl {A : List (Nat × Nat)} {f g : Nat} (hf : f < A.length) (hg : g < A.length) : en (tbl A) f g = entry A (ar A f) (ar A g) := by
  simp [en, rwt, tbl, hf, hg, ar]
theorem cat_ord (n : Nat) (ps : List (Nat × Nat)) (n1 : 1 ≤ n) (n6 : n ≤ 6) (h24 : (arrs n (rB ps)).length ≤ 24) : Cat n (arrs n (rB ps)) (tbl (arrs n (rB ps))) := by
  have hm : ∀ f, f < (arrs n (rB ps)).length → ar (arrs n (rB ps)) f ∈ arrs n (rB ps) := fun f hf => List.mem_of_getElem? (at_ar hf)
  have nd := arrs_nodup n (rB ps)
  have cl := arrs_closed ps n
  have hid : ∀ i, i < n → ar (arrs n (rB ps)) i = (i, i) := fun i hi => by
    have : (dg n).length = n := by simp [dg]
    unfold ar arrs arrsTo
    rw [List.getD_eq_getElem?_getD, List.getElem?_append_left (by omega)]
    simp [dg, hi]
  refine ⟨n1, n6, ?_, h24, fun f hf => ?_, hid, by simp [tbl], fun f hf => ?_, fun f g hf hg h => ?_, fun f g hf hg h => ?_, fun f g h hf hg hh e1 e2 => ?_⟩
  · simp [arrs, arrsTo, dg]
  · have := (mem_arrs (rB_refl ps)).mp (hm f hf)
    exact ⟨this.1, this.2.1⟩
  · simp [rwt, tbl, hf]
  · rw [en_tbl hf hg, entry, if_neg h]
  · rw [en_tbl hf hg, entry, if_pos h]
    obtain ⟨k1, k2⟩ := ar_idxOf (cl _ (hm f hf) _ (hm g hg) h)
    refine ⟨_, k1, rfl, k2, fun hfn => ?_, fun hgn => ?_⟩
    · have := hid f hfn
      have e : ((ar (arrs n (rB ps)) f).1, (ar (arrs n (rB ps)) g).2) = ar (arrs n (rB ps)) g := by
        rw [this] at h
        rw [this]
        exact Prod.ext h rfl
      rw [e, idxOf_ar nd hg]
    · have := hid g hgn
      have e : ((ar (arrs n (rB ps)) f).1, (ar (arrs n (rB ps)) g).2) = ar (arrs n (rB ps)) f := by
        rw [this] at h
        rw [this]
        exact Prod.ext rfl h.symm
      rw [e, idxOf_ar nd hf]
  · obtain ⟨k1, k2⟩ := ar_idxOf (cl _ (hm f hf) _ (hm g hg) e1)
    obtain ⟨l1, l2⟩ := ar_idxOf (cl _ (hm g hg) _ (hm h hh) e2)
    have a1 : en (tbl (arrs n (rB ps))) f g = ((arrs n (rB ps)).idxOf ((ar (arrs n (rB ps)) f).1, (ar (arrs n (rB ps)) g).2) : Nat) := by rw [en_tbl hf hg, entry, if_pos e1]
    have a2 : en (tbl (arrs n (rB ps))) g h = ((arrs n (rB ps)).idxOf ((ar (arrs n (rB ps)) g).1, (ar (arrs n (rB ps)) h).2) : Nat) := by rw [en_tbl hg hh, entry, if_pos e2]
    rw [a1, a2]
    simp only [Int.toNat_natCast]
    rw [en_tbl k1 hh, en_tbl hf l1, entry, entry, k2, l2]
    rw [if_pos e2, if_pos e1]
/-! ### told ones -/
def catB (n : Nat) (A : List (Nat × Nat)) (tb : List (List Int)) : Bool :=
  decide (1 ≤ n) && decide (n ≤ 6) && decide (n ≤ A.length) && decide (A.length ≤ 24) && decide (tb.length = A.length) &&
  ((List.range n).all fun i => decide (ar A i = (i, i))) &&
  ((List.range A.length).all fun f => decide ((ar A f).1 < n) && decide ((ar A f).2 < n) && decide ((rwt tb f).length = A.length) &&
    (List.range A.length).all fun g => if (ar A f).2 = (ar A g).1 then
      (decide ((((en tb f g).toNat : Nat) : Int) = en tb f g) && decide ((en tb f g).toNat < A.length) && decide (ar A (en tb f g).toNat = ((ar A f).1, (ar A g).2)) && (!decide (f < n) || decide ((en tb f g).toNat = g)) && (!decide (g < n) || decide ((en tb f g).toNat = f)) &&
        (List.range A.length).all fun h => !decide ((ar A g).2 = (ar A h).1) || decide (en tb (en tb f g).toNat h = en tb f (en tb g h).toNat))
      else decide (en tb f g = -1))
theorem catB_ok {n : Nat} {A : List (Nat × Nat)} {tb : List (List Int)} (h : catB n A tb = true) : Cat n A tb := by
  unfold catB at h
  simp only [Bool.and_eq_true, decide_eq_true_eq, List.all_eq_true, List.mem_range] at h
  obtain ⟨⟨⟨⟨⟨⟨h1, h2⟩, h3⟩, h4⟩, h5⟩, h6⟩, h7⟩ := h
  have pos : ∀ f g, f < A.length → g < A.length → (ar A f).2 = (ar A g).1 → _ := fun f g hf hg q => by
    have := (h7 f hf).2 g hg
    rw [if_pos q] at this
    simp only [Bool.and_eq_true, Bool.or_eq_true, Bool.not_eq_true', decide_eq_false_iff_not, decide_eq_true_eq, List.all_eq_true, List.mem_range] at this
    exact this
  refine ⟨h1, h2, h3, h4, fun f hf => ⟨(h7 f hf).1.1.1, (h7 f hf).1.1.2⟩, h6, h5, fun f hf => (h7 f hf).1.2, fun f g hf hg q => ?_, fun f g hf hg q => ?_, fun f g k hf hg hk q q' => ?_⟩
  · have := (h7 f hf).2 g hg
    rw [if_neg q] at this
    simpa using this
  · obtain ⟨⟨⟨⟨⟨a1, a2⟩, a3⟩, a4⟩, a5⟩, a6⟩ := pos f g hf hg q
    exact ⟨_, a2, a1.symm, a3, fun h => a4.resolve_left fun z => z h, fun h => a5.resolve_left fun z => z h⟩
  · obtain ⟨⟨⟨⟨⟨a1, a2⟩, a3⟩, a4⟩, a5⟩, a6⟩ := pos f g hf hg q
    exact (a6 k hk).resolve_left fun z => z q'
def KN : Nat → Nat × List (Nat × Nat) × List (List Int)
  | 0 => (1, [(0, 0), (0, 0)], [[0, 1], [1, 1]])
  | 1 => (1, [(0, 0), (0, 0)], [[0, 1], [1, 0]])
  | 2 => (1, [(0, 0), (0, 0), (0, 0)], [[0, 1, 2], [1, 2, 0], [2, 0, 1]])
  | 3 => (1, [(0, 0), (0, 0), (0, 0)], [[0, 1, 2], [1, 1, 1], [2, 2, 2]])
  | 4 => (1, [(0, 0), (0, 0), (0, 0)], [[0, 1, 2], [1, 1, 2], [2, 1, 2]])
  | 5 => (1, [(0, 0), (0, 0), (0, 0)], [[0, 1, 2], [1, 2, 2], [2, 2, 2]])
  | 6 => (2, [(0, 0), (1, 1), (0, 1), (0, 1)], [[0, -1, 2, 3], [-1, 1, -1, -1], [-1, 2, -1, -1], [-1, 3, -1, -1]])
  | 7 => (2, [(0, 0), (1, 1), (0, 1), (1, 0), (1, 1)], [[0, -1, 2, -1, -1], [-1, 1, -1, 3, 4], [-1, 2, -1, 0, 2], [3, -1, 4, -1, -1], [-1, 4, -1, 3, 4]])
  | 8 => (2, [(0, 0), (1, 1), (1, 1), (0, 1)], [[0, -1, -1, 3], [-1, 1, 2, -1], [-1, 2, 1, -1], [-1, 3, 3, -1]])
  | _ => (2, [(0, 0), (1, 1), (1, 1), (0, 1), (0, 1)], [[0, -1, -1, 3, 4], [-1, 1, 2, -1, -1], [-1, 2, 1, -1, -1], [-1, 3, 4, -1, -1], [-1, 4, 3, -1, -1]])
def KT (i : Nat) : T := catT (KN i).1 (KN i).2.1 (KN i).2.2
theorem kn_cats : ((List.range 10).all fun i => catB (KN i).1 (KN i).2.1 (KN i).2.2) = true := by decide +kernel
theorem kn_cat {i : Nat} (h : i < 10) : Cat (KN i).1 (KN i).2.1 (KN i).2.2 := catB_ok (List.all_eq_true.mp kn_cats i (by simpa using h))
theorem c_known (m : Nat) {i : Nat} (h : i < 10) (S : Store) : call pr (m + 1) 14 [.int i] S = .ok (KT i) S := by
  rw [call_of (d := d_l_known) rfl rfl]
  have hm : Op2.ev .mul (.tup [.tup [.int 0, .int 0]]) (.int 3) = some (.tup [.tup [.int 0, .int 0], .tup [.int 0, .int 0], .tup [.int 0, .int 0]]) := rfl
  have hi : i = 0 ∨ i = 1 ∨ i = 2 ∨ i = 3 ∨ i = 4 ∨ i = 5 ∨ i = 6 ∨ i = 7 ∨ i = 8 ∨ i = 9 := by omega
  rcases hi with rfl | rfl | rfl | rfl | rfl | rfl | rfl | rfl | rfl | rfl <;> simp [d_l_known, startE, hm, KT, KN, catT, prT, rowI]
end K09
end Hf
end

section
set_option Elab.async false
set_option linter.all false
set_option maxRecDepth 100000
set_option maxHeartbeats 200000
/-! K09l: the plain law of k09: two categories side by side. -/
namespace Hf
theorem cut_take (xs : List T) (i : Nat) (h : i ≤ xs.length) : T.cut (.tup xs) none (some (i : Int)) = some (.tup (xs.take i)) := by
  simp only [T.cut, cutL, sIx]
  have : ¬ (i : Int) < 0 := by omega
  simp only [this, if_false]
  simp
  try omega
theorem cut_drop (xs : List T) (i : Nat) (h : i ≤ xs.length) : T.cut (.tup xs) (some (i : Int)) none = some (.tup (xs.drop i)) := by
  simp only [T.cut, cutL, sIx]
  have : ¬ (i : Int) < 0 := by omega
  simp only [this, if_false]
  have e : min (i : Int).toNat xs.length = i := by simp; omega
  rw [e, List.take_of_length_le (by simp)]
namespace K09
open P09
abbrev Mx := Nat → Nat → Int
def rowZ (l : Nat) (f : Nat → Int) : List T := (List.range l).map fun j => T.int (f j)
def Rz (l b : Nat) (M : Mx) (S : Store) : Prop := ∀ i, i < l → S[b + i]? = some (.lst (rowZ l (M i)))
def updZ (M : Mx) (s e : Nat) (v : Int) : Mx := fun i j => if i = s ∧ j = e then v else M i j
theorem rowZ_set {n : Nat} {f : Nat → Int} {j : Nat} (v : Int) : (rowZ n f).set j (.int v) = rowZ n (fun k => if k = j then v else f k) := by
  apply List.ext_getElem?
  intro i
  simp only [rowZ, List.getElem?_set, List.getElem?_map, List.length_map, List.length_range]
  by_cases h : j = i
  · subst h
    by_cases hj : j < n <;> simp [hj]
  · have h' : ¬ i = j := fun e => h e.symm
    by_cases hi : i < n <;> simp [h, h', hi]
theorem Rz.set {n b : Nat} {L : Mx} {S : Store} (h : Rz n b L S) {s e : Nat} (hs : s < n) (v : Int) : Rz n b (updZ L s e v) (S.set (b + s) (.lst ((rowZ n (L s)).set e (.int v)))) ∧ Fr b S (S.set (b + s) (.lst ((rowZ n (L s)).set e (.int v)))) := by
  have hl : b + s < S.length := (List.getElem?_eq_some_iff.mp (h s hs)).1
  refine ⟨fun i hi => ?_, by simp, fun i hi => by rw [List.getElem?_set_ne (by omega)]⟩
  by_cases q : i = s
  · subst q
    rw [List.getElem?_set_self hl, rowZ_set]
    have : (fun k => if k = e then v else L i k) = updZ L i e v i := by funext k; simp [updZ]
    rw [this]
  · rw [List.getElem?_set_ne (by omega), h i hi]
    have : L i = updZ L s e v i := by funext k; simp [updZ, q]
    rw [← this]
def stp (sp : Nat → Nat) (tb : List (List Int)) (M : Mx) (f g : Nat) : Mx := if 0 ≤ en tb f g then updZ M (sp f) (sp g) (sp (en tb f g).toNat : Nat) else M
def rowM (sp : Nat → Nat) (tb : List (List Int)) (f k : Nat) (M : Mx) : Mx := (List.range k).foldl (fun M g => stp sp tb M f g) M
def allM (sp : Nat → Nat) (tb : List (List Int)) (n k : Nat) (M : Mx) : Mx := (List.range k).foldl (fun M f => rowM sp tb f n M) M
def sps (sp : Nat → Nat) (k : Nat) : List T := (List.range k).map fun i => T.int (sp i : Nat)
theorem atI_sps {sp : Nat → Nat} {k i : Nat} (h : i < k) : atI (sps sp k) (i : Int) = some (.int (sp i : Nat)) := by
  rw [atI_nat]; simp [sps, h]
section
variable {n : Nat} {A : List (Nat × Nat)} {tb : List (List Int)} (cf mk : Nat → List T → Store → Res T) (hc : Cat n A tb) {l b : Nat} {sp : Nat → Nat} (hsp : ∀ k, k < A.length → sp k < l)
include hc hsp
theorem bes_one {M : Mx} {S : Store} (h : Rz l b M S) {f g : Nat} (hf : f < A.length) (hg : g < A.length) (x0 x1 x2 x3 x4 x5 x10 x11 x12 x13 x14 : Slot) :
    ∃ S', goS pr cf mk (.n 12) d_l_beside_b1 (.int g) [x0, x1, x2, x3, x4, x5, .val (.lst (refs l b)), .val (catT n A tb), .val (.lst (sps sp A.length)), .val (.int f), x10, x11, x12, x13, x14] S = .nx [x0, x1, x2, x3, x4, x5, .val (.lst (refs l b)), .val (catT n A tb), .val (.lst (sps sp A.length)), .val (.int f), x10, x11, .val (.int g), x13, x14] S' ∧
      Rz l b (stp sp tb M f g) S' ∧ Fr b S S' := by
  have e1 := atI_tb hc hf
  have e2 := atI_row2 hc hf hg
  by_cases q : (ar A f).2 = (ar A g).1
  · obtain ⟨k, k1, k2, _⟩ := hc.cm f g hf hg q
    have h0 : (0 : Int) ≤ k := by omega
    have st : stp sp tb M f g = updZ M (sp f) (sp g) (sp k : Nat) := by
      unfold stp; rw [k2, if_pos h0]; simp
    rw [st]
    have a1 := hsp f hf
    have ix : ixN (rowZ l (M (sp f))).length ((sp g : Nat) : Int) = some (sp g) := ixN_nat _ _ (by simp [rowZ, hsp g hg])
    have se := fun t r => setc_at (h (sp f) a1) ix t r
    refine ⟨_, ?_, (h.set a1 _)⟩
    simp [goS, d_l_beside_b1, catT, e1, rowI, e2, k2, h0, atI_sps hf, atI_sps hg, atI_sps k1, atI_refs a1, se]
  · have k2 := hc.no f g hf hg q
    have st : stp sp tb M f g = M := by
      unfold stp; rw [k2]; rfl
    rw [st]
    refine ⟨S, ?_, h, Fr.refl _ _⟩
    simp [goS, d_l_beside_b1, catT, e1, rowI, e2, k2]
theorem bes_row {M : Mx} {S : Store} (h : Rz l b M S) {f : Nat} (hf : f < A.length) (x0 x1 x2 x3 x4 x5 x9 x10 x11 x12 x13 x14 : Slot) :
    ∃ y12 S', goS pr cf mk (.n 9) d_l_beside_b2 (.int f) [x0, x1, x2, x3, x4, x5, .val (.lst (refs l b)), .val (catT n A tb), .val (.lst (sps sp A.length)), x9, x10, x11, x12, x13, x14] S = .nx [x0, x1, x2, x3, x4, x5, .val (.lst (refs l b)), .val (catT n A tb), .val (.lst (sps sp A.length)), .val (.int f), x10, x11, y12, x13, x14] S' ∧
      Rz l b (rowM sp tb f A.length M) S' ∧ Fr b S S' := by
  have g1 := rng_nat (n := A.length) (by have := hc.A24; omega)
  obtain ⟨r', S', e, ⟨y12, rfl⟩, e2, e3⟩ := forS_inv (g := fun _ => true) (f := goS pr cf mk (.n 12) d_l_beside_b1) (fun (k : Nat) => T.int (k : Int)) (fun k r S' => (∃ x12, r = [x0, x1, x2, x3, x4, x5, .val (.lst (refs l b)), .val (catT n A tb), .val (.lst (sps sp A.length)), .val (.int f), x10, x11, x12, x13, x14]) ∧ Rz l b (rowM sp tb f k M) S' ∧ Fr b S S') (fun _ => rfl) (List.range A.length) 0 [x0, x1, x2, x3, x4, x5, .val (.lst (refs l b)), .val (catT n A tb), .val (.lst (sps sp A.length)), .val (.int f), x10, x11, x12, x13, x14] S (fun j x hx r S1 hI => by
    obtain ⟨hx, rfl⟩ := range_get hx
    obtain ⟨⟨x12, rfl⟩, h1, h2⟩ := hI
    rw [Nat.zero_add] at *
    obtain ⟨S', e, k1, k2⟩ := bes_one cf mk hc hsp h1 hf hx x0 x1 x2 x3 x4 x5 x10 x11 x12 x13 x14
    refine ⟨_, S', e, ⟨_, rfl⟩, ?_, h2.trans k2⟩
    have : rowM sp tb f (x + 1) M = stp sp tb (rowM sp tb f x M) f x := by simp [rowM, List.range_succ]
    rw [this]
    exact k1) ⟨⟨x12, rfl⟩, h, Fr.refl _ _⟩
  rw [Nat.zero_add, List.length_range] at e2
  refine ⟨y12, S', ?_, e2, e3⟩
  simp only [goS, d_l_beside_b2, bindT_n]
  have ct : catT n A tb = .tup [.int n, .tup (A.map prT), .tup (tb.map rowI)] := rfl
  simp [ct, g1.1, g1.2]
  rw [← ct, zts, e]
  simp
theorem bes_all {M : Mx} {S : Store} (h : Rz l b M S) (x0 x1 x2 x3 x4 x5 x7 x8 x9 x10 x11 x12 x13 x14 : Slot) :
    ∃ y9 y12 S', goS pr cf mk (.t [7, 8]) d_l_beside_b3 (.tup [catT n A tb, .lst (sps sp A.length)]) [x0, x1, x2, x3, x4, x5, .val (.lst (refs l b)), x7, x8, x9, x10, x11, x12, x13, x14] S = .nx [x0, x1, x2, x3, x4, x5, .val (.lst (refs l b)), .val (catT n A tb), .val (.lst (sps sp A.length)), y9, x10, x11, y12, x13, x14] S' ∧
      Rz l b (allM sp tb A.length A.length M) S' ∧ Fr b S S' := by
  have g1 := rng_nat (n := A.length) (by have := hc.A24; omega)
  obtain ⟨r', S', e, ⟨y9, y12, rfl⟩, e2, e3⟩ := forS_inv (g := fun _ => true) (f := goS pr cf mk (.n 9) d_l_beside_b2) (fun (k : Nat) => T.int (k : Int)) (fun k r S' => (∃ x9 x12, r = [x0, x1, x2, x3, x4, x5, .val (.lst (refs l b)), .val (catT n A tb), .val (.lst (sps sp A.length)), x9, x10, x11, x12, x13, x14]) ∧ Rz l b (allM sp tb A.length k M) S' ∧ Fr b S S') (fun _ => rfl) (List.range A.length) 0 [x0, x1, x2, x3, x4, x5, .val (.lst (refs l b)), .val (catT n A tb), .val (.lst (sps sp A.length)), x9, x10, x11, x12, x13, x14] S (fun j x hx r S1 hI => by
    obtain ⟨hx, rfl⟩ := range_get hx
    obtain ⟨⟨x9, x12, rfl⟩, h1, h2⟩ := hI
    rw [Nat.zero_add] at *
    obtain ⟨y12, S', e, k1, k2⟩ := bes_row cf mk hc hsp h1 hx x0 x1 x2 x3 x4 x5 x9 x10 x11 x12 x13 x14
    refine ⟨_, S', e, ⟨_, _, rfl⟩, ?_, h2.trans k2⟩
    have : allM sp tb A.length (x + 1) M = rowM sp tb x A.length (allM sp tb A.length x M) := by simp [allM, List.range_succ]
    rw [this]
    exact k1) ⟨⟨x9, x12, rfl⟩, h, Fr.refl _ _⟩
  rw [Nat.zero_add, List.length_range] at e2
  refine ⟨y9, y12, S', ?_, e2, e3⟩
  simp only [goS, d_l_beside_b3, bindT_t, bindTs_cons, bindTs_nil]
  have ct : catT n A tb = .tup [.int n, .tup (A.map prT), .tup (tb.map rowI)] := rfl
  simp [ct, g1.1, g1.2]
  rw [← ct, zts, e]
  simp
end
/-! ### the two together -/
def sp1 (n1 n2 : Nat) (k : Nat) : Nat := if k < n1 then k else n1 + n2 + (k - n1)
def sp2 (n1 l1 n2 : Nat) (k : Nat) : Nat := if k < n2 then n1 + k else n1 + n2 + (l1 - n1) + (k - n2)
abbrev Dt := Nat × List (Nat × Nat) × List (List Int)
def besA (c d : Dt) : List (Nat × Nat) := (dg (c.1 + d.1) ++ c.2.1.drop c.1) ++ (d.2.1.drop d.1).map fun p => (c.1 + p.1, c.1 + p.2)
def besM (c d : Dt) : Mx := allM (sp2 c.1 c.2.1.length d.1) d.2.2 d.2.1.length d.2.1.length (allM (sp1 c.1 d.1) c.2.2 c.2.1.length c.2.1.length fun _ _ => -1)
def besT (c d : Dt) : List (List Int) := (List.range (besA c d).length).map fun i => (List.range (besA c d).length).map fun j => besM c d i j
end K09
end Hf
end

section
set_option Elab.async false
set_option linter.all false
set_option maxRecDepth 100000
set_option maxHeartbeats 0
/-! K09m: the tables of the known ones side by side. -/
namespace Hf
namespace K09
def lit0 : List (List (List Int)) := [[[0, -1, 2, -1], [-1, 1, -1, 3], [2, -1, 2, -1], [-1, 3, -1, 3]], [[0, -1, 2, -1], [-1, 1, -1, 3], [2, -1, 2, -1], [-1, 3, -1, 1]], [[0, -1, 2, -1, -1], [-1, 1, -1, 3, 4], [2, -1, 2, -1, -1], [-1, 3, -1, 4, 1], [-1, 4, -1, 1, 3]], [[0, -1, 2, -1, -1], [-1, 1, -1, 3, 4], [2, -1, 2, -1, -1], [-1, 3, -1, 3, 3], [-1, 4, -1, 4, 4]], [[0, -1, 2, -1, -1], [-1, 1, -1, 3, 4], [2, -1, 2, -1, -1], [-1, 3, -1, 3, 4], [-1, 4, -1, 3, 4]], [[0, -1, 2, -1, -1], [-1, 1, -1, 3, 4], [2, -1, 2, -1, -1], [-1, 3, -1, 4, 4], [-1, 4, -1, 4, 4]], [[0, -1, -1, 3, -1, -1], [-1, 1, -1, -1, 4, 5], [-1, -1, 2, -1, -1, -1], [3, -1, -1, 3, -1, -1], [-1, -1, 4, -1, -1, -1], [-1, -1, 5, -1, -1, -1]], [[0, -1, -1, 3, -1, -1, -1], [-1, 1, -1, -1, 4, -1, -1], [-1, -1, 2, -1, -1, 5, 6], [3, -1, -1, 3, -1, -1, -1], [-1, -1, 4, -1, -1, 1, 4], [-1, 5, -1, -1, 6, -1, -1], [-1, -1, 6, -1, -1, 5, 6]], [[0, -1, -1, 3, -1, -1], [-1, 1, -1, -1, -1, 5], [-1, -1, 2, -1, 4, -1], [3, -1, -1, 3, -1, -1], [-1, -1, 4, -1, 2, -1], [-1, -1, 5, -1, 5, -1]], [[0, -1, -1, 3, -1, -1, -1], [-1, 1, -1, -1, -1, 5, 6], [-1, -1, 2, -1, 4, -1, -1], [3, -1, -1, 3, -1, -1, -1], [-1, -1, 4, -1, 2, -1, -1], [-1, -1, 5, -1, 6, -1, -1], [-1, -1, 6, -1, 5, -1, -1]]]
def lit1 : List (List (List Int)) := [[[0, -1, 2, -1], [-1, 1, -1, 3], [2, -1, 0, -1], [-1, 3, -1, 3]], [[0, -1, 2, -1], [-1, 1, -1, 3], [2, -1, 0, -1], [-1, 3, -1, 1]], [[0, -1, 2, -1, -1], [-1, 1, -1, 3, 4], [2, -1, 0, -1, -1], [-1, 3, -1, 4, 1], [-1, 4, -1, 1, 3]], [[0, -1, 2, -1, -1], [-1, 1, -1, 3, 4], [2, -1, 0, -1, -1], [-1, 3, -1, 3, 3], [-1, 4, -1, 4, 4]], [[0, -1, 2, -1, -1], [-1, 1, -1, 3, 4], [2, -1, 0, -1, -1], [-1, 3, -1, 3, 4], [-1, 4, -1, 3, 4]], [[0, -1, 2, -1, -1], [-1, 1, -1, 3, 4], [2, -1, 0, -1, -1], [-1, 3, -1, 4, 4], [-1, 4, -1, 4, 4]], [[0, -1, -1, 3, -1, -1], [-1, 1, -1, -1, 4, 5], [-1, -1, 2, -1, -1, -1], [3, -1, -1, 0, -1, -1], [-1, -1, 4, -1, -1, -1], [-1, -1, 5, -1, -1, -1]], [[0, -1, -1, 3, -1, -1, -1], [-1, 1, -1, -1, 4, -1, -1], [-1, -1, 2, -1, -1, 5, 6], [3, -1, -1, 0, -1, -1, -1], [-1, -1, 4, -1, -1, 1, 4], [-1, 5, -1, -1, 6, -1, -1], [-1, -1, 6, -1, -1, 5, 6]], [[0, -1, -1, 3, -1, -1], [-1, 1, -1, -1, -1, 5], [-1, -1, 2, -1, 4, -1], [3, -1, -1, 0, -1, -1], [-1, -1, 4, -1, 2, -1], [-1, -1, 5, -1, 5, -1]], [[0, -1, -1, 3, -1, -1, -1], [-1, 1, -1, -1, -1, 5, 6], [-1, -1, 2, -1, 4, -1, -1], [3, -1, -1, 0, -1, -1, -1], [-1, -1, 4, -1, 2, -1, -1], [-1, -1, 5, -1, 6, -1, -1], [-1, -1, 6, -1, 5, -1, -1]]]
def lit2 : List (List (List Int)) := [[[0, -1, 2, 3, -1], [-1, 1, -1, -1, 4], [2, -1, 3, 0, -1], [3, -1, 0, 2, -1], [-1, 4, -1, -1, 4]], [[0, -1, 2, 3, -1], [-1, 1, -1, -1, 4], [2, -1, 3, 0, -1], [3, -1, 0, 2, -1], [-1, 4, -1, -1, 1]], [[0, -1, 2, 3, -1, -1], [-1, 1, -1, -1, 4, 5], [2, -1, 3, 0, -1, -1], [3, -1, 0, 2, -1, -1], [-1, 4, -1, -1, 5, 1], [-1, 5, -1, -1, 1, 4]], [[0, -1, 2, 3, -1, -1], [-1, 1, -1, -1, 4, 5], [2, -1, 3, 0, -1, -1], [3, -1, 0, 2, -1, -1], [-1, 4, -1, -1, 4, 4], [-1, 5, -1, -1, 5, 5]], [[0, -1, 2, 3, -1, -1], [-1, 1, -1, -1, 4, 5], [2, -1, 3, 0, -1, -1], [3, -1, 0, 2, -1, -1], [-1, 4, -1, -1, 4, 5], [-1, 5, -1, -1, 4, 5]], [[0, -1, 2, 3, -1, -1], [-1, 1, -1, -1, 4, 5], [2, -1, 3, 0, -1, -1], [3, -1, 0, 2, -1, -1], [-1, 4, -1, -1, 5, 5], [-1, 5, -1, -1, 5, 5]], [[0, -1, -1, 3, 4, -1, -1], [-1, 1, -1, -1, -1, 5, 6], [-1, -1, 2, -1, -1, -1, -1], [3, -1, -1, 4, 0, -1, -1], [4, -1, -1, 0, 3, -1, -1], [-1, -1, 5, -1, -1, -1, -1], [-1, -1, 6, -1, -1, -1, -1]], [[0, -1, -1, 3, 4, -1, -1, -1], [-1, 1, -1, -1, -1, 5, -1, -1], [-1, -1, 2, -1, -1, -1, 6, 7], [3, -1, -1, 4, 0, -1, -1, -1], [4, -1, -1, 0, 3, -1, -1, -1], [-1, -1, 5, -1, -1, -1, 1, 5], [-1, 6, -1, -1, -1, 7, -1, -1], [-1, -1, 7, -1, -1, -1, 6, 7]], [[0, -1, -1, 3, 4, -1, -1], [-1, 1, -1, -1, -1, -1, 6], [-1, -1, 2, -1, -1, 5, -1], [3, -1, -1, 4, 0, -1, -1], [4, -1, -1, 0, 3, -1, -1], [-1, -1, 5, -1, -1, 2, -1], [-1, -1, 6, -1, -1, 6, -1]], [[0, -1, -1, 3, 4, -1, -1, -1], [-1, 1, -1, -1, -1, -1, 6, 7], [-1, -1, 2, -1, -1, 5, -1, -1], [3, -1, -1, 4, 0, -1, -1, -1], [4, -1, -1, 0, 3, -1, -1, -1], [-1, -1, 5, -1, -1, 2, -1, -1], [-1, -1, 6, -1, -1, 7, -1, -1], [-1, -1, 7, -1, -1, 6, -1, -1]]]
def lit3 : List (List (List Int)) := [[[0, -1, 2, 3, -1], [-1, 1, -1, -1, 4], [2, -1, 2, 2, -1], [3, -1, 3, 3, -1], [-1, 4, -1, -1, 4]], [[0, -1, 2, 3, -1], [-1, 1, -1, -1, 4], [2, -1, 2, 2, -1], [3, -1, 3, 3, -1], [-1, 4, -1, -1, 1]], [[0, -1, 2, 3, -1, -1], [-1, 1, -1, -1, 4, 5], [2, -1, 2, 2, -1, -1], [3, -1, 3, 3, -1, -1], [-1, 4, -1, -1, 5, 1], [-1, 5, -1, -1, 1, 4]], [[0, -1, 2, 3, -1, -1], [-1, 1, -1, -1, 4, 5], [2, -1, 2, 2, -1, -1], [3, -1, 3, 3, -1, -1], [-1, 4, -1, -1, 4, 4], [-1, 5, -1, -1, 5, 5]], [[0, -1, 2, 3, -1, -1], [-1, 1, -1, -1, 4, 5], [2, -1, 2, 2, -1, -1], [3, -1, 3, 3, -1, -1], [-1, 4, -1, -1, 4, 5], [-1, 5, -1, -1, 4, 5]], [[0, -1, 2, 3, -1, -1], [-1, 1, -1, -1, 4, 5], [2, -1, 2, 2, -1, -1], [3, -1, 3, 3, -1, -1], [-1, 4, -1, -1, 5, 5], [-1, 5, -1, -1, 5, 5]], [[0, -1, -1, 3, 4, -1, -1], [-1, 1, -1, -1, -1, 5, 6], [-1, -1, 2, -1, -1, -1, -1], [3, -1, -1, 3, 3, -1, -1], [4, -1, -1, 4, 4, -1, -1], [-1, -1, 5, -1, -1, -1, -1], [-1, -1, 6, -1, -1, -1, -1]], [[0, -1, -1, 3, 4, -1, -1, -1], [-1, 1, -1, -1, -1, 5, -1, -1], [-1, -1, 2, -1, -1, -1, 6, 7], [3, -1, -1, 3, 3, -1, -1, -1], [4, -1, -1, 4, 4, -1, -1, -1], [-1, -1, 5, -1, -1, -1, 1, 5], [-1, 6, -1, -1, -1, 7, -1, -1], [-1, -1, 7, -1, -1, -1, 6, 7]], [[0, -1, -1, 3, 4, -1, -1], [-1, 1, -1, -1, -1, -1, 6], [-1, -1, 2, -1, -1, 5, -1], [3, -1, -1, 3, 3, -1, -1], [4, -1, -1, 4, 4, -1, -1], [-1, -1, 5, -1, -1, 2, -1], [-1, -1, 6, -1, -1, 6, -1]], [[0, -1, -1, 3, 4, -1, -1, -1], [-1, 1, -1, -1, -1, -1, 6, 7], [-1, -1, 2, -1, -1, 5, -1, -1], [3, -1, -1, 3, 3, -1, -1, -1], [4, -1, -1, 4, 4, -1, -1, -1], [-1, -1, 5, -1, -1, 2, -1, -1], [-1, -1, 6, -1, -1, 7, -1, -1], [-1, -1, 7, -1, -1, 6, -1, -1]]]
def lit4 : List (List (List Int)) := [[[0, -1, 2, 3, -1], [-1, 1, -1, -1, 4], [2, -1, 2, 3, -1], [3, -1, 2, 3, -1], [-1, 4, -1, -1, 4]], [[0, -1, 2, 3, -1], [-1, 1, -1, -1, 4], [2, -1, 2, 3, -1], [3, -1, 2, 3, -1], [-1, 4, -1, -1, 1]], [[0, -1, 2, 3, -1, -1], [-1, 1, -1, -1, 4, 5], [2, -1, 2, 3, -1, -1], [3, -1, 2, 3, -1, -1], [-1, 4, -1, -1, 5, 1], [-1, 5, -1, -1, 1, 4]], [[0, -1, 2, 3, -1, -1], [-1, 1, -1, -1, 4, 5], [2, -1, 2, 3, -1, -1], [3, -1, 2, 3, -1, -1], [-1, 4, -1, -1, 4, 4], [-1, 5, -1, -1, 5, 5]], [[0, -1, 2, 3, -1, -1], [-1, 1, -1, -1, 4, 5], [2, -1, 2, 3, -1, -1], [3, -1, 2, 3, -1, -1], [-1, 4, -1, -1, 4, 5], [-1, 5, -1, -1, 4, 5]], [[0, -1, 2, 3, -1, -1], [-1, 1, -1, -1, 4, 5], [2, -1, 2, 3, -1, -1], [3, -1, 2, 3, -1, -1], [-1, 4, -1, -1, 5, 5], [-1, 5, -1, -1, 5, 5]], [[0, -1, -1, 3, 4, -1, -1], [-1, 1, -1, -1, -1, 5, 6], [-1, -1, 2, -1, -1, -1, -1], [3, -1, -1, 3, 4, -1, -1], [4, -1, -1, 3, 4, -1, -1], [-1, -1, 5, -1, -1, -1, -1], [-1, -1, 6, -1, -1, -1, -1]], [[0, -1, -1, 3, 4, -1, -1, -1], [-1, 1, -1, -1, -1, 5, -1, -1], [-1, -1, 2, -1, -1, -1, 6, 7], [3, -1, -1, 3, 4, -1, -1, -1], [4, -1, -1, 3, 4, -1, -1, -1], [-1, -1, 5, -1, -1, -1, 1, 5], [-1, 6, -1, -1, -1, 7, -1, -1], [-1, -1, 7, -1, -1, -1, 6, 7]], [[0, -1, -1, 3, 4, -1, -1], [-1, 1, -1, -1, -1, -1, 6], [-1, -1, 2, -1, -1, 5, -1], [3, -1, -1, 3, 4, -1, -1], [4, -1, -1, 3, 4, -1, -1], [-1, -1, 5, -1, -1, 2, -1], [-1, -1, 6, -1, -1, 6, -1]], [[0, -1, -1, 3, 4, -1, -1, -1], [-1, 1, -1, -1, -1, -1, 6, 7], [-1, -1, 2, -1, -1, 5, -1, -1], [3, -1, -1, 3, 4, -1, -1, -1], [4, -1, -1, 3, 4, -1, -1, -1], [-1, -1, 5, -1, -1, 2, -1, -1], [-1, -1, 6, -1, -1, 7, -1, -1], [-1, -1, 7, -1, -1, 6, -1, -1]]]
def lit5 : List (List (List Int)) := [[[0, -1, 2, 3, -1], [-1, 1, -1, -1, 4], [2, -1, 3, 3, -1], [3, -1, 3, 3, -1], [-1, 4, -1, -1, 4]], [[0, -1, 2, 3, -1], [-1, 1, -1, -1, 4], [2, -1, 3, 3, -1], [3, -1, 3, 3, -1], [-1, 4, -1, -1, 1]], [[0, -1, 2, 3, -1, -1], [-1, 1, -1, -1, 4, 5], [2, -1, 3, 3, -1, -1], [3, -1, 3, 3, -1, -1], [-1, 4, -1, -1, 5, 1], [-1, 5, -1, -1, 1, 4]], [[0, -1, 2, 3, -1, -1], [-1, 1, -1, -1, 4, 5], [2, -1, 3, 3, -1, -1], [3, -1, 3, 3, -1, -1], [-1, 4, -1, -1, 4, 4], [-1, 5, -1, -1, 5, 5]], [[0, -1, 2, 3, -1, -1], [-1, 1, -1, -1, 4, 5], [2, -1, 3, 3, -1, -1], [3, -1, 3, 3, -1, -1], [-1, 4, -1, -1, 4, 5], [-1, 5, -1, -1, 4, 5]], [[0, -1, 2, 3, -1, -1], [-1, 1, -1, -1, 4, 5], [2, -1, 3, 3, -1, -1], [3, -1, 3, 3, -1, -1], [-1, 4, -1, -1, 5, 5], [-1, 5, -1, -1, 5, 5]], [[0, -1, -1, 3, 4, -1, -1], [-1, 1, -1, -1, -1, 5, 6], [-1, -1, 2, -1, -1, -1, -1], [3, -1, -1, 4, 4, -1, -1], [4, -1, -1, 4, 4, -1, -1], [-1, -1, 5, -1, -1, -1, -1], [-1, -1, 6, -1, -1, -1, -1]], [[0, -1, -1, 3, 4, -1, -1, -1], [-1, 1, -1, -1, -1, 5, -1, -1], [-1, -1, 2, -1, -1, -1, 6, 7], [3, -1, -1, 4, 4, -1, -1, -1], [4, -1, -1, 4, 4, -1, -1, -1], [-1, -1, 5, -1, -1, -1, 1, 5], [-1, 6, -1, -1, -1, 7, -1, -1], [-1, -1, 7, -1, -1, -1, 6, 7]], [[0, -1, -1, 3, 4, -1, -1], [-1, 1, -1, -1, -1, -1, 6], [-1, -1, 2, -1, -1, 5, -1], [3, -1, -1, 4, 4, -1, -1], [4, -1, -1, 4, 4, -1, -1], [-1, -1, 5, -1, -1, 2, -1], [-1, -1, 6, -1, -1, 6, -1]], [[0, -1, -1, 3, 4, -1, -1, -1], [-1, 1, -1, -1, -1, -1, 6, 7], [-1, -1, 2, -1, -1, 5, -1, -1], [3, -1, -1, 4, 4, -1, -1, -1], [4, -1, -1, 4, 4, -1, -1, -1], [-1, -1, 5, -1, -1, 2, -1, -1], [-1, -1, 6, -1, -1, 7, -1, -1], [-1, -1, 7, -1, -1, 6, -1, -1]]]
def lit6 : List (List (List Int)) := [[[0, -1, -1, 3, 4, -1], [-1, 1, -1, -1, -1, -1], [-1, -1, 2, -1, -1, 5], [-1, 3, -1, -1, -1, -1], [-1, 4, -1, -1, -1, -1], [-1, -1, 5, -1, -1, 5]], [[0, -1, -1, 3, 4, -1], [-1, 1, -1, -1, -1, -1], [-1, -1, 2, -1, -1, 5], [-1, 3, -1, -1, -1, -1], [-1, 4, -1, -1, -1, -1], [-1, -1, 5, -1, -1, 2]], [[0, -1, -1, 3, 4, -1, -1], [-1, 1, -1, -1, -1, -1, -1], [-1, -1, 2, -1, -1, 5, 6], [-1, 3, -1, -1, -1, -1, -1], [-1, 4, -1, -1, -1, -1, -1], [-1, -1, 5, -1, -1, 6, 2], [-1, -1, 6, -1, -1, 2, 5]], [[0, -1, -1, 3, 4, -1, -1], [-1, 1, -1, -1, -1, -1, -1], [-1, -1, 2, -1, -1, 5, 6], [-1, 3, -1, -1, -1, -1, -1], [-1, 4, -1, -1, -1, -1, -1], [-1, -1, 5, -1, -1, 5, 5], [-1, -1, 6, -1, -1, 6, 6]], [[0, -1, -1, 3, 4, -1, -1], [-1, 1, -1, -1, -1, -1, -1], [-1, -1, 2, -1, -1, 5, 6], [-1, 3, -1, -1, -1, -1, -1], [-1, 4, -1, -1, -1, -1, -1], [-1, -1, 5, -1, -1, 5, 6], [-1, -1, 6, -1, -1, 5, 6]], [[0, -1, -1, 3, 4, -1, -1], [-1, 1, -1, -1, -1, -1, -1], [-1, -1, 2, -1, -1, 5, 6], [-1, 3, -1, -1, -1, -1, -1], [-1, 4, -1, -1, -1, -1, -1], [-1, -1, 5, -1, -1, 6, 6], [-1, -1, 6, -1, -1, 6, 6]], [[0, -1, -1, -1, 4, 5, -1, -1], [-1, 1, -1, -1, -1, -1, -1, -1], [-1, -1, 2, -1, -1, -1, 6, 7], [-1, -1, -1, 3, -1, -1, -1, -1], [-1, 4, -1, -1, -1, -1, -1, -1], [-1, 5, -1, -1, -1, -1, -1, -1], [-1, -1, -1, 6, -1, -1, -1, -1], [-1, -1, -1, 7, -1, -1, -1, -1]], [[0, -1, -1, -1, 4, 5, -1, -1, -1], [-1, 1, -1, -1, -1, -1, -1, -1, -1], [-1, -1, 2, -1, -1, -1, 6, -1, -1], [-1, -1, -1, 3, -1, -1, -1, 7, 8], [-1, 4, -1, -1, -1, -1, -1, -1, -1], [-1, 5, -1, -1, -1, -1, -1, -1, -1], [-1, -1, -1, 6, -1, -1, -1, 2, 6], [-1, -1, 7, -1, -1, -1, 8, -1, -1], [-1, -1, -1, 8, -1, -1, -1, 7, 8]], [[0, -1, -1, -1, 4, 5, -1, -1], [-1, 1, -1, -1, -1, -1, -1, -1], [-1, -1, 2, -1, -1, -1, -1, 7], [-1, -1, -1, 3, -1, -1, 6, -1], [-1, 4, -1, -1, -1, -1, -1, -1], [-1, 5, -1, -1, -1, -1, -1, -1], [-1, -1, -1, 6, -1, -1, 3, -1], [-1, -1, -1, 7, -1, -1, 7, -1]], [[0, -1, -1, -1, 4, 5, -1, -1, -1], [-1, 1, -1, -1, -1, -1, -1, -1, -1], [-1, -1, 2, -1, -1, -1, -1, 7, 8], [-1, -1, -1, 3, -1, -1, 6, -1, -1], [-1, 4, -1, -1, -1, -1, -1, -1, -1], [-1, 5, -1, -1, -1, -1, -1, -1, -1], [-1, -1, -1, 6, -1, -1, 3, -1, -1], [-1, -1, -1, 7, -1, -1, 8, -1, -1], [-1, -1, -1, 8, -1, -1, 7, -1, -1]]]
def lit7 : List (List (List Int)) := [[[0, -1, -1, 3, -1, -1, -1], [-1, 1, -1, -1, 4, 5, -1], [-1, -1, 2, -1, -1, -1, 6], [-1, 3, -1, -1, 0, 3, -1], [4, -1, -1, 5, -1, -1, -1], [-1, 5, -1, -1, 4, 5, -1], [-1, -1, 6, -1, -1, -1, 6]], [[0, -1, -1, 3, -1, -1, -1], [-1, 1, -1, -1, 4, 5, -1], [-1, -1, 2, -1, -1, -1, 6], [-1, 3, -1, -1, 0, 3, -1], [4, -1, -1, 5, -1, -1, -1], [-1, 5, -1, -1, 4, 5, -1], [-1, -1, 6, -1, -1, -1, 2]], [[0, -1, -1, 3, -1, -1, -1, -1], [-1, 1, -1, -1, 4, 5, -1, -1], [-1, -1, 2, -1, -1, -1, 6, 7], [-1, 3, -1, -1, 0, 3, -1, -1], [4, -1, -1, 5, -1, -1, -1, -1], [-1, 5, -1, -1, 4, 5, -1, -1], [-1, -1, 6, -1, -1, -1, 7, 2], [-1, -1, 7, -1, -1, -1, 2, 6]], [[0, -1, -1, 3, -1, -1, -1, -1], [-1, 1, -1, -1, 4, 5, -1, -1], [-1, -1, 2, -1, -1, -1, 6, 7], [-1, 3, -1, -1, 0, 3, -1, -1], [4, -1, -1, 5, -1, -1, -1, -1], [-1, 5, -1, -1, 4, 5, -1, -1], [-1, -1, 6, -1, -1, -1, 6, 6], [-1, -1, 7, -1, -1, -1, 7, 7]], [[0, -1, -1, 3, -1, -1, -1, -1], [-1, 1, -1, -1, 4, 5, -1, -1], [-1, -1, 2, -1, -1, -1, 6, 7], [-1, 3, -1, -1, 0, 3, -1, -1], [4, -1, -1, 5, -1, -1, -1, -1], [-1, 5, -1, -1, 4, 5, -1, -1], [-1, -1, 6, -1, -1, -1, 6, 7], [-1, -1, 7, -1, -1, -1, 6, 7]], [[0, -1, -1, 3, -1, -1, -1, -1], [-1, 1, -1, -1, 4, 5, -1, -1], [-1, -1, 2, -1, -1, -1, 6, 7], [-1, 3, -1, -1, 0, 3, -1, -1], [4, -1, -1, 5, -1, -1, -1, -1], [-1, 5, -1, -1, 4, 5, -1, -1], [-1, -1, 6, -1, -1, -1, 7, 7], [-1, -1, 7, -1, -1, -1, 7, 7]], [[0, -1, -1, -1, 4, -1, -1, -1, -1], [-1, 1, -1, -1, -1, 5, 6, -1, -1], [-1, -1, 2, -1, -1, -1, -1, 7, 8], [-1, -1, -1, 3, -1, -1, -1, -1, -1], [-1, 4, -1, -1, -1, 0, 4, -1, -1], [5, -1, -1, -1, 6, -1, -1, -1, -1], [-1, 6, -1, -1, -1, 5, 6, -1, -1], [-1, -1, -1, 7, -1, -1, -1, -1, -1], [-1, -1, -1, 8, -1, -1, -1, -1, -1]], [[0, -1, -1, -1, 4, -1, -1, -1, -1, -1], [-1, 1, -1, -1, -1, 5, 6, -1, -1, -1], [-1, -1, 2, -1, -1, -1, -1, 7, -1, -1], [-1, -1, -1, 3, -1, -1, -1, -1, 8, 9], [-1, 4, -1, -1, -1, 0, 4, -1, -1, -1], [5, -1, -1, -1, 6, -1, -1, -1, -1, -1], [-1, 6, -1, -1, -1, 5, 6, -1, -1, -1], [-1, -1, -1, 7, -1, -1, -1, -1, 2, 7], [-1, -1, 8, -1, -1, -1, -1, 9, -1, -1], [-1, -1, -1, 9, -1, -1, -1, -1, 8, 9]], [[0, -1, -1, -1, 4, -1, -1, -1, -1], [-1, 1, -1, -1, -1, 5, 6, -1, -1], [-1, -1, 2, -1, -1, -1, -1, -1, 8], [-1, -1, -1, 3, -1, -1, -1, 7, -1], [-1, 4, -1, -1, -1, 0, 4, -1, -1], [5, -1, -1, -1, 6, -1, -1, -1, -1], [-1, 6, -1, -1, -1, 5, 6, -1, -1], [-1, -1, -1, 7, -1, -1, -1, 3, -1], [-1, -1, -1, 8, -1, -1, -1, 8, -1]], [[0, -1, -1, -1, 4, -1, -1, -1, -1, -1], [-1, 1, -1, -1, -1, 5, 6, -1, -1, -1], [-1, -1, 2, -1, -1, -1, -1, -1, 8, 9], [-1, -1, -1, 3, -1, -1, -1, 7, -1, -1], [-1, 4, -1, -1, -1, 0, 4, -1, -1, -1], [5, -1, -1, -1, 6, -1, -1, -1, -1, -1], [-1, 6, -1, -1, -1, 5, 6, -1, -1, -1], [-1, -1, -1, 7, -1, -1, -1, 3, -1, -1], [-1, -1, -1, 8, -1, -1, -1, 9, -1, -1], [-1, -1, -1, 9, -1, -1, -1, 8, -1, -1]]]
def lit8 : List (List (List Int)) := [[[0, -1, -1, -1, 4, -1], [-1, 1, -1, 3, -1, -1], [-1, -1, 2, -1, -1, 5], [-1, 3, -1, 1, -1, -1], [-1, 4, -1, 4, -1, -1], [-1, -1, 5, -1, -1, 5]], [[0, -1, -1, -1, 4, -1], [-1, 1, -1, 3, -1, -1], [-1, -1, 2, -1, -1, 5], [-1, 3, -1, 1, -1, -1], [-1, 4, -1, 4, -1, -1], [-1, -1, 5, -1, -1, 2]], [[0, -1, -1, -1, 4, -1, -1], [-1, 1, -1, 3, -1, -1, -1], [-1, -1, 2, -1, -1, 5, 6], [-1, 3, -1, 1, -1, -1, -1], [-1, 4, -1, 4, -1, -1, -1], [-1, -1, 5, -1, -1, 6, 2], [-1, -1, 6, -1, -1, 2, 5]], [[0, -1, -1, -1, 4, -1, -1], [-1, 1, -1, 3, -1, -1, -1], [-1, -1, 2, -1, -1, 5, 6], [-1, 3, -1, 1, -1, -1, -1], [-1, 4, -1, 4, -1, -1, -1], [-1, -1, 5, -1, -1, 5, 5], [-1, -1, 6, -1, -1, 6, 6]], [[0, -1, -1, -1, 4, -1, -1], [-1, 1, -1, 3, -1, -1, -1], [-1, -1, 2, -1, -1, 5, 6], [-1, 3, -1, 1, -1, -1, -1], [-1, 4, -1, 4, -1, -1, -1], [-1, -1, 5, -1, -1, 5, 6], [-1, -1, 6, -1, -1, 5, 6]], [[0, -1, -1, -1, 4, -1, -1], [-1, 1, -1, 3, -1, -1, -1], [-1, -1, 2, -1, -1, 5, 6], [-1, 3, -1, 1, -1, -1, -1], [-1, 4, -1, 4, -1, -1, -1], [-1, -1, 5, -1, -1, 6, 6], [-1, -1, 6, -1, -1, 6, 6]], [[0, -1, -1, -1, -1, 5, -1, -1], [-1, 1, -1, -1, 4, -1, -1, -1], [-1, -1, 2, -1, -1, -1, 6, 7], [-1, -1, -1, 3, -1, -1, -1, -1], [-1, 4, -1, -1, 1, -1, -1, -1], [-1, 5, -1, -1, 5, -1, -1, -1], [-1, -1, -1, 6, -1, -1, -1, -1], [-1, -1, -1, 7, -1, -1, -1, -1]], [[0, -1, -1, -1, -1, 5, -1, -1, -1], [-1, 1, -1, -1, 4, -1, -1, -1, -1], [-1, -1, 2, -1, -1, -1, 6, -1, -1], [-1, -1, -1, 3, -1, -1, -1, 7, 8], [-1, 4, -1, -1, 1, -1, -1, -1, -1], [-1, 5, -1, -1, 5, -1, -1, -1, -1], [-1, -1, -1, 6, -1, -1, -1, 2, 6], [-1, -1, 7, -1, -1, -1, 8, -1, -1], [-1, -1, -1, 8, -1, -1, -1, 7, 8]], [[0, -1, -1, -1, -1, 5, -1, -1], [-1, 1, -1, -1, 4, -1, -1, -1], [-1, -1, 2, -1, -1, -1, -1, 7], [-1, -1, -1, 3, -1, -1, 6, -1], [-1, 4, -1, -1, 1, -1, -1, -1], [-1, 5, -1, -1, 5, -1, -1, -1], [-1, -1, -1, 6, -1, -1, 3, -1], [-1, -1, -1, 7, -1, -1, 7, -1]], [[0, -1, -1, -1, -1, 5, -1, -1, -1], [-1, 1, -1, -1, 4, -1, -1, -1, -1], [-1, -1, 2, -1, -1, -1, -1, 7, 8], [-1, -1, -1, 3, -1, -1, 6, -1, -1], [-1, 4, -1, -1, 1, -1, -1, -1, -1], [-1, 5, -1, -1, 5, -1, -1, -1, -1], [-1, -1, -1, 6, -1, -1, 3, -1, -1], [-1, -1, -1, 7, -1, -1, 8, -1, -1], [-1, -1, -1, 8, -1, -1, 7, -1, -1]]]
def lit9 : List (List (List Int)) := [[[0, -1, -1, -1, 4, 5, -1], [-1, 1, -1, 3, -1, -1, -1], [-1, -1, 2, -1, -1, -1, 6], [-1, 3, -1, 1, -1, -1, -1], [-1, 4, -1, 5, -1, -1, -1], [-1, 5, -1, 4, -1, -1, -1], [-1, -1, 6, -1, -1, -1, 6]], [[0, -1, -1, -1, 4, 5, -1], [-1, 1, -1, 3, -1, -1, -1], [-1, -1, 2, -1, -1, -1, 6], [-1, 3, -1, 1, -1, -1, -1], [-1, 4, -1, 5, -1, -1, -1], [-1, 5, -1, 4, -1, -1, -1], [-1, -1, 6, -1, -1, -1, 2]], [[0, -1, -1, -1, 4, 5, -1, -1], [-1, 1, -1, 3, -1, -1, -1, -1], [-1, -1, 2, -1, -1, -1, 6, 7], [-1, 3, -1, 1, -1, -1, -1, -1], [-1, 4, -1, 5, -1, -1, -1, -1], [-1, 5, -1, 4, -1, -1, -1, -1], [-1, -1, 6, -1, -1, -1, 7, 2], [-1, -1, 7, -1, -1, -1, 2, 6]], [[0, -1, -1, -1, 4, 5, -1, -1], [-1, 1, -1, 3, -1, -1, -1, -1], [-1, -1, 2, -1, -1, -1, 6, 7], [-1, 3, -1, 1, -1, -1, -1, -1], [-1, 4, -1, 5, -1, -1, -1, -1], [-1, 5, -1, 4, -1, -1, -1, -1], [-1, -1, 6, -1, -1, -1, 6, 6], [-1, -1, 7, -1, -1, -1, 7, 7]], [[0, -1, -1, -1, 4, 5, -1, -1], [-1, 1, -1, 3, -1, -1, -1, -1], [-1, -1, 2, -1, -1, -1, 6, 7], [-1, 3, -1, 1, -1, -1, -1, -1], [-1, 4, -1, 5, -1, -1, -1, -1], [-1, 5, -1, 4, -1, -1, -1, -1], [-1, -1, 6, -1, -1, -1, 6, 7], [-1, -1, 7, -1, -1, -1, 6, 7]], [[0, -1, -1, -1, 4, 5, -1, -1], [-1, 1, -1, 3, -1, -1, -1, -1], [-1, -1, 2, -1, -1, -1, 6, 7], [-1, 3, -1, 1, -1, -1, -1, -1], [-1, 4, -1, 5, -1, -1, -1, -1], [-1, 5, -1, 4, -1, -1, -1, -1], [-1, -1, 6, -1, -1, -1, 7, 7], [-1, -1, 7, -1, -1, -1, 7, 7]], [[0, -1, -1, -1, -1, 5, 6, -1, -1], [-1, 1, -1, -1, 4, -1, -1, -1, -1], [-1, -1, 2, -1, -1, -1, -1, 7, 8], [-1, -1, -1, 3, -1, -1, -1, -1, -1], [-1, 4, -1, -1, 1, -1, -1, -1, -1], [-1, 5, -1, -1, 6, -1, -1, -1, -1], [-1, 6, -1, -1, 5, -1, -1, -1, -1], [-1, -1, -1, 7, -1, -1, -1, -1, -1], [-1, -1, -1, 8, -1, -1, -1, -1, -1]], [[0, -1, -1, -1, -1, 5, 6, -1, -1, -1], [-1, 1, -1, -1, 4, -1, -1, -1, -1, -1], [-1, -1, 2, -1, -1, -1, -1, 7, -1, -1], [-1, -1, -1, 3, -1, -1, -1, -1, 8, 9], [-1, 4, -1, -1, 1, -1, -1, -1, -1, -1], [-1, 5, -1, -1, 6, -1, -1, -1, -1, -1], [-1, 6, -1, -1, 5, -1, -1, -1, -1, -1], [-1, -1, -1, 7, -1, -1, -1, -1, 2, 7], [-1, -1, 8, -1, -1, -1, -1, 9, -1, -1], [-1, -1, -1, 9, -1, -1, -1, -1, 8, 9]], [[0, -1, -1, -1, -1, 5, 6, -1, -1], [-1, 1, -1, -1, 4, -1, -1, -1, -1], [-1, -1, 2, -1, -1, -1, -1, -1, 8], [-1, -1, -1, 3, -1, -1, -1, 7, -1], [-1, 4, -1, -1, 1, -1, -1, -1, -1], [-1, 5, -1, -1, 6, -1, -1, -1, -1], [-1, 6, -1, -1, 5, -1, -1, -1, -1], [-1, -1, -1, 7, -1, -1, -1, 3, -1], [-1, -1, -1, 8, -1, -1, -1, 8, -1]], [[0, -1, -1, -1, -1, 5, 6, -1, -1, -1], [-1, 1, -1, -1, 4, -1, -1, -1, -1, -1], [-1, -1, 2, -1, -1, -1, -1, -1, 8, 9], [-1, -1, -1, 3, -1, -1, -1, 7, -1, -1], [-1, 4, -1, -1, 1, -1, -1, -1, -1, -1], [-1, 5, -1, -1, 6, -1, -1, -1, -1, -1], [-1, 6, -1, -1, 5, -1, -1, -1, -1, -1], [-1, -1, -1, 7, -1, -1, -1, 3, -1, -1], [-1, -1, -1, 8, -1, -1, -1, 9, -1, -1], [-1, -1, -1, 9, -1, -1, -1, 8, -1, -1]]]
def lits : List (List (List (List Int))) := [lit0, lit1, lit2, lit3, lit4, lit5, lit6, lit7, lit8, lit9]
def LIT (i j : Nat) : List (List Int) := (lits.getD i []).getD j []
theorem lit_eq : ((List.range 10).all fun i => (List.range 10).all fun j => decide (besT (KN i) (KN j) = LIT i j)) = true := by decide +kernel
theorem lit_cat : ((List.range 10).all fun i => (List.range 10).all fun j => catB ((KN i).1 + (KN j).1) (besA (KN i) (KN j)) (LIT i j)) = true := by decide +kernel
theorem bes_cat {i j : Nat} (hi : i < 10) (hj : j < 10) : Cat ((KN i).1 + (KN j).1) (besA (KN i) (KN j)) (besT (KN i) (KN j)) := by
  have a := List.all_eq_true.mp (List.all_eq_true.mp lit_eq i (by simpa using hi)) j (by simpa using hj)
  rw [of_decide_eq_true a]
  exact catB_ok (List.all_eq_true.mp (List.all_eq_true.mp lit_cat i (by simpa using hi)) j (by simpa using hj))
end K09
end Hf
end

section
set_option Elab.async false
set_option linter.all false
set_option maxRecDepth 100000
set_option maxHeartbeats 400000
/-! K09n: the plain law of k09: what the law puts side by side. -/
namespace Hf
namespace K09
open P09
section
variable {c d : Dt} (m : Nat)
@[simp] theorem cat_look (n : Nat) (A : List (Nat × Nat)) (tb : List (List Int)) (S : Store) : look S (catT n A tb) = catT n A tb := rfl
@[simp] theorem cat_s0 (n : Nat) (A : List (Nat × Nat)) (tb : List (List Int)) : T.subI (catT n A tb) (.int 0) = some (.int n) := rfl
@[simp] theorem cat_s1 (n : Nat) (A : List (Nat × Nat)) (tb : List (List Int)) : T.subI (catT n A tb) (.int 1) = some (.tup (A.map prT)) := rfl
@[simp] theorem cat_s2 (n : Nat) (A : List (Nat × Nat)) (tb : List (List Int)) : T.subI (catT n A tb) (.int 2) = some (.tup (tb.map rowI)) := rfl
def dT (c : Dt) : T := catT c.1 c.2.1 c.2.2
theorem refs_get {l b : Nat} : (refs l b).length = l := by simp [refs]
theorem rep_neg {l : Nat} (hl : l ≤ 1000) (S : Store) : repV (.lst [.int (-1)]) (.int l) S = .ok (.lst (rowZ l fun _ => -1)) S := by
  have hrow : (List.replicate l [T.int (-1)]).flatten = rowZ l fun _ => -1 := by
    apply List.ext_getElem?
    intro i
    have : (List.replicate l [T.int (-1)]).flatten = List.replicate l (T.int (-1)) := by
      clear hl
      induction l with
      | zero => rfl
      | succ l ih => simp [List.replicate_succ, ih]
    rw [this]
    by_cases q : i < l <;> simp [rowZ, q]
  have b1 : -(2 ^ 63 : Int) ≤ l := Int.le_trans (by decide) (Int.natCast_nonneg l)
  have b2 : (l : Int) < 2 ^ 63 := Int.lt_of_le_of_lt (by omega : (l : Int) ≤ 1000) (by decide)
  have b3 : [T.int (-1)].length * (l : Int).toNat ≤ sizeLim := by
    rw [List.length_singleton, Int.toNat_natCast, Nat.one_mul]
    unfold sizeLim; omega
  rw [repV_lst, if_pos ⟨b1, b2, b3⟩, Int.toNat_natCast, hrow]
theorem neg_turn (cf mk : Nat → List T → Store → Res T) {l : Nat} (hl : l ≤ 1000) {As : List T} (hA : As.length = l) (x : T) (x0 x1 x2 x3 x4 x6 x7 x8 x9 x10 x12 x13 x14 : Slot) (S : Store) :
    turn pr cf mk [x0, x1, x2, x3, x4, .val (.lst As), x6, x7, x8, x9, x10, .no, x12, x13, x14] (.cell (.rep (.disp [(.neg (.k (.int 1)))]) (.bi .len [(.v 5)]))) (.n 11) x S = .ok (some (.ref S.length)) (S ++ [.lst (rowZ l fun _ => -1)]) := by
  have hr := rep_neg hl S
  have h1 : ev pr cf mk [x0, x1, x2, x3, x4, .val (.lst As), x6, x7, x8, x9, x10, .val x, x12, x13, x14] (.disp [(.neg (.k (.int 1)))]) S = .ok (.lst [.int (-1)]) S := by simp
  have h2 : ev pr cf mk [x0, x1, x2, x3, x4, .val (.lst As), x6, x7, x8, x9, x10, .val x, x12, x13, x14] (.bi .len [(.v 5)]) S = .ok (.int l) S := by simp [hA]
  have h3 : ev pr cf mk [x0, x1, x2, x3, x4, .val (.lst As), x6, x7, x8, x9, x10, .val x, x12, x13, x14] (.rep (.disp [(.neg (.k (.int 1)))]) (.bi .len [(.v 5)])) S = .ok (.lst (rowZ l fun _ => -1)) S := by
    rw [e_rep, evL_disp, h1, bnd_ok, h2, bnd_ok, look_lst, hr]
  simp only [turn, slots_n, wipe_cons, wipe_nil, bindT_n, List.set_cons_succ, List.set_cons_zero]
  rw [e_cell, h3, bnd_ok, cellV_lst, bnd_ok]
/-- the empty table in the store -/
theorem neg_ok (cf mk : Nat → List T → Store → Res T) {l : Nat} (hl : l ≤ 1000) {As : List T} (hA : As.length = l) (x0 x1 x2 x3 x4 x6 x7 x8 x9 x10 x12 x13 x14 : Slot) (S : Store) :
    ∃ S', compLoop (fun _ => true) (turn pr cf mk [x0, x1, x2, x3, x4, .val (.lst As), x6, x7, x8, x9, x10, .no, x12, x13, x14] (.cell (.rep (.disp [(.neg (.k (.int 1)))]) (.bi .len [(.v 5)]))) (.n 11)) As S = .ok (refs l S.length) S' ∧ Ext S S' ∧ Rz l S.length (fun _ _ => -1) S' := by
  obtain ⟨ys, S', e, hl', hq, h1, h2, h3⟩ := compS_inv (g := fun _ => true) (f := turn pr cf mk [x0, x1, x2, x3, x4, .val (.lst As), x6, x7, x8, x9, x10, .no, x12, x13, x14] (.cell (.rep (.disp [(.neg (.k (.int 1)))]) (.bi .len [(.v 5)]))) (.n 11)) (fun (t : T) => t) (fun k S' => S'.length = S.length + k ∧ (∀ i, i < S.length → S'[i]? = S[i]?) ∧ ∀ i, i < k → S'[S.length + i]? = some (.lst (rowZ l fun _ => -1))) (fun j y => y = .ref (S.length + j)) (fun _ => rfl) As 0 S (fun j x hx S2 hI => by
    obtain ⟨h1, h2, h3⟩ := hI
    rw [Nat.zero_add] at *
    refine ⟨.ref S2.length, S2 ++ [.lst (rowZ l fun _ => -1)], ?_, by rw [h1], by simp [h1, Nat.add_assoc], fun i hi => ?_, fun i hi => ?_⟩
    · exact neg_turn cf mk hl hA x x0 x1 x2 x3 x4 x6 x7 x8 x9 x10 x12 x13 x14 S2
    · rw [List.getElem?_append_left (by omega)]; exact h2 i hi
    · by_cases q : i = j
      · subst q
        rw [List.getElem?_append_right (by omega)]
        simp [h1]
      · rw [List.getElem?_append_left (by omega)]; exact h3 i (by omega)) ⟨rfl, fun _ _ => rfl, fun i hi => by omega⟩
  rw [List.map_id'] at e
  have hys : ys = refs l S.length := by
    apply List.ext_getElem?
    intro i
    by_cases q : i < l
    · have e1 : ys[i]? = some ys[i] := List.getElem?_eq_getElem (by omega)
      have := hq i _ e1
      rw [Nat.zero_add] at this
      rw [e1, this]
      simp [refs, q]
    · rw [List.getElem?_eq_none (by omega), List.getElem?_eq_none (by simp [refs]; omega)]
  exact ⟨S', by rw [← hys]; exact e, ⟨by omega, h2⟩, fun i hi => h3 i (by omega)⟩
theorem beside_ok (hc : Cat c.1 c.2.1 c.2.2) (hd : Cat d.1 d.2.1 d.2.2) (h6 : c.1 + d.1 ≤ 6) (h24 : c.2.1.length + d.2.1.length ≤ 24) (S : Store) : ∃ S', Ext S S' ∧ call pr (m + 1) 20 [dT c, dT d] S = .ok (catT (c.1 + d.1) (besA c d) (besT c d)) S' := by
  obtain ⟨n1, A1, t1⟩ := c
  obtain ⟨n2, A2, t2⟩ := d
  simp only at hc hd h6 h24
  rw [call_of (d := d_l_beside) rfl rfl]
  have lA1 := hc.nA
  obtain ⟨st, hst⟩ : ∃ st, st = n1 + n2 := ⟨_, rfl⟩
  have hsi : (n1 : Int) + n2 = (st : Int) := by omega
  rw [← hst] at h6
  show ∃ S', Ext S S' ∧ _ = Res.ok (catT (n1 + n2) _ _) S'
  rw [← hst]
  have lA2 := hd.nA
  have g0 := rng_nat (n := st) (by omega)
  have g1 := rng_nat (n := A1.length) (by omega)
  have g2 := rng_nat (n := A2.length) (by omega)
  have q6 : ¬ (6 : Int) < st := by omega
  have q24 : ¬ (24 : Int) < (A1.length : Int) + A2.length := by omega
  have hlen : (besA (n1, A1, t1) (n2, A2, t2)).length = st + (A1.length - n1) + (A2.length - n2) := by simp [besA, dg, hst]; omega
  have s1 : ∀ k, k < A1.length → sp1 n1 n2 k < (besA (n1, A1, t1) (n2, A2, t2)).length := fun k hk => by
    rw [hlen]; unfold sp1; split <;> omega
  have s2 : ∀ k, k < A2.length → sp2 n1 A1.length n2 k < (besA (n1, A1, t1) (n2, A2, t2)).length := fun k hk => by
    rw [hlen]; unfold sp2; split <;> omega
  have c1 : catT n1 A1 t1 = .tup [.int n1, .tup (A1.map prT), .tup (t1.map rowI)] := rfl
  have c2 : catT n2 A2 t2 = .tup [.int n2, .tup (A2.map prT), .tup (t2.map rowI)] := rfl
  generalize hX : besA (n1, A1, t1) (n2, A2, t2) = AB at *
  obtain ⟨S1, e1, x1, r1⟩ := neg_ok (call pr m) (make pr m) (l := AB.length) (by omega) (As := AB.map prT) (by simp) (.val (catT n1 A1 t1)) (.val (catT n2 A2 t2)) (.val (.int (st : Int))) (.val (.lst (sps (sp1 n1 n2) A1.length))) (.val (.lst (sps (sp2 n1 A1.length n2) A2.length))) .no .no .no .no .no .no .no .no S
  obtain ⟨y9, y12, S2, e2, r2, f2⟩ := bes_all (call pr m) (make pr m) hc s1 r1 (.val (catT n1 A1 t1)) (.val (catT n2 A2 t2)) (.val (.int (st : Int))) (.val (.lst (sps (sp1 n1 n2) A1.length))) (.val (.lst (sps (sp2 n1 A1.length n2) A2.length))) (.val (.lst (AB.map prT))) .no .no .no .no .no .no .no .no
  obtain ⟨z9, z12, S3, e3, r3, f3⟩ := bes_all (call pr m) (make pr m) hd s2 r2 (.val (catT n1 A1 t1)) (.val (catT n2 A2 t2)) (.val (.int (st : Int))) (.val (.lst (sps (sp1 n1 n2) A1.length))) (.val (.lst (sps (sp2 n1 A1.length n2) A2.length))) (.val (.lst (AB.map prT))) (.val (catT n1 A1 t1)) (.val (.lst (sps (sp1 n1 n2) A1.length))) y9 .no .no y12 .no .no
  refine ⟨S3, ⟨by rw [f3.1, f2.1]; exact x1.1, fun i hi => ((f3.2 i hi).trans (f2.2 i hi)).trans (x1.2 i hi)⟩, ?_⟩
  have key : exs pr (call pr m) (make pr m) d_l_beside.body [.val (catT n1 A1 t1), .val (catT n2 A2 t2), .no, .no, .no, .no, .no, .no, .no, .no, .no, .no, .no, .no, .no] S = .ret (catT st AB (besT (n1, A1, t1) (n2, A2, t2))) S3 := by
    simp only [d_l_beside]
    refine (exs_nx (r' := [.val (catT n1 A1 t1), .val (catT n2 A2 t2), .no, .no, .no, .no, .no, .no, .no, .no, .no, .no, .no, .no, .no]) (S' := S) ?_).trans ?_
    · simp [hsi, q6, q24]
    refine (exs_nx (r' := [.val (catT n1 A1 t1), .val (catT n2 A2 t2), .val (.int (st : Int)), .no, .no, .no, .no, .no, .no, .no, .no, .no, .no, .no, .no]) (S' := S) ?_).trans ?_
    · simp [hsi]
    refine (exs_nx (r' := [.val (catT n1 A1 t1), .val (catT n2 A2 t2), .val (.int (st : Int)), .val (.lst (sps (sp1 n1 n2) A1.length)), .no, .no, .no, .no, .no, .no, .no, .no, .no, .no, .no]) (S' := S) ?_).trans ?_
    · have e : compLoop (fun _ => true) (turn pr (call pr m) (make pr m) [.val (catT n1 A1 t1), .val (catT n2 A2 t2), .val (.int (st : Int)), .no, .no, .no, .no, .no, .no, .no, .no, .no, .no, .no, .no] (.ife (.cmp .lt (.v 10) (.sub (.v 0) (.k (.int 0)))) (.v 10) (.op .sub (.op .add (.v 2) (.v 10)) (.sub (.v 0) (.k (.int 0))))) (.n 10)) (zts A1.length) S = .ok (sps (sp1 n1 n2) A1.length) S :=
        compLoop_of rfl _ _ fun k hk => by
          by_cases q : (k : Int) < n1
          · have q' : k < n1 := by omega
            simp [turn, q, sp1, q']
          · have q' : ¬ k < n1 := by omega
            simp [turn, q, sp1, q']
            omega
      simp [g1.1, g1.2]
      rw [e]
      simp
    refine (exs_nx (r' := [.val (catT n1 A1 t1), .val (catT n2 A2 t2), .val (.int (st : Int)), .val (.lst (sps (sp1 n1 n2) A1.length)), .val (.lst (sps (sp2 n1 A1.length n2) A2.length)), .no, .no, .no, .no, .no, .no, .no, .no, .no, .no]) (S' := S) ?_).trans ?_
    · have e : compLoop (fun _ => true) (turn pr (call pr m) (make pr m) [.val (catT n1 A1 t1), .val (catT n2 A2 t2), .val (.int (st : Int)), .val (.lst (sps (sp1 n1 n2) A1.length)), .no, .no, .no, .no, .no, .no, .no, .no, .no, .no, .no] (.ife (.cmp .lt (.v 10) (.sub (.v 1) (.k (.int 0)))) (.op .add (.sub (.v 0) (.k (.int 0))) (.v 10)) (.op .sub (.op .add (.op .sub (.op .add (.v 2) (.bi .len [(.sub (.v 0) (.k (.int 1)))])) (.sub (.v 0) (.k (.int 0)))) (.v 10)) (.sub (.v 1) (.k (.int 0))))) (.n 10)) (zts A2.length) S = .ok (sps (sp2 n1 A1.length n2) A2.length) S :=
        compLoop_of rfl _ _ fun k hk => by
          by_cases q : (k : Int) < n2
          · have q' : k < n2 := by omega
            simp [turn, q, sp2, q']
          · have q' : ¬ k < n2 := by omega
            simp [turn, q, sp2, q']
            omega
      simp [g2.1, g2.2]
      rw [e]
      simp
    refine (exs_nx (r' := [.val (catT n1 A1 t1), .val (catT n2 A2 t2), .val (.int (st : Int)), .val (.lst (sps (sp1 n1 n2) A1.length)), .val (.lst (sps (sp2 n1 A1.length n2) A2.length)), .val (.lst ((dg st ++ A1.drop n1).map prT)), .no, .no, .no, .no, .no, .no, .no, .no, .no]) (S' := S) ?_).trans ?_
    · have e : compLoop (fun _ => true) (turn pr (call pr m) (make pr m) [.val (catT n1 A1 t1), .val (catT n2 A2 t2), .val (.int (st : Int)), .val (.lst (sps (sp1 n1 n2) A1.length)), .val (.lst (sps (sp2 n1 A1.length n2) A2.length)), .no, .no, .no, .no, .no, .no, .no, .no, .no, .no] (.tup [(.v 13), (.v 13)]) (.n 13)) (zts st) S = .ok ((List.range st).map fun i => prT (i, i)) S :=
        compLoop_of rfl _ _ fun j _ => by simp [turn, prT]
      have cd := cut_drop (A1.map prT) n1 (by simpa using lA1)
      have hz : n1 + n2 + (A1.length - n1) ≤ sizeLim := by unfold sizeLim; omega
      simp [g0.1, g0.2]
      rw [e]
      have hz' : (dg st).length + (A1.length - n1) ≤ sizeLim := by simpa [dg, hst] using hz
      simp [cd, hz, hst, dg, Function.comp_def]
    refine (exs_nx (r' := [.val (catT n1 A1 t1), .val (catT n2 A2 t2), .val (.int (st : Int)), .val (.lst (sps (sp1 n1 n2) A1.length)), .val (.lst (sps (sp2 n1 A1.length n2) A2.length)), .val (.lst (AB.map prT)), .no, .no, .no, .no, .no, .no, .no, .no, .no]) (S' := S) ?_).trans ?_
    · have cd := cut_drop (A2.map prT) n2 (by simpa using lA2)
      have e : compLoop (fun _ => true) (turn pr (call pr m) (make pr m) [.val (catT n1 A1 t1), .val (catT n2 A2 t2), .val (.int (st : Int)), .val (.lst (sps (sp1 n1 n2) A1.length)), .val (.lst (sps (sp2 n1 A1.length n2) A2.length)), .val (.lst ((dg st ++ A1.drop n1).map prT)), .no, .no, .no, .no, .no, .no, .no, .no, .no] (.tup [(.op .add (.sub (.v 0) (.k (.int 0))) (.v 13)), (.op .add (.sub (.v 0) (.k (.int 0))) (.v 14))]) (.t [13, 14])) ((A2.drop n2).map prT) S = .ok ((A2.drop n2).map fun p => prT (n1 + p.1, n1 + p.2)) S :=
        compLoop_of rfl _ _ fun p _ => by simp [turn, prT]
      have hz : n1 + n2 + (A1.length - n1) + (A2.length - n2) ≤ sizeLim := by unfold sizeLim; omega
      simp [cd]
      rw [show (still (T.tup (List.drop n2 (A2.map prT))) (List.drop n2 (A2.map prT))) = fun _ => true from rfl]
      simp at e
      rw [e]
      have hX' : AB = (dg st ++ A1.drop n1) ++ (A2.drop n2).map fun p => (n1 + p.1, n1 + p.2) := by rw [← hX, hst]; rfl
      rw [hX']
      have hd' : (dg st).length = n1 + n2 := by simp [dg, hst]
      simp [hz, hd', Function.comp_def]
    refine (exs_nx (r' := [.val (catT n1 A1 t1), .val (catT n2 A2 t2), .val (.int (st : Int)), .val (.lst (sps (sp1 n1 n2) A1.length)), .val (.lst (sps (sp2 n1 A1.length n2) A2.length)), .val (.lst (AB.map prT)), .val (.lst (refs AB.length S.length)), .no, .no, .no, .no, .no, .no, .no, .no]) (S' := S1) ?_).trans ?_
    · simp
      rw [e1]
      simp
    refine (exs_nx (r' := [.val (catT n1 A1 t1), .val (catT n2 A2 t2), .val (.int (st : Int)), .val (.lst (sps (sp1 n1 n2) A1.length)), .val (.lst (sps (sp2 n1 A1.length n2) A2.length)), .val (.lst (AB.map prT)), .val (.lst (refs AB.length S.length)), .val (catT n2 A2 t2), .val (.lst (sps (sp2 n1 A1.length n2) A2.length)), z9, .no, .no, z12, .no, .no]) (S' := S3) ?_).trans ?_
    · simp
      rw [show (T.lst (sps (sp1 n1 n2) A1.length)) = T.lst (sps (sp1 n1 n2) A1.length) from rfl]
      rw [forS_nx e2 rfl, forS_nx e3 rfl]
      rfl
    have e : compLoop (fun _ => true) (turn pr (call pr m) (make pr m) [.val (catT n1 A1 t1), .val (catT n2 A2 t2), .val (.int (st : Int)), .val (.lst (sps (sp1 n1 n2) A1.length)), .val (.lst (sps (sp2 n1 A1.length n2) A2.length)), .val (.lst (AB.map prT)), .val (.lst (refs AB.length S.length)), .val (catT n2 A2 t2), .val (.lst (sps (sp2 n1 A1.length n2) A2.length)), z9, .no, .no, z12, .no, .no] (.tof (.v 11)) (.n 11)) (refs AB.length S.length) S3 = .ok ((List.range AB.length).map fun i => T.tup (rowZ AB.length (besM (n1, A1, t1) (n2, A2, t2) i))) S3 :=
      compLoop_of rfl _ _ fun i hi => by
        have hl := look_at (r3 i (by simpa using hi))
        simp [turn, hl]
        rfl
    have ht : (besT (n1, A1, t1) (n2, A2, t2)).map rowI = (List.range AB.length).map fun i => T.tup (rowZ AB.length (besM (n1, A1, t1) (n2, A2, t2) i)) := by
      unfold besT
      rw [hX, List.map_map]
      apply List.map_congr_left
      intro i _
      simp [rowI, rowZ, Function.comp_def]
    refine exs_ret ?_
    simp
    rw [e]
    simp [catT, ht]
  exact congrArg SRes.fin key
end
end K09
end Hf
end

section
set_option Elab.async false
set_option linter.all false
set_option maxRecDepth 100000
set_option maxHeartbeats 400000
/-! K09o: the plain law of k09: what is drawn. -/
namespace Hf
namespace K09
open P09
/-- the store has changed at the box alone, and grown -/
def Grown (n : Nat) (S S' : Store) : Prop := Box S' n ∧ S.length ≤ S'.length
theorem Grown.trans {n : Nat} {A B C : Store} (h : Grown n A B) (h' : Grown n B C) : Grown n A C := ⟨h'.1, Nat.le_trans h.2 h'.2⟩
theorem Grown.refl {n : Nat} {S : Store} (h : Box S n) : Grown n S S := ⟨h, Nat.le_refl _⟩
theorem grown_drawn {n : Nat} {S S' : Store} (h : Drawn n S S') : Grown n S S' := ⟨h.1, by rw [h.2.1]; exact Nat.le_refl _⟩
theorem grown_ext {n : Nat} {S S' : Store} (hb : Box S n) (h : Ext S S') : Grown n S S' := ⟨hb.ext h, h.1⟩
theorem draw (m : Nat) (k : Int) (h : 0 < k) (h2 : k < 1073741824) {S : Store} {n : Nat} (hb : Box S n) : ∃ (r : Nat) (S' : Store), (r : Int) < k ∧ call pr (m + 1) 12 [.ref n, .int k] S = .ok (.int r) S' ∧ Grown n S S' := by
  obtain ⟨r, S', ⟨h0, h1⟩, e, d⟩ := draw_of (P := pr) rfl m k h h2 hb
  exact ⟨r.toNat, S', by omega, by rw [e, show ((r.toNat : Nat) : Int) = r by omega], grown_drawn d⟩
theorem sum_nat (L : List Nat) : ((L.map fun (k : Nat) => (k : Int)).sum) = (L.sum : Nat) := by
  induction L with
  | nil => rfl
  | cons k L ih => simp [ih]
/-- how many arrows there are, counted by rows -/
theorem count_rows (n : Nat) (R : Nat → Nat → Bool) (hr : ∀ i, R i i = true) : ((List.range n).map fun i => (fl n (R i)).length).sum = (arrs n R).length := by
  have hi : ∀ i, i < n → (fl n (R i)).length = (more n R i).length + 1 := fun i hi => by
    simp only [fl_map, more, List.length_map]
    have : ∀ l : List Nat, l.Nodup → ((l.filter (R i)).length = (l.filter fun j => decide (i ≠ j) && R i j).length + if i ∈ l then 1 else 0) := by
      intro l
      induction l with
      | nil => simp
      | cons x l ih =>
        intro nd
        rw [List.nodup_cons] at nd
        have ih := ih nd.2
        by_cases q : i = x
        · subst q
          have : i ∉ l := nd.1
          simp [this] at ih
          simp [hr i, ih]
        · have q' : ¬ i = x := q
          cases c : R i x <;> simp [c, q, ih] <;> omega
    have h := this (List.range n) List.nodup_range
    rw [if_pos (by simpa using hi)] at h
    exact h
  have key : ∀ k, k ≤ n → ((List.range k).map fun i => (fl n (R i)).length).sum = k + ((List.range k).flatMap (more n R)).length := by
    intro k
    induction k with
    | zero => simp
    | succ k ih =>
      intro hk
      rw [List.range_succ, List.map_append, List.sum_append, ih (by omega), List.flatMap_append, List.length_append]
      simp [hi k (by omega)]
      omega
  rw [key n (Nat.le_refl _)]
  simp [arrs, arrsTo, dg]
theorem sum_ok (cf mk : Nat → List T → Store → Res T) (n : Nat) (ps : List (Nat × Nat)) (r : Env) (i : Nat) (hi : i < r.length) (S : Store) :
    compLoop (fun _ => true) (turn pr cf mk r (.bi .len [(.v i)]) (.n i)) (rws n (rB ps)) S = .ok ((List.range n).map fun k => T.int ((fl n (rB ps k)).length : Nat)) S :=
  compLoop_of rfl _ _ fun k _ => by simp [turn, hi]
theorem sum_ev (n : Nat) (ps : List (Nat × Nat)) : Bi.ev .sum [.lst ((List.range n).map fun k => T.int ((fl n (rB ps k)).length : Nat))] = some (.int ((arrs n (rB ps)).length : Nat)) := by
  have e : ((List.range n).map fun k => T.int ((fl n (rB ps k)).length : Nat)) = ((((List.range n).map fun k => (fl n (rB ps k)).length)).map fun (k : Nat) => (k : Int)).map .int := by simp [Function.comp_def]
  rw [e]
  simp only [Bi.ev, intsOf_map, Option.map_some]
  rw [sum_nat, count_rows n (rB ps) (rB_refl ps)]
/-- told pairs of stages -/
def Prs (n : Nat) (t : List T) : Prop := ∃ ps : List (Nat × Nat), t = ps.map prT ∧ ∀ p ∈ ps, p.1 < n ∧ p.2 < n
theorem prs_of {n : Nat} {t : List T} (h : ∀ x ∈ t, ∃ p : Nat × Nat, x = prT p ∧ p.1 < n ∧ p.2 < n) : Prs n t := by
  induction t with
  | nil => exact ⟨[], rfl, fun p hp => by cases hp⟩
  | cons x t ih =>
    obtain ⟨ps, rfl, hb⟩ := ih fun y hy => h y (List.mem_cons_of_mem _ hy)
    obtain ⟨p, rfl, h1⟩ := h x (List.mem_cons_self ..)
    refine ⟨p :: ps, rfl, fun q hq => ?_⟩
    rcases List.mem_cons.mp hq with rfl | hq
    · exact h1
    · exact hb q hq
end K09
end Hf
end

section
set_option Elab.async false
set_option linter.all false
set_option maxRecDepth 100000
set_option maxHeartbeats 400000
/-! K09p: the plain law of k09: a category that is drawn. -/
namespace Hf
namespace K09
open P09
def IsCat (t : T) : Prop := ∃ n A tb, t = catT n A tb ∧ Cat n A tb
theorem isCat_known {i : Nat} (h : i < 10) : IsCat (KT i) := ⟨_, _, _, rfl, kn_cat h⟩
/-- one of the known ones, drawn -/
theorem c_dknown (m : Nat) (r0 : Env) {S : Store} {b : Nat} (hb : Box S b) (h0 : r0[0]? = some (.val (.ref b))) : ∃ i S', i < 10 ∧ ev pr (call pr (m + 1)) (make pr (m + 1)) r0 (.call 14 [(.call 12 [(.v 0), (.k (.int 10))])]) S = .ok (KT i) S' ∧ Grown b S S' := by
  obtain ⟨i, S', hi, e, d⟩ := draw m 10 (by decide) (by decide) hb
  have hi : i < 10 := by omega
  refine ⟨i, S', hi, ?_, d⟩
  simp [h0, e, c_known m hi]
theorem kn_small {i : Nat} (h : i < 10) : (KN i).1 ≤ 2 ∧ (KN i).2.1.length ≤ 5 := by
  have hi : i = 0 ∨ i = 1 ∨ i = 2 ∨ i = 3 ∨ i = 4 ∨ i = 5 ∨ i = 6 ∨ i = 7 ∨ i = 8 ∨ i = 9 := by omega
  rcases hi with rfl | rfl | rfl | rfl | rfl | rfl | rfl | rfl | rfl | rfl <;> simp [KN]
end K09
end Hf
end

section
set_option Elab.async false
set_option linter.all false
set_option maxRecDepth 100000
set_option maxHeartbeats 400000
/-! K09q: the plain law of k09: reading back, refusals. -/
namespace Hf
theorem beqAll_ints : ∀ is : List Int, T.beqAll (is.map .int) (is.map .int) = true
  | [] => rfl
  | i :: is => by simp [T.beqAll, T.beq, beqAll_ints is]
theorem read_ref {P : Prog} (hr : P.defs 9 = some READ) (m : Nat) (n : Nat) (is : List Int) {S : Store} (h : S[n]? = some (.lst (is.map .int))) : call P (m + 2) 9 [.ref n] S = .ok (.lst (is.map .int)) S := by
  rw [call_of hr rfl]
  have lk := look_at h
  have e' : compLoop (still (.ref n) (is.map .int)) (turn P (call P (m + 1)) (make P (m + 1)) [.val (.ref n), .no, .no] (.call 9 [(.v 1)]) (.n 1)) (is.map .int) S = .ok (is.map .int) S :=
    compLoop_of (by simp only [still, h]; exact beqAll_ints is) _ _ fun i _ => by
      have := read_of hr (m + 1) (.int i) rfl (by simp) (by simp) S
      simp [turn, this]
  simp [READ, startE, Ty.ev, T.isK, lk, items_ref n _ S h, e']
namespace K09
open P09
theorem blks_le {c : Nat} : ∀ {xs : List T}, (∀ x ∈ xs, blk x ≤ c) → blks xs ≤ xs.length * (c + 1)
  | [], _ => by simp
  | x :: xs, h => by
    have ih := blks_le (xs := xs) fun y hy => h y (List.mem_cons_of_mem _ hy)
    have := h x (List.mem_cons_self ..)
    simp only [blks_cons, List.length_cons, Nat.succ_mul]
    omega
theorem ord_read (n : Nat) {A : List (Nat × Nat)} (h : A.length ≤ 24) : (ordT n A).data = true ∧ (ordT n A).depth ≤ 3 ∧ blk (ordT n A) ≤ 16777216 := by
  have d1 := data_prTs A
  have d2 := depth_prTs A
  have b1 : blks (A.map prT) ≤ 24 * 3 := by
    have := blks_le (c := 2) (xs := A.map prT) fun x hx => by
      obtain ⟨p, _, rfl⟩ := List.mem_map.mp hx
      simp [prT]
    rw [List.length_map] at this
    omega
  have t1 : ∀ x ∈ tblT A, x.data = true ∧ x.depth ≤ 1 ∧ blk x ≤ 24 := fun x hx => by
    unfold tblT tbl at hx
    rw [List.map_map] at hx
    obtain ⟨f, _, rfl⟩ := List.mem_map.mp hx
    have a : ∀ y ∈ ((A.map fun g => entry A f g).map T.int), y.data = true ∧ y.depth ≤ 0 ∧ blk y ≤ 0 := fun y hy => by
      obtain ⟨i, _, rfl⟩ := List.mem_map.mp hy
      simp
    have b := blks_le (c := 0) fun y hy => (a y hy).2.2
    have dd := depthAll_le fun y hy => (a y hy).2.1
    simp only [Function.comp, rowI, data_tup, depth_tup, blk_tup]
    refine ⟨dataAll_of fun y hy => (a y hy).1, by omega, ?_⟩
    simp only [List.length_map] at b
    omega
  have t2 : blks (tblT A) ≤ 24 * 25 := by
    have b := blks_le (c := 24) fun y hy => (t1 y hy).2.2
    have : (tblT A).length = A.length := by simp [tblT, tbl]
    rw [this] at b
    omega
  have t3 := depthAll_le fun y hy => (t1 y hy).2.1
  have t4 := dataAll_of fun y hy => (t1 y hy).1
  simp only [ordT, data_tup, data_cons, data_int, data_nil, depth_tup, depth_cons, depth_int, depth_nil, blk_tup, blks_cons, blk_int, blks_nil, d1, t4]
  exact ⟨rfl, by omega, by omega⟩
end K09
end Hf
end

section
set_option Elab.async false
set_option linter.all false
set_option maxRecDepth 100000
set_option maxHeartbeats 400000
/-! K09r: the plain law of k09: known ones several times, all maps of small sets. -/
namespace Hf
namespace K09
open P09
def TL0 : Dt := (6, [(0, 0), (1, 1), (2, 2), (3, 3), (4, 4), (5, 5), (0, 0), (1, 1), (2, 2), (3, 3), (4, 4), (5, 5)], [[0, -1, -1, -1, -1, -1, 6, -1, -1, -1, -1, -1], [-1, 1, -1, -1, -1, -1, -1, 7, -1, -1, -1, -1], [-1, -1, 2, -1, -1, -1, -1, -1, 8, -1, -1, -1], [-1, -1, -1, 3, -1, -1, -1, -1, -1, 9, -1, -1], [-1, -1, -1, -1, 4, -1, -1, -1, -1, -1, 10, -1], [-1, -1, -1, -1, -1, 5, -1, -1, -1, -1, -1, 11], [6, -1, -1, -1, -1, -1, 6, -1, -1, -1, -1, -1], [-1, 7, -1, -1, -1, -1, -1, 7, -1, -1, -1, -1], [-1, -1, 8, -1, -1, -1, -1, -1, 8, -1, -1, -1], [-1, -1, -1, 9, -1, -1, -1, -1, -1, 9, -1, -1], [-1, -1, -1, -1, 10, -1, -1, -1, -1, -1, 10, -1], [-1, -1, -1, -1, -1, 11, -1, -1, -1, -1, -1, 11]])
def TL1 : Dt := (6, [(0, 0), (1, 1), (2, 2), (3, 3), (4, 4), (5, 5), (0, 0), (1, 1), (2, 2), (3, 3), (4, 4), (5, 5)], [[0, -1, -1, -1, -1, -1, 6, -1, -1, -1, -1, -1], [-1, 1, -1, -1, -1, -1, -1, 7, -1, -1, -1, -1], [-1, -1, 2, -1, -1, -1, -1, -1, 8, -1, -1, -1], [-1, -1, -1, 3, -1, -1, -1, -1, -1, 9, -1, -1], [-1, -1, -1, -1, 4, -1, -1, -1, -1, -1, 10, -1], [-1, -1, -1, -1, -1, 5, -1, -1, -1, -1, -1, 11], [6, -1, -1, -1, -1, -1, 0, -1, -1, -1, -1, -1], [-1, 7, -1, -1, -1, -1, -1, 1, -1, -1, -1, -1], [-1, -1, 8, -1, -1, -1, -1, -1, 2, -1, -1, -1], [-1, -1, -1, 9, -1, -1, -1, -1, -1, 3, -1, -1], [-1, -1, -1, -1, 10, -1, -1, -1, -1, -1, 4, -1], [-1, -1, -1, -1, -1, 11, -1, -1, -1, -1, -1, 5]])
def TL2 : Dt := (6, [(0, 0), (1, 1), (2, 2), (3, 3), (4, 4), (5, 5), (0, 0), (0, 0), (1, 1), (1, 1), (2, 2), (2, 2), (3, 3), (3, 3), (4, 4), (4, 4), (5, 5), (5, 5)], [[0, -1, -1, -1, -1, -1, 6, 7, -1, -1, -1, -1, -1, -1, -1, -1, -1, -1], [-1, 1, -1, -1, -1, -1, -1, -1, 8, 9, -1, -1, -1, -1, -1, -1, -1, -1], [-1, -1, 2, -1, -1, -1, -1, -1, -1, -1, 10, 11, -1, -1, -1, -1, -1, -1], [-1, -1, -1, 3, -1, -1, -1, -1, -1, -1, -1, -1, 12, 13, -1, -1, -1, -1], [-1, -1, -1, -1, 4, -1, -1, -1, -1, -1, -1, -1, -1, -1, 14, 15, -1, -1], [-1, -1, -1, -1, -1, 5, -1, -1, -1, -1, -1, -1, -1, -1, -1, -1, 16, 17], [6, -1, -1, -1, -1, -1, 7, 0, -1, -1, -1, -1, -1, -1, -1, -1, -1, -1], [7, -1, -1, -1, -1, -1, 0, 6, -1, -1, -1, -1, -1, -1, -1, -1, -1, -1], [-1, 8, -1, -1, -1, -1, -1, -1, 9, 1, -1, -1, -1, -1, -1, -1, -1, -1], [-1, 9, -1, -1, -1, -1, -1, -1, 1, 8, -1, -1, -1, -1, -1, -1, -1, -1], [-1, -1, 10, -1, -1, -1, -1, -1, -1, -1, 11, 2, -1, -1, -1, -1, -1, -1], [-1, -1, 11, -1, -1, -1, -1, -1, -1, -1, 2, 10, -1, -1, -1, -1, -1, -1], [-1, -1, -1, 12, -1, -1, -1, -1, -1, -1, -1, -1, 13, 3, -1, -1, -1, -1], [-1, -1, -1, 13, -1, -1, -1, -1, -1, -1, -1, -1, 3, 12, -1, -1, -1, -1], [-1, -1, -1, -1, 14, -1, -1, -1, -1, -1, -1, -1, -1, -1, 15, 4, -1, -1], [-1, -1, -1, -1, 15, -1, -1, -1, -1, -1, -1, -1, -1, -1, 4, 14, -1, -1], [-1, -1, -1, -1, -1, 16, -1, -1, -1, -1, -1, -1, -1, -1, -1, -1, 17, 5], [-1, -1, -1, -1, -1, 17, -1, -1, -1, -1, -1, -1, -1, -1, -1, -1, 5, 16]])
def TL3 : Dt := (6, [(0, 0), (1, 1), (2, 2), (3, 3), (4, 4), (5, 5), (0, 0), (0, 0), (1, 1), (1, 1), (2, 2), (2, 2), (3, 3), (3, 3), (4, 4), (4, 4), (5, 5), (5, 5)], [[0, -1, -1, -1, -1, -1, 6, 7, -1, -1, -1, -1, -1, -1, -1, -1, -1, -1], [-1, 1, -1, -1, -1, -1, -1, -1, 8, 9, -1, -1, -1, -1, -1, -1, -1, -1], [-1, -1, 2, -1, -1, -1, -1, -1, -1, -1, 10, 11, -1, -1, -1, -1, -1, -1], [-1, -1, -1, 3, -1, -1, -1, -1, -1, -1, -1, -1, 12, 13, -1, -1, -1, -1], [-1, -1, -1, -1, 4, -1, -1, -1, -1, -1, -1, -1, -1, -1, 14, 15, -1, -1], [-1, -1, -1, -1, -1, 5, -1, -1, -1, -1, -1, -1, -1, -1, -1, -1, 16, 17], [6, -1, -1, -1, -1, -1, 6, 6, -1, -1, -1, -1, -1, -1, -1, -1, -1, -1], [7, -1, -1, -1, -1, -1, 7, 7, -1, -1, -1, -1, -1, -1, -1, -1, -1, -1], [-1, 8, -1, -1, -1, -1, -1, -1, 8, 8, -1, -1, -1, -1, -1, -1, -1, -1], [-1, 9, -1, -1, -1, -1, -1, -1, 9, 9, -1, -1, -1, -1, -1, -1, -1, -1], [-1, -1, 10, -1, -1, -1, -1, -1, -1, -1, 10, 10, -1, -1, -1, -1, -1, -1], [-1, -1, 11, -1, -1, -1, -1, -1, -1, -1, 11, 11, -1, -1, -1, -1, -1, -1], [-1, -1, -1, 12, -1, -1, -1, -1, -1, -1, -1, -1, 12, 12, -1, -1, -1, -1], [-1, -1, -1, 13, -1, -1, -1, -1, -1, -1, -1, -1, 13, 13, -1, -1, -1, -1], [-1, -1, -1, -1, 14, -1, -1, -1, -1, -1, -1, -1, -1, -1, 14, 14, -1, -1], [-1, -1, -1, -1, 15, -1, -1, -1, -1, -1, -1, -1, -1, -1, 15, 15, -1, -1], [-1, -1, -1, -1, -1, 16, -1, -1, -1, -1, -1, -1, -1, -1, -1, -1, 16, 16], [-1, -1, -1, -1, -1, 17, -1, -1, -1, -1, -1, -1, -1, -1, -1, -1, 17, 17]])
def TL4 : Dt := (6, [(0, 0), (1, 1), (2, 2), (3, 3), (4, 4), (5, 5), (0, 0), (0, 0), (1, 1), (1, 1), (2, 2), (2, 2), (3, 3), (3, 3), (4, 4), (4, 4), (5, 5), (5, 5)], [[0, -1, -1, -1, -1, -1, 6, 7, -1, -1, -1, -1, -1, -1, -1, -1, -1, -1], [-1, 1, -1, -1, -1, -1, -1, -1, 8, 9, -1, -1, -1, -1, -1, -1, -1, -1], [-1, -1, 2, -1, -1, -1, -1, -1, -1, -1, 10, 11, -1, -1, -1, -1, -1, -1], [-1, -1, -1, 3, -1, -1, -1, -1, -1, -1, -1, -1, 12, 13, -1, -1, -1, -1], [-1, -1, -1, -1, 4, -1, -1, -1, -1, -1, -1, -1, -1, -1, 14, 15, -1, -1], [-1, -1, -1, -1, -1, 5, -1, -1, -1, -1, -1, -1, -1, -1, -1, -1, 16, 17], [6, -1, -1, -1, -1, -1, 6, 7, -1, -1, -1, -1, -1, -1, -1, -1, -1, -1], [7, -1, -1, -1, -1, -1, 6, 7, -1, -1, -1, -1, -1, -1, -1, -1, -1, -1], [-1, 8, -1, -1, -1, -1, -1, -1, 8, 9, -1, -1, -1, -1, -1, -1, -1, -1], [-1, 9, -1, -1, -1, -1, -1, -1, 8, 9, -1, -1, -1, -1, -1, -1, -1, -1], [-1, -1, 10, -1, -1, -1, -1, -1, -1, -1, 10, 11, -1, -1, -1, -1, -1, -1], [-1, -1, 11, -1, -1, -1, -1, -1, -1, -1, 10, 11, -1, -1, -1, -1, -1, -1], [-1, -1, -1, 12, -1, -1, -1, -1, -1, -1, -1, -1, 12, 13, -1, -1, -1, -1], [-1, -1, -1, 13, -1, -1, -1, -1, -1, -1, -1, -1, 12, 13, -1, -1, -1, -1], [-1, -1, -1, -1, 14, -1, -1, -1, -1, -1, -1, -1, -1, -1, 14, 15, -1, -1], [-1, -1, -1, -1, 15, -1, -1, -1, -1, -1, -1, -1, -1, -1, 14, 15, -1, -1], [-1, -1, -1, -1, -1, 16, -1, -1, -1, -1, -1, -1, -1, -1, -1, -1, 16, 17], [-1, -1, -1, -1, -1, 17, -1, -1, -1, -1, -1, -1, -1, -1, -1, -1, 16, 17]])
def TL5 : Dt := (6, [(0, 0), (1, 1), (2, 2), (3, 3), (4, 4), (5, 5), (0, 0), (0, 0), (1, 1), (1, 1), (2, 2), (2, 2), (3, 3), (3, 3), (4, 4), (4, 4), (5, 5), (5, 5)], [[0, -1, -1, -1, -1, -1, 6, 7, -1, -1, -1, -1, -1, -1, -1, -1, -1, -1], [-1, 1, -1, -1, -1, -1, -1, -1, 8, 9, -1, -1, -1, -1, -1, -1, -1, -1], [-1, -1, 2, -1, -1, -1, -1, -1, -1, -1, 10, 11, -1, -1, -1, -1, -1, -1], [-1, -1, -1, 3, -1, -1, -1, -1, -1, -1, -1, -1, 12, 13, -1, -1, -1, -1], [-1, -1, -1, -1, 4, -1, -1, -1, -1, -1, -1, -1, -1, -1, 14, 15, -1, -1], [-1, -1, -1, -1, -1, 5, -1, -1, -1, -1, -1, -1, -1, -1, -1, -1, 16, 17], [6, -1, -1, -1, -1, -1, 7, 7, -1, -1, -1, -1, -1, -1, -1, -1, -1, -1], [7, -1, -1, -1, -1, -1, 7, 7, -1, -1, -1, -1, -1, -1, -1, -1, -1, -1], [-1, 8, -1, -1, -1, -1, -1, -1, 9, 9, -1, -1, -1, -1, -1, -1, -1, -1], [-1, 9, -1, -1, -1, -1, -1, -1, 9, 9, -1, -1, -1, -1, -1, -1, -1, -1], [-1, -1, 10, -1, -1, -1, -1, -1, -1, -1, 11, 11, -1, -1, -1, -1, -1, -1], [-1, -1, 11, -1, -1, -1, -1, -1, -1, -1, 11, 11, -1, -1, -1, -1, -1, -1], [-1, -1, -1, 12, -1, -1, -1, -1, -1, -1, -1, -1, 13, 13, -1, -1, -1, -1], [-1, -1, -1, 13, -1, -1, -1, -1, -1, -1, -1, -1, 13, 13, -1, -1, -1, -1], [-1, -1, -1, -1, 14, -1, -1, -1, -1, -1, -1, -1, -1, -1, 15, 15, -1, -1], [-1, -1, -1, -1, 15, -1, -1, -1, -1, -1, -1, -1, -1, -1, 15, 15, -1, -1], [-1, -1, -1, -1, -1, 16, -1, -1, -1, -1, -1, -1, -1, -1, -1, -1, 17, 17], [-1, -1, -1, -1, -1, 17, -1, -1, -1, -1, -1, -1, -1, -1, -1, -1, 17, 17]])
def TL6 : Dt := (6, [(0, 0), (1, 1), (2, 2), (3, 3), (4, 4), (5, 5), (0, 1), (0, 1), (2, 3), (2, 3), (4, 5), (4, 5)], [[0, -1, -1, -1, -1, -1, 6, 7, -1, -1, -1, -1], [-1, 1, -1, -1, -1, -1, -1, -1, -1, -1, -1, -1], [-1, -1, 2, -1, -1, -1, -1, -1, 8, 9, -1, -1], [-1, -1, -1, 3, -1, -1, -1, -1, -1, -1, -1, -1], [-1, -1, -1, -1, 4, -1, -1, -1, -1, -1, 10, 11], [-1, -1, -1, -1, -1, 5, -1, -1, -1, -1, -1, -1], [-1, 6, -1, -1, -1, -1, -1, -1, -1, -1, -1, -1], [-1, 7, -1, -1, -1, -1, -1, -1, -1, -1, -1, -1], [-1, -1, -1, 8, -1, -1, -1, -1, -1, -1, -1, -1], [-1, -1, -1, 9, -1, -1, -1, -1, -1, -1, -1, -1], [-1, -1, -1, -1, -1, 10, -1, -1, -1, -1, -1, -1], [-1, -1, -1, -1, -1, 11, -1, -1, -1, -1, -1, -1]])
def TL7 : Dt := (6, [(0, 0), (1, 1), (2, 2), (3, 3), (4, 4), (5, 5), (0, 1), (1, 0), (1, 1), (2, 3), (3, 2), (3, 3), (4, 5), (5, 4), (5, 5)], [[0, -1, -1, -1, -1, -1, 6, -1, -1, -1, -1, -1, -1, -1, -1], [-1, 1, -1, -1, -1, -1, -1, 7, 8, -1, -1, -1, -1, -1, -1], [-1, -1, 2, -1, -1, -1, -1, -1, -1, 9, -1, -1, -1, -1, -1], [-1, -1, -1, 3, -1, -1, -1, -1, -1, -1, 10, 11, -1, -1, -1], [-1, -1, -1, -1, 4, -1, -1, -1, -1, -1, -1, -1, 12, -1, -1], [-1, -1, -1, -1, -1, 5, -1, -1, -1, -1, -1, -1, -1, 13, 14], [-1, 6, -1, -1, -1, -1, -1, 0, 6, -1, -1, -1, -1, -1, -1], [7, -1, -1, -1, -1, -1, 8, -1, -1, -1, -1, -1, -1, -1, -1], [-1, 8, -1, -1, -1, -1, -1, 7, 8, -1, -1, -1, -1, -1, -1], [-1, -1, -1, 9, -1, -1, -1, -1, -1, -1, 2, 9, -1, -1, -1], [-1, -1, 10, -1, -1, -1, -1, -1, -1, 11, -1, -1, -1, -1, -1], [-1, -1, -1, 11, -1, -1, -1, -1, -1, -1, 10, 11, -1, -1, -1], [-1, -1, -1, -1, -1, 12, -1, -1, -1, -1, -1, -1, -1, 4, 12], [-1, -1, -1, -1, 13, -1, -1, -1, -1, -1, -1, -1, 14, -1, -1], [-1, -1, -1, -1, -1, 14, -1, -1, -1, -1, -1, -1, -1, 13, 14]])
def TL8 : Dt := (6, [(0, 0), (1, 1), (2, 2), (3, 3), (4, 4), (5, 5), (1, 1), (0, 1), (3, 3), (2, 3), (5, 5), (4, 5)], [[0, -1, -1, -1, -1, -1, -1, 7, -1, -1, -1, -1], [-1, 1, -1, -1, -1, -1, 6, -1, -1, -1, -1, -1], [-1, -1, 2, -1, -1, -1, -1, -1, -1, 9, -1, -1], [-1, -1, -1, 3, -1, -1, -1, -1, 8, -1, -1, -1], [-1, -1, -1, -1, 4, -1, -1, -1, -1, -1, -1, 11], [-1, -1, -1, -1, -1, 5, -1, -1, -1, -1, 10, -1], [-1, 6, -1, -1, -1, -1, 1, -1, -1, -1, -1, -1], [-1, 7, -1, -1, -1, -1, 7, -1, -1, -1, -1, -1], [-1, -1, -1, 8, -1, -1, -1, -1, 3, -1, -1, -1], [-1, -1, -1, 9, -1, -1, -1, -1, 9, -1, -1, -1], [-1, -1, -1, -1, -1, 10, -1, -1, -1, -1, 5, -1], [-1, -1, -1, -1, -1, 11, -1, -1, -1, -1, 11, -1]])
def TL9 : Dt := (6, [(0, 0), (1, 1), (2, 2), (3, 3), (4, 4), (5, 5), (1, 1), (0, 1), (0, 1), (3, 3), (2, 3), (2, 3), (5, 5), (4, 5), (4, 5)], [[0, -1, -1, -1, -1, -1, -1, 7, 8, -1, -1, -1, -1, -1, -1], [-1, 1, -1, -1, -1, -1, 6, -1, -1, -1, -1, -1, -1, -1, -1], [-1, -1, 2, -1, -1, -1, -1, -1, -1, -1, 10, 11, -1, -1, -1], [-1, -1, -1, 3, -1, -1, -1, -1, -1, 9, -1, -1, -1, -1, -1], [-1, -1, -1, -1, 4, -1, -1, -1, -1, -1, -1, -1, -1, 13, 14], [-1, -1, -1, -1, -1, 5, -1, -1, -1, -1, -1, -1, 12, -1, -1], [-1, 6, -1, -1, -1, -1, 1, -1, -1, -1, -1, -1, -1, -1, -1], [-1, 7, -1, -1, -1, -1, 8, -1, -1, -1, -1, -1, -1, -1, -1], [-1, 8, -1, -1, -1, -1, 7, -1, -1, -1, -1, -1, -1, -1, -1], [-1, -1, -1, 9, -1, -1, -1, -1, -1, 3, -1, -1, -1, -1, -1], [-1, -1, -1, 10, -1, -1, -1, -1, -1, 11, -1, -1, -1, -1, -1], [-1, -1, -1, 11, -1, -1, -1, -1, -1, 10, -1, -1, -1, -1, -1], [-1, -1, -1, -1, -1, 12, -1, -1, -1, -1, -1, -1, 5, -1, -1], [-1, -1, -1, -1, -1, 13, -1, -1, -1, -1, -1, -1, 14, -1, -1], [-1, -1, -1, -1, -1, 14, -1, -1, -1, -1, -1, -1, 13, -1, -1]])
def ML0 : Dt := (2, [(0, 0), (1, 1), (0, 1), (0, 1), (1, 0), (1, 1), (1, 1), (1, 1)], [[0, -1, 2, 3, -1, -1, -1, -1], [-1, 1, -1, -1, 4, 5, 6, 7], [-1, 2, -1, -1, 0, 2, 3, 3], [-1, 3, -1, -1, 0, 2, 2, 3], [4, -1, 5, 7, -1, -1, -1, -1], [-1, 5, -1, -1, 4, 5, 7, 7], [-1, 6, -1, -1, 4, 5, 1, 7], [-1, 7, -1, -1, 4, 5, 5, 7]])
def ML1 : Dt := (1, [(0, 0), (0, 0), (0, 0), (0, 0)], [[0, 1, 2, 3], [1, 1, 3, 3], [2, 1, 0, 3], [3, 1, 1, 3]])
def ML2 : Dt := (2, [(0, 0), (1, 1), (0, 0), (0, 0), (0, 0), (0, 1), (1, 0), (1, 0)], [[0, -1, 2, 3, 4, 5, -1, -1], [-1, 1, -1, -1, -1, -1, 6, 7], [2, -1, 2, 4, 4, 5, -1, -1], [3, -1, 2, 0, 4, 5, -1, -1], [4, -1, 2, 2, 4, 5, -1, -1], [-1, 5, -1, -1, -1, -1, 2, 4], [6, -1, 6, 7, 7, 1, -1, -1], [7, -1, 6, 6, 7, 1, -1, -1]])
def ML3 : Dt := (3, [(0, 0), (1, 1), (2, 2), (0, 1), (0, 2), (0, 2), (1, 0), (1, 2), (1, 2), (2, 0), (2, 1), (2, 2), (2, 2), (2, 2)], [[0, -1, -1, 3, 4, 5, -1, -1, -1, -1, -1, -1, -1, -1], [-1, 1, -1, -1, -1, -1, 6, 7, 8, -1, -1, -1, -1, -1], [-1, -1, 2, -1, -1, -1, -1, -1, -1, 9, 10, 11, 12, 13], [-1, 3, -1, -1, -1, -1, 0, 4, 5, -1, -1, -1, -1, -1], [-1, -1, 4, -1, -1, -1, -1, -1, -1, 0, 3, 4, 5, 5], [-1, -1, 5, -1, -1, -1, -1, -1, -1, 0, 3, 4, 4, 5], [6, -1, -1, 1, 7, 8, -1, -1, -1, -1, -1, -1, -1, -1], [-1, -1, 7, -1, -1, -1, -1, -1, -1, 6, 1, 7, 8, 8], [-1, -1, 8, -1, -1, -1, -1, -1, -1, 6, 1, 7, 7, 8], [9, -1, -1, 10, 11, 13, -1, -1, -1, -1, -1, -1, -1, -1], [-1, 10, -1, -1, -1, -1, 9, 11, 13, -1, -1, -1, -1, -1], [-1, -1, 11, -1, -1, -1, -1, -1, -1, 9, 10, 11, 13, 13], [-1, -1, 12, -1, -1, -1, -1, -1, -1, 9, 10, 11, 2, 13], [-1, -1, 13, -1, -1, -1, -1, -1, -1, 9, 10, 11, 11, 13]])
def many (i : Nat) : Nat := [6, 6, 6, 6, 6, 6, 3, 3, 3, 3].getD i 0
def TL (i : Nat) : Dt := [TL0, TL1, TL2, TL3, TL4, TL5, TL6, TL7, TL8, TL9].getD i TL0
def ML (i : Nat) : Dt := [ML0, ML1, ML2, ML3].getD i ML0
def sizesT (i : Nat) : T := [.lst [.int 1, .int 2], .lst [.int 2], .lst [.int 2, .int 1], .lst [.int 1, .int 1, .int 2]].getD i .non
theorem times0 (S : Store) : call pr 18 79 [KT 0, .int 6] S = .ok (dT TL0) S := by kernel_rfl
theorem tcat0 : catB TL0.1 TL0.2.1 TL0.2.2 = true := by decide +kernel
theorem times1 (S : Store) : call pr 18 79 [KT 1, .int 6] S = .ok (dT TL1) S := by kernel_rfl
theorem tcat1 : catB TL1.1 TL1.2.1 TL1.2.2 = true := by decide +kernel
theorem times2 (S : Store) : call pr 18 79 [KT 2, .int 6] S = .ok (dT TL2) S := by kernel_rfl
theorem tcat2 : catB TL2.1 TL2.2.1 TL2.2.2 = true := by decide +kernel
theorem times3 (S : Store) : call pr 18 79 [KT 3, .int 6] S = .ok (dT TL3) S := by kernel_rfl
theorem tcat3 : catB TL3.1 TL3.2.1 TL3.2.2 = true := by decide +kernel
theorem times4 (S : Store) : call pr 18 79 [KT 4, .int 6] S = .ok (dT TL4) S := by kernel_rfl
theorem tcat4 : catB TL4.1 TL4.2.1 TL4.2.2 = true := by decide +kernel
theorem times5 (S : Store) : call pr 18 79 [KT 5, .int 6] S = .ok (dT TL5) S := by kernel_rfl
theorem tcat5 : catB TL5.1 TL5.2.1 TL5.2.2 = true := by decide +kernel
theorem times6 (S : Store) : call pr 18 79 [KT 6, .int 3] S = .ok (dT TL6) S := by kernel_rfl
theorem tcat6 : catB TL6.1 TL6.2.1 TL6.2.2 = true := by decide +kernel
theorem times7 (S : Store) : call pr 18 79 [KT 7, .int 3] S = .ok (dT TL7) S := by kernel_rfl
theorem tcat7 : catB TL7.1 TL7.2.1 TL7.2.2 = true := by decide +kernel
theorem times8 (S : Store) : call pr 18 79 [KT 8, .int 3] S = .ok (dT TL8) S := by kernel_rfl
theorem tcat8 : catB TL8.1 TL8.2.1 TL8.2.2 = true := by decide +kernel
theorem times9 (S : Store) : call pr 18 79 [KT 9, .int 3] S = .ok (dT TL9) S := by kernel_rfl
theorem tcat9 : catB TL9.1 TL9.2.1 TL9.2.2 = true := by decide +kernel
theorem maps0 (S : Store) : call pr 18 80 [sizesT 0] S = .ok (dT ML0) S := by kernel_rfl
theorem mcat0 : catB ML0.1 ML0.2.1 ML0.2.2 = true := by decide +kernel
theorem maps1 (S : Store) : call pr 18 80 [sizesT 1] S = .ok (dT ML1) S := by kernel_rfl
theorem mcat1 : catB ML1.1 ML1.2.1 ML1.2.2 = true := by decide +kernel
theorem maps2 (S : Store) : call pr 18 80 [sizesT 2] S = .ok (dT ML2) S := by kernel_rfl
theorem mcat2 : catB ML2.1 ML2.2.1 ML2.2.2 = true := by decide +kernel
theorem maps3 (S : Store) : call pr 18 80 [sizesT 3] S = .ok (dT ML3) S := by kernel_rfl
theorem mcat3 : catB ML3.1 ML3.2.1 ML3.2.2 = true := by decide +kernel
def AL3 : Dt := (3, [(0, 0), (1, 1), (2, 2), (0, 1), (0, 2), (1, 0), (1, 2), (2, 0), (2, 1)], [[0, -1, -1, 3, 4, -1, -1, -1, -1], [-1, 1, -1, -1, -1, 5, 6, -1, -1], [-1, -1, 2, -1, -1, -1, -1, 7, 8], [-1, 3, -1, -1, -1, 0, 4, -1, -1], [-1, -1, 4, -1, -1, -1, -1, 0, 3], [5, -1, -1, 1, 6, -1, -1, -1, -1], [-1, -1, 6, -1, -1, -1, -1, 5, 1], [7, -1, -1, 8, 2, -1, -1, -1, -1], [-1, 8, -1, -1, -1, 7, 2, -1, -1]])
def allT3 : T := .lst [.lst [.int 0, .int 1, .int 2], .lst [.int 0, .int 1, .int 2], .lst [.int 0, .int 1, .int 2]]
theorem all3 (S : Store) : call pr 18 13 [allT3] S = .ok (dT AL3) S := by kernel_rfl
theorem acat3 : catB AL3.1 AL3.2.1 AL3.2.2 = true := by decide +kernel
def AL4 : Dt := (4, [(0, 0), (1, 1), (2, 2), (3, 3), (0, 1), (0, 2), (0, 3), (1, 0), (1, 2), (1, 3), (2, 0), (2, 1), (2, 3), (3, 0), (3, 1), (3, 2)], [[0, -1, -1, -1, 4, 5, 6, -1, -1, -1, -1, -1, -1, -1, -1, -1], [-1, 1, -1, -1, -1, -1, -1, 7, 8, 9, -1, -1, -1, -1, -1, -1], [-1, -1, 2, -1, -1, -1, -1, -1, -1, -1, 10, 11, 12, -1, -1, -1], [-1, -1, -1, 3, -1, -1, -1, -1, -1, -1, -1, -1, -1, 13, 14, 15], [-1, 4, -1, -1, -1, -1, -1, 0, 5, 6, -1, -1, -1, -1, -1, -1], [-1, -1, 5, -1, -1, -1, -1, -1, -1, -1, 0, 4, 6, -1, -1, -1], [-1, -1, -1, 6, -1, -1, -1, -1, -1, -1, -1, -1, -1, 0, 4, 5], [7, -1, -1, -1, 1, 8, 9, -1, -1, -1, -1, -1, -1, -1, -1, -1], [-1, -1, 8, -1, -1, -1, -1, -1, -1, -1, 7, 1, 9, -1, -1, -1], [-1, -1, -1, 9, -1, -1, -1, -1, -1, -1, -1, -1, -1, 7, 1, 8], [10, -1, -1, -1, 11, 2, 12, -1, -1, -1, -1, -1, -1, -1, -1, -1], [-1, 11, -1, -1, -1, -1, -1, 10, 2, 12, -1, -1, -1, -1, -1, -1], [-1, -1, -1, 12, -1, -1, -1, -1, -1, -1, -1, -1, -1, 10, 11, 2], [13, -1, -1, -1, 14, 15, 3, -1, -1, -1, -1, -1, -1, -1, -1, -1], [-1, 14, -1, -1, -1, -1, -1, 13, 15, 3, -1, -1, -1, -1, -1, -1], [-1, -1, 15, -1, -1, -1, -1, -1, -1, -1, 13, 14, 3, -1, -1, -1]])
def allT4 : T := .lst [.lst [.int 0, .int 1, .int 2, .int 3], .lst [.int 0, .int 1, .int 2, .int 3], .lst [.int 0, .int 1, .int 2, .int 3], .lst [.int 0, .int 1, .int 2, .int 3]]
theorem all4 (S : Store) : call pr 18 13 [allT4] S = .ok (dT AL4) S := by kernel_rfl
theorem acat4 : catB AL4.1 AL4.2.1 AL4.2.2 = true := by decide +kernel
end K09
end Hf
end

section
set_option Elab.async false
set_option linter.all false
set_option maxRecDepth 100000
set_option maxHeartbeats 400000
/-! K09s: the plain law of k09: one stage with many arrows. -/
namespace Hf
namespace K09
open P09
def sng (n : Nat) (tu : Bool) (f g : Nat) : Nat := if tu = true then (f + g) % n else if 0 < f then f else g
def sD (n : Nat) (tu : Bool) : Dt := (1, List.replicate n (0, 0), (List.range n).map fun f => (List.range n).map fun g => ((sng n tu f g : Nat) : Int))
theorem sng_lt {n : Nat} {tu : Bool} {f g : Nat} (hf : f < n) (hg : g < n) : sng n tu f g < n := by
  unfold sng
  split
  · exact Nat.mod_lt _ (by omega)
  · split <;> assumption
theorem single_cat {n : Nat} (tu : Bool) (h1 : 1 ≤ n) (h2 : n ≤ 24) : Cat (sD n tu).1 (sD n tu).2.1 (sD n tu).2.2 := by
  have hA : (sD n tu).2.1.length = n := by simp [sD]
  have ha : ∀ f, f < n → ar (sD n tu).2.1 f = (0, 0) := fun f hf => by simp [ar, sD, List.getElem?_replicate, hf]
  have hr : ∀ f, f < n → rwt (sD n tu).2.2 f = (List.range n).map fun g => ((sng n tu f g : Nat) : Int) := fun f hf => by simp [rwt, sD, hf]
  have he : ∀ f g, f < n → g < n → en (sD n tu).2.2 f g = (sng n tu f g : Nat) := fun f g hf hg => by unfold en; rw [hr f hf]; simp [hg]
  refine ⟨by simp [sD], by simp [sD], by rw [hA]; exact h1, by rw [hA]; exact h2, fun f hf => ?_, fun i hi => ?_, by simp [sD], fun f hf => ?_, fun f g hf hg q => ?_, fun f g hf hg _ => ?_, fun f g h hf hg hh _ _ => ?_⟩
  · rw [hA] at hf; rw [ha f hf]; simp [sD]
  · have : i = 0 := by have : i < 1 := hi; omega
    subst this
    rw [ha 0 (by omega)]
  · rw [hA] at hf; rw [hr f hf, hA]; simp
  · rw [hA] at hf hg
    rw [ha f hf, ha g hg] at q
    exact absurd rfl q
  · rw [hA] at hf hg ⊢
    refine ⟨_, sng_lt hf hg, he f g hf hg, by rw [ha _ (sng_lt hf hg), ha f hf, ha g hg], fun z => ?_, fun z => ?_⟩
    · have z : f < 1 := z
      have : f = 0 := by omega
      subst this
      unfold sng
      split
      · rw [Nat.zero_add, Nat.mod_eq_of_lt hg]
      · rfl
    · have z : g < 1 := z
      have : g = 0 := by omega
      subst this
      unfold sng
      split
      · rw [Nat.add_zero, Nat.mod_eq_of_lt hf]
      · split <;> omega
  · rw [hA] at hf hg hh
    rw [he f g hf hg, he g h hg hh]
    simp only [Int.toNat_natCast]
    rw [he _ h (sng_lt hf hg) hh, he f _ hf (sng_lt hg hh)]
    congr 1
    unfold sng
    by_cases t : tu = true
    · simp only [t, if_true]
      rw [Nat.mod_add_mod, Nat.add_mod_mod, Nat.add_assoc]
    · simp only [t, if_false]
      by_cases z : 0 < f
      · simp [z]
      · simp [z]
theorem c_single (m : Nat) {n : Nat} (tu : Bool) (h1 : 2 ≤ n) (h2 : n ≤ 24) (S : Store) : call pr (m + 1) 78 [.int n, .bl tu] S = .ok (dT (sD n tu)) S := by
  rw [call_of (d := d_l_single) rfl rfl]
  have g := rng_nat (n := n) (by omega)
  have hn : (0 : Int) < n := by omega
  have hone : ∀ (f : Nat) (xs : List T) (y3 y4 : Slot), f < n → xs.length < sizeLim → goS pr (call pr m) (make pr m) (.n 3) d_l_single_b1 (.int f) [.val (.int n), .val (.bl tu), .own xs, y3, y4] S = .nx [.val (.int n), .val (.bl tu), .own (xs ++ [rowI ((List.range n).map fun g => ((sng n tu f g : Nat) : Int))]), .val (.int f), y4] S := fun f xs y3 y4 hf hz => by
    have e : compLoop (fun _ => true) (turn pr (call pr m) (make pr m) [.val (.int n), .val (.bl tu), .own xs, .val (.int f), y4] (.ife (.v 1) (.op .mod (.bi .int [(.op .add (.v 3) (.v 4))]) (.v 0)) (.ife (.cmp .gt (.v 3) (.k (.int 0))) (.v 3) (.v 4))) (.n 4)) (zts n) S = .ok ((List.range n).map fun g => T.int ((sng n tu f g : Nat) : Int)) S :=
      compLoop_of rfl _ _ fun x hx => by
        have hx : x < n := by simpa using hx
        cases tu with
        | true =>
          have em : Op2.ev .mod (.int ((f : Int) + (x : Int))) (.int n) = some (.int ((sng n true f x : Nat) : Int)) := by
            rw [mod_int _ _ hn]
            congr 2
          simp [turn, em]
        | false =>
          by_cases q : 0 < f
          · have q' : (0 : Int) < f := by omega
            have es : sng n false f x = f := by simp [sng, q]
            simp [turn, q, es]
          · have q' : ¬ (0 : Int) < f := by omega
            have es : sng n false f x = x := by simp [sng, q]
            simp [turn, q, es]
    simp [goS, d_l_single_b1, g.1, g.2]
    rw [e]
    simp [hz, rowI, Function.comp_def]
  have key : exs pr (call pr m) (make pr m) d_l_single.body [.val (.int n), .val (.bl tu), .no, .no, .no] S = .ret (dT (sD n tu)) S := by
    simp only [d_l_single]
    rw [exs_nx (r' := [.val (.int n), .val (.bl tu), .own [], .no, .no]) (S' := S) (by simp)]
    obtain ⟨r', S', e, ⟨y3, rfl⟩, hS⟩ := forS_inv (g := fun _ => true) (f := goS pr (call pr m) (make pr m) (.n 3) d_l_single_b1) (fun (k : Nat) => T.int (k : Int)) (fun k r S' => (∃ y3, r = [.val (.int n), .val (.bl tu), .own ((List.range k).map fun f => rowI ((List.range n).map fun g => ((sng n tu f g : Nat) : Int))), y3, .no]) ∧ S' = S) (fun _ => rfl) (List.range n) 0 [.val (.int n), .val (.bl tu), .own [], .no, .no] S (fun j x hx r S' hI => by
      obtain ⟨⟨y3, rfl⟩, hS⟩ := hI
      rw [hS]
      obtain ⟨hx, rfl⟩ := range_get hx
      have hz : ((List.range (0 + x)).map fun f => rowI ((List.range n).map fun g => ((sng n tu f g : Nat) : Int))).length < sizeLim := by simp; unfold sizeLim; omega
      refine ⟨_, _, hone x _ y3 .no hx hz, ⟨.val (.int x), ?_⟩, rfl⟩
      rw [Nat.zero_add, List.range_succ, List.map_append]; rfl) ⟨⟨_, rfl⟩, rfl⟩
    rw [hS] at e
    rw [exs_nx (r' := [.val (.int n), .val (.bl tu), .own ((List.range n).map fun f => rowI ((List.range n).map fun g => ((sng n tu f g : Nat) : Int))), y3, .no]) (S' := S) (by
      simp [g.1, g.2]
      simpa [zts] using e)]
    refine exs_ret ?_
    have hm : Op2.ev .mul (.tup [.tup [.int 0, .int 0]]) (.int n) = some (.tup ((List.replicate n (0, 0)).map prT)) := by
      have : (2 : Int) ≤ n ∧ (n : Int) ≤ 1000 := by omega
      simp [Op2.ev, this.1, this.2, prT]
    simp [hm, dT, sD, catT, List.map_map, Function.comp_def]
  exact congrArg SRes.fin key
end K09
end Hf
end

section
set_option Elab.async false
set_option linter.all false
set_option maxRecDepth 100000
set_option maxHeartbeats 400000
/-! K09t: the plain law of k09: an order of drawn pairs that go on to greater ones. -/
namespace Hf
namespace K09
open P09
/-- pairs that go on to greater ones -/
def Up (n : Nat) (ps : List (Nat × Nat)) : Prop := ∀ p ∈ ps, p.1 < p.2 ∧ p.2 < n
theorem Up.lt {n : Nat} {ps : List (Nat × Nat)} (h : Up n ps) : ∀ p ∈ ps, p.1 < n ∧ p.2 < n := fun p hp => by
  have := h p hp
  omega
theorem Up.rch {n : Nat} {ps : List (Nat × Nat)} (h : Up n ps) {i j : Nat} (r : Rch ps i j) : i ≤ j := by
  induction r with
  | refl => exact Nat.le_refl _
  | step _ e ih => have := h _ e; simp only at this; omega
theorem Up.next {n : Nat} {ps : List (Nat × Nat)} (h : Up n ps) {i j : Nat} (hij : i < j) : rB ps i j = ps.any fun p => decide (p.2 = j) && rB ps i p.1 := by
  rw [Bool.eq_iff_iff, rB_iff]
  simp only [List.any_eq_true, Bool.and_eq_true, decide_eq_true_eq, rB_iff]
  constructor
  · intro r
    cases r with
    | refl => omega
    | step r e => exact ⟨_, e, rfl, r⟩
  · rintro ⟨p, hp, rfl, r⟩
    exact .step r hp
theorem fl_self {n : Nat} {ps : List (Nat × Nat)} (h : Up n ps) (i : Nat) : fl (i + 1) (rB ps i) = [.int i] := by
  rw [fl_map, List.range_succ, List.filter_append]
  have e : (List.range i).filter (rB ps i) = [] := List.filter_eq_nil_iff.mpr fun x hx => by
    have hx : x < i := by simpa using hx
    rw [rB_iff]
    intro r
    have := h.rch r
    omega
  have e2 : rB ps i i = true := rB_refl ps i
  simp [e, e2]
theorem fl_more {n : Nat} (R : Nat → Bool) : fl (n + 1) R = fl n R ++ if R n = true then [.int n] else [] := by
  rw [fl_map, fl_map, List.range_succ, List.filter_append, List.map_append]
  congr 1
  cases q : R n <;> simp [q]
theorem fl_len (n : Nat) (R : Nat → Bool) : (fl n R).length ≤ n := by
  rw [fl_map, List.length_map]
  exact len_range_filter n R
theorem rangeL_lo {a n : Nat} : rangeL (a : Int) (n : Int) = (List.range (n - a)).map fun (k : Nat) => T.int ((a + k : Nat) : Int) := by
  unfold rangeL
  rw [show ((n : Int) - (a : Int)).toNat = n - a by omega]
  apply List.map_congr_left
  intro k _
  simp
section
variable (m : Nat) {n : Nat} (n3 : 3 ≤ n) (n6 : n ≤ 6) {b : Nat}
include n3 n6
/-- pairs drawn by turns -/
theorem up_turns (w : Nat) (hw : w ≤ 6) {ps : List (Nat × Nat)} (hp : Up n ps) (hl : ps.length ≤ 6) (x2 x4 x5 x6 x7 x8 x9 x10 : Slot) {S : Store} (hb : Box S b) :
    ∃ ps' y4 y6 S', forLoop (fun _ => true) (goS pr (call pr (m + 1)) (make pr (m + 1)) (.n 4) d_l_rising_b1) (zts w) [.val (.ref b), .val (.int n), x2, .own (ps.map prT), x4, x5, x6, x7, x8, x9, x10] S = .nx [.val (.ref b), .val (.int n), x2, .own (ps'.map prT), y4, x5, y6, x7, x8, x9, x10] S' ∧ Up n ps' ∧ ps'.length ≤ 12 ∧ Grown b S S' := by
  obtain ⟨r', S', e, ⟨ps', y4, y6, rfl, h1, h2⟩, d⟩ := forS_inv (g := fun _ => true) (f := goS pr (call pr (m + 1)) (make pr (m + 1)) (.n 4) d_l_rising_b1) (fun (k : Nat) => T.int (k : Int)) (fun k r S' => (∃ ps' y4 y6, r = [.val (.ref b), .val (.int n), x2, .own (ps'.map prT), y4, x5, y6, x7, x8, x9, x10] ∧ Up n ps' ∧ ps'.length ≤ 6 + k) ∧ Grown b S S') (fun _ => rfl) (List.range w) 0 [.val (.ref b), .val (.int n), x2, .own (ps.map prT), x4, x5, x6, x7, x8, x9, x10] S (fun j x hx r S5 hI => by
    obtain ⟨⟨ps', y4, y6, rfl, h1, h2⟩, d⟩ := hI
    obtain ⟨hx, rfl⟩ := range_get hx
    obtain ⟨a, S6, ha, e6, d6⟩ := draw m ((n : Int) - 1) (by omega) (by omega) d.1
    obtain ⟨c, S7, hc, e7, d7⟩ := draw m ((n : Int) - 1 - a) (by omega) (by omega) d6.1
    have hz : ps'.length < sizeLim := by unfold sizeLim; omega
    refine ⟨[.val (.ref b), .val (.int n), x2, .own ((ps' ++ [(a, a + 1 + c)]).map prT), .val (.int x), x5, .val (.int a), x7, x8, x9, x10], S7, ?_, ⟨ps' ++ [(a, a + 1 + c)], .val (.int x), .val (.int a), rfl, fun p hp => ?_, by simp; omega⟩, (d.trans d6).trans d7⟩
    · simp [goS, d_l_rising_b1, e6, e7, hz, prT]
    · rcases List.mem_append.mp hp with hp | hp
      · exact h1 p hp
      · simp at hp
        subst hp
        exact ⟨by show a < a + 1 + c; omega, by show a + 1 + c < n; omega⟩) ⟨⟨ps, x4, x6, rfl, hp, by omega⟩, Grown.refl hb⟩
  exact ⟨ps', y4, y6, S', e, h1, by rw [List.length_range] at h2; omega, d⟩
/-- where a stage leads -/
theorem up_there {ps : List (Nat × Nat)} (hp : Up n ps) {i : Nat} (hi : i < n) (x0 x2 x4 x5 x8 x9 x10 : Slot) (S : Store) :
    ∃ y8, forLoop (fun _ => true) (goS pr (call pr (m + 1)) (make pr (m + 1)) (.n 8) d_l_rising_b2) (rangeL ((i : Int) + 1) n) [x0, .val (.int n), x2, .own (ps.map prT), x4, x5, .val (.int i), .own [.int i], x8, x9, x10] S = .nx [x0, .val (.int n), x2, .own (ps.map prT), x4, x5, .val (.int i), .own (fl n (rB ps i)), y8, x9, x10] S := by
  have er : rangeL ((i : Int) + 1) n = (List.range (n - (i + 1))).map fun (k : Nat) => T.int ((i + 1 + k : Nat) : Int) := by
    rw [← rangeL_lo]; simp
  rw [er]
  obtain ⟨r', S', e, ⟨y8, rfl⟩, hS⟩ := forS_inv (g := fun _ => true) (f := goS pr (call pr (m + 1)) (make pr (m + 1)) (.n 8) d_l_rising_b2) (fun (k : Nat) => T.int ((i + 1 + k : Nat) : Int)) (fun k r S' => (∃ y8, r = [x0, .val (.int n), x2, .own (ps.map prT), x4, x5, .val (.int i), .own (fl (i + 1 + k) (rB ps i)), y8, x9, x10]) ∧ S' = S) (fun _ => rfl) (List.range (n - (i + 1))) 0 [x0, .val (.int n), x2, .own (ps.map prT), x4, x5, .val (.int i), .own [.int i], x8, x9, x10] S (fun j x hx r S5 hI => by
    obtain ⟨⟨y8, rfl⟩, hS⟩ := hI
    rw [hS]
    obtain ⟨hx, rfl⟩ := range_get hx
    rw [Nat.zero_add]
    obtain ⟨k, hk⟩ : ∃ k, k = i + 1 + x := ⟨_, rfl⟩
    rw [show i + 1 + (x + 1) = k + 1 by omega, ← hk]
    have ec : compLoop (fun _ => true) (turn pr (call pr (m + 1)) (make pr (m + 1)) [x0, .val (.int n), x2, .own (ps.map prT), x4, x5, .val (.int i), .own (fl k (rB ps i)), .val (.int k), x9, x10] (.and (.cmp .eq (.sub (.v 10) (.k (.int 1))) (.v 8)) (.cmp .isin (.sub (.v 10) (.k (.int 0))) (.v 7))) (.n 10)) (ps.map prT) S = .ok (ps.map fun p => T.bl (decide (p.2 = k) && rB ps i p.1)) S :=
      compLoop_of rfl _ _ fun p hpp => by
        have hpp := hp p hpp
        by_cases q : p.2 = k
        · have q1 : p.1 < k := by omega
          have q2 : (p.2 : Int) = (k : Int) := by omega
          have ei := in_fl (p := rB ps i) q1
          have ei' : T.isin (.int p.1) (.lst (fl k (rB ps i))) = some (rB ps i p.1) := ei
          simp [turn, prT, eq_true q, eq_true q2, ei', Cmp.ev]
        · have q2 : ¬ (p.2 : Int) = (k : Int) := by omega
          simp [turn, prT, eq_false q, eq_false q2]
    have hz : (fl k (rB ps i)).length < sizeLim := by
      have := fl_len k (rB ps i)
      unfold sizeLim; omega
    refine ⟨[x0, .val (.int n), x2, .own (ps.map prT), x4, x5, .val (.int i), .own (fl (k + 1) (rB ps i)), .val (.int k), x9, x10], S, ?_, ⟨_, rfl⟩, rfl⟩
    rw [fl_more, hp.next (show i < k by omega)]
    have ev1 : ev pr (call pr (m + 1)) (make pr (m + 1)) [x0, .val (.int n), x2, .own (ps.map prT), x4, x5, .val (.int i), .own (fl k (rB ps i)), .val (.int k), x9, x10] (.bi .any [(.comp (.and (.cmp .eq (.sub (.v 10) (.k (.int 1))) (.v 8)) (.cmp .isin (.sub (.v 10) (.k (.int 0))) (.v 7))) (.n 10) (.v 3))]) S = .ok (.bl (ps.any fun p => decide (p.2 = k) && rB ps i p.1)) S := by
      simp
      rw [ec]
      simp only [bnd_ok, eV_nil, List.map_cons, List.map_nil, look_lst, bi_any_map, of_some]
    simp only [goS, d_l_rising_b2, bindT_n, List.set_cons_succ, List.set_cons_zero]
    rw [q_one, qq_ife, ev1]
    cases ps.any fun p => decide (p.2 = k) && rB ps i p.1
    · simp
    · simp [hz]) ⟨⟨_, by rw [Nat.add_zero, fl_self hp]⟩, rfl⟩
  rw [hS] at e
  rw [List.length_range, Nat.zero_add, show i + 1 + (n - (i + 1)) = n by omega] at e
  exact ⟨y8, e⟩
end
end K09
end Hf
end

section
set_option Elab.async false
set_option linter.all false
set_option maxRecDepth 100000
set_option maxHeartbeats 400000
/-! K09u: the plain law of k09: an order that rises, whole. -/
namespace Hf
namespace K09
open P09
theorem gt_len (i : Nat) : ∀ n : Nat, ((List.range n).filter fun j => decide (i < j)).length ≤ n - 1 - i
  | 0 => by simp
  | n + 1 => by
    have ih := gt_len i n
    rw [List.range_succ, List.filter_append, List.length_append]
    by_cases h : i < n
    · simp [h]; omega
    · have e : ((List.range n).filter fun j => decide (i < j)) = [] := List.filter_eq_nil_iff.mpr fun x hx => by
        have hx : x < n := by simpa using hx
        simp; omega
      rw [e]
      simp [h]
theorem up_arrs {n : Nat} {ps : List (Nat × Nat)} (n3 : 3 ≤ n) (n6 : n ≤ 6) (h : Up n ps) : (arrs n (rB ps)).length ≤ 24 := by
  have one : ∀ i, (more n (rB ps) i).length ≤ n - 1 - i := fun i => by
    unfold more
    rw [List.length_map]
    refine Nat.le_trans (filter_mono (q := fun j => decide (i < j)) fun j _ hj => ?_) (gt_len i n)
    simp only [Bool.and_eq_true, decide_eq_true_eq] at hj ⊢
    have := h.rch (rB_iff.mp hj.2)
    omega
  have flat : ∀ k, ((List.range k).flatMap (more n (rB ps))).length ≤ ((List.range k).map fun i => n - 1 - i).sum := by
    intro k
    induction k with
    | zero => simp
    | succ k ih =>
      rw [List.range_succ, List.flatMap_append, List.length_append, List.map_append, List.sum_append]
      have := one k
      simp only [List.flatMap_cons, List.flatMap_nil, List.append_nil, List.map_cons, List.map_nil, List.sum_cons, List.sum_nil, Nat.add_zero]
      omega
  have hn : n = 3 ∨ n = 4 ∨ n = 5 ∨ n = 6 := by omega
  have hs : ((List.range n).map fun i => n - 1 - i).sum ≤ 15 := by rcases hn with rfl | rfl | rfl | rfl <;> decide
  have := flat n
  unfold arrs arrsTo
  rw [List.length_append]
  have : (dg n).length = n := by simp [dg]
  omega
theorem still_lst_fun (xs ys : List T) : still (.lst xs) ys = fun _ => true := rfl
theorem ev_rng2 {P : Prog} {cf mk : Nat → List T → Store → Res T} {r : Env} {a c : E} {S : Store} {i j : Int} (ha : ev P cf mk r a S = .ok (.int i) S) (hc : ev P cf mk r c S = .ok (.int j) S) (hi : -1000 ≤ i ∧ i ≤ 1000) (hj : -1000 ≤ j ∧ j ≤ 1000) : ev P cf mk r (.rng2 a c) S = .ok (.lst (rangeL i j)) S := by
  rw [e_rng2, ha, bnd_ok, hc, bnd_ok, asJ_int, asJ_int, if_pos ⟨⟨by omega, by omega⟩, by omega, by omega, by omega⟩]
section
variable (m : Nat) {b : Nat}
/-- the pairs, drawn -/
theorem up_pairs {n s : Nat} (n3 : 3 ≤ n) (n6 : n ≤ 6) (hs : s < 3) (l : List Hf.S) {S : Store} (hb : Box S b) : ∃ ps y4 y6 S', Up n ps ∧ ps.length ≤ 12 ∧ Grown b S S' ∧
    exs pr (call pr (m + 1)) (make pr (m + 1)) ([.own 3 (.ife (.cmp .eq (.v 2) (.k (.int 0))) (.comp (.tup [(.v 9), (.op .add (.v 9) (.k (.int 1)))]) (.n 9) (.rng (.op .sub (.v 1) (.k (.int 1))))) (.disp [])),
      .ife (.cmp .eq (.v 2) (.k (.int 1))) [.own 3 (.comp (.tup [(.call 12 [(.v 0), (.v 9)]), (.v 9)]) (.n 9) (.rng2 (.k (.int 1)) (.v 1)))] [],
      .loop (.n 4) (.rng (.ife (.cmp .eq (.v 2) (.k (.int 0))) (.k (.int 0)) (.call 12 [(.v 0), (.k (.int 6))]))) d_l_rising_b1] ++ l) [.val (.ref b), .val (.int n), .val (.int s), .no, .no, .no, .no, .no, .no, .no, .no] S =
    exs pr (call pr (m + 1)) (make pr (m + 1)) l [.val (.ref b), .val (.int n), .val (.int s), .own (ps.map prT), y4, .no, y6, .no, .no, .no, .no] S' := by
  simp only [List.cons_append, List.nil_append]
  have hs' : s = 0 ∨ s = 1 ∨ s = 2 := by omega
  rcases hs' with rfl | rfl | rfl
  · have g := rng_nat (n := n - 1) (by omega)
    have ec : compLoop (fun _ => true) (turn pr (call pr (m + 1)) (make pr (m + 1)) [.val (.ref b), .val (.int n), .val (.int (0 : Nat)), .no, .no, .no, .no, .no, .no, .no, .no] (.tup [(.v 9), (.op .add (.v 9) (.k (.int 1)))]) (.n 9)) (zts (n - 1)) S = .ok ((List.range (n - 1)).map fun k => prT (k, k + 1)) S :=
      compLoop_of rfl _ _ fun k _ => by simp [turn, prT]
    have ni : ((n : Int) - 1) = ((n - 1 : Nat) : Int) := by omega
    have ec' : compLoop (fun _ => true) (turn pr (call pr (m + 1)) (make pr (m + 1)) [.val (.ref b), .val (.int n), .val (.int 0), .no, .no, .no, .no, .no, .no, .no, .no] (.tup [(.v 9), (.op .add (.v 9) (.k (.int 1)))]) (.n 9)) (zts (n - 1)) S = .ok ((List.range (n - 1)).map fun k => prT (k, k + 1)) S := ec
    refine ⟨(List.range (n - 1)).map fun k => (k, k + 1), .no, .no, S, fun p hp => ?_, by simp; omega, Grown.refl hb, ?_⟩
    · obtain ⟨k, hk, rfl⟩ := List.mem_map.mp hp
      have hk : k < n - 1 := by simpa using hk
      exact ⟨by show k < k + 1; omega, by show k + 1 < n; omega⟩
    rw [exs_nx (r' := [.val (.ref b), .val (.int n), .val (.int (0 : Nat)), .own (((List.range (n - 1)).map fun k => (k, k + 1)).map prT), .no, .no, .no, .no, .no, .no, .no]) (S' := S) (by
      simp [ni, g.1, g.2]
      rw [ec']
      simp [Function.comp_def])]
    rw [exs_nx (r' := [.val (.ref b), .val (.int n), .val (.int (0 : Nat)), .own (((List.range (n - 1)).map fun k => (k, k + 1)).map prT), .no, .no, .no, .no, .no, .no, .no]) (S' := S) (by simp)]
    rw [exs_nx (r' := [.val (.ref b), .val (.int n), .val (.int (0 : Nat)), .own (((List.range (n - 1)).map fun k => (k, k + 1)).map prT), .no, .no, .no, .no, .no, .no, .no]) (S' := S) (by
      simp [rangeL, forLoop])]
  · have er : rangeL 1 (n : Int) = (List.range (n - 1)).map fun (k : Nat) => T.int (1 + (k : Int)) := by
      have := rangeL_lo (a := 1) (n := n)
      simpa using this
    obtain ⟨ys, S1, e1, l1, q1, d1⟩ := compS_inv (g := fun _ => true) (f := turn pr (call pr (m + 1)) (make pr (m + 1)) [.val (.ref b), .val (.int n), .val (.int (1 : Nat)), .own [], .no, .no, .no, .no, .no, .no, .no] (.tup [(.call 12 [(.v 0), (.v 9)]), (.v 9)]) (.n 9)) (fun (k : Nat) => T.int (1 + (k : Int))) (fun _ S' => Grown b S S') (fun j y => ∃ p : Nat × Nat, y = prT p ∧ p.1 < p.2 ∧ p.2 < n) (fun _ => rfl) (List.range (n - 1)) 0 S (fun j x hx S5 d => by
      obtain ⟨hx, rfl⟩ := range_get hx
      obtain ⟨a, S6, ha, e6, d6⟩ := draw m (1 + (x : Int)) (by omega) (by omega) d.1
      refine ⟨prT (a, 1 + x), S6, ?_, ⟨(a, 1 + x), rfl, by show a < 1 + x; omega, by show 1 + x < n; omega⟩, d.trans d6⟩
      simp [turn, e6, prT]) (Grown.refl hb)
    obtain ⟨ps, eps, up⟩ : ∃ ps : List (Nat × Nat), ys = ps.map prT ∧ Up n ps := by
      clear e1 l1
      have q1 : ∀ y ∈ ys, ∃ p : Nat × Nat, y = prT p ∧ p.1 < p.2 ∧ p.2 < n := fun y hy => by
        obtain ⟨j, hj⟩ := List.mem_iff_getElem?.mp hy
        exact q1 j y hj
      induction ys with
      | nil => exact ⟨[], rfl, fun p hp => by cases hp⟩
      | cons y ys ih =>
        obtain ⟨ps, rfl, h2⟩ := ih (fun j y hy => by
          have := q1 y (List.mem_cons_of_mem _ (List.mem_of_getElem? hy))
          exact this) fun y hy => q1 y (List.mem_cons_of_mem _ hy)
        obtain ⟨p, rfl, h3⟩ := q1 y (List.mem_cons_self ..)
        refine ⟨p :: ps, rfl, fun q hq => ?_⟩
        rcases List.mem_cons.mp hq with rfl | hq
        · exact h3
        · exact h2 q hq
    subst eps
    have lps : ps.length ≤ 6 := by simp at l1; omega
    obtain ⟨w, S2, hw, e2, d2⟩ := draw m 6 (by decide) (by decide) d1.1
    have g := rng_nat (n := w) (by omega)
    obtain ⟨ps', y4, y6, S3, e3, u3, l3, d3⟩ := up_turns m n3 n6 w (by omega) up lps (.val (.int 1)) .no .no .no .no .no .no .no d2.1
    refine ⟨ps', y4, y6, S3, u3, l3, (d1.trans d2).trans d3, ?_⟩
    rw [exs_nx (r' := [.val (.ref b), .val (.int n), .val (.int (1 : Nat)), .own [], .no, .no, .no, .no, .no, .no, .no]) (S' := S) (by simp)]
    rw [exs_nx (r' := [.val (.ref b), .val (.int n), .val (.int (1 : Nat)), .own (ps.map prT), .no, .no, .no, .no, .no, .no, .no]) (S' := S1) (by
      rw [qq_ife, show ev pr (call pr (m + 1)) (make pr (m + 1)) [.val (.ref b), .val (.int n), .val (.int (1 : Nat)), .own [], .no, .no, .no, .no, .no, .no, .no] (.cmp .eq (.v 2) (.k (.int 1))) S = .ok (.bl true) S from by simp, toT_ok, forkS_true, q_one, q_own, e_comp, evL_rng2,
        ev_rng2 (i := 1) (j := n) (by simp) (by simp) (by omega) (by omega), bnd_ok, items_lst, bnd_ok, er, still_lst_fun]
      dsimp only
      rw [e1]
      rfl)]
    rw [exs_nx (r' := [.val (.ref b), .val (.int n), .val (.int (1 : Nat)), .own (ps'.map prT), y4, .no, y6, .no, .no, .no, .no]) (S' := S3) (by
      simp [e2, g.1, g.2]
      exact e3)]
  · obtain ⟨w, S2, hw, e2, d2⟩ := draw m 6 (by decide) (by decide) hb
    have g := rng_nat (n := w) (by omega)
    obtain ⟨ps', y4, y6, S3, e3, u3, l3, d3⟩ := up_turns m n3 n6 w (by omega) (ps := []) (fun p hp => by cases hp) (by simp) (.val (.int 2)) .no .no .no .no .no .no .no d2.1
    refine ⟨ps', y4, y6, S3, u3, l3, d2.trans d3, ?_⟩
    rw [exs_nx (r' := [.val (.ref b), .val (.int n), .val (.int (2 : Nat)), .own [], .no, .no, .no, .no, .no, .no, .no]) (S' := S) (by simp)]
    rw [exs_nx (r' := [.val (.ref b), .val (.int n), .val (.int (2 : Nat)), .own [], .no, .no, .no, .no, .no, .no, .no]) (S' := S) (by simp)]
    rw [exs_nx (r' := [.val (.ref b), .val (.int n), .val (.int (2 : Nat)), .own (ps'.map prT), y4, .no, y6, .no, .no, .no, .no]) (S' := S3) (by
      simp [e2, g.1, g.2]
      exact e3)]
theorem c_rising {S : Store} (hb : Box S b) : ∃ n ps S', 3 ≤ n ∧ n ≤ 6 ∧ Up n ps ∧ call pr (m + 2) 77 [.ref b] S = .ok (ordT n (arrs n (rB ps))) S' ∧ Grown b S S' := by
  rw [call_of (d := d_l_rising) rfl rfl]
  obtain ⟨s0, S1, hs, e1, d1⟩ := draw m 4 (by decide) (by decide) hb
  obtain ⟨n, hn⟩ : ∃ n, n = 3 + s0 := ⟨_, rfl⟩
  have hni : (3 : Int) + s0 = (n : Int) := by omega
  obtain ⟨sh, S2, hsh, e2, d2⟩ := draw m 3 (by decide) (by decide) d1.1
  obtain ⟨ps, y4, y6, S3, up, lp, d3, e3⟩ := up_pairs m (n := n) (s := sh) (by omega) (by omega) (by omega) [.own 5 (.disp []), .loop (.n 6) (.rng (.v 1)) d_l_rising_b3, .frz 5, .ret (.call 13 [(.v 5)])] d2.1
  refine ⟨n, ps, S3, by omega, by omega, up, ?_, (d1.trans d2).trans d3⟩
  have key : exs pr (call pr (m + 1)) (make pr (m + 1)) d_l_rising.body [.val (.ref b), .no, .no, .no, .no, .no, .no, .no, .no, .no, .no] S = .ret (ordT n (arrs n (rB ps))) S3 := by
    simp only [d_l_rising]
    rw [exs_nx (r' := [.val (.ref b), .val (.int n), .no, .no, .no, .no, .no, .no, .no, .no, .no]) (S' := S1) (by simp [e1, hni])]
    rw [exs_nx (r' := [.val (.ref b), .val (.int n), .val (.int sh), .no, .no, .no, .no, .no, .no, .no, .no]) (S' := S2) (by simp [e2])]
    refine Eq.trans e3 ?_
    have g := rng_nat (n := n) (by omega)
    rw [exs_nx (r' := [.val (.ref b), .val (.int n), .val (.int sh), .own (ps.map prT), y4, .own [], y6, .no, .no, .no, .no]) (S' := S3) (by simp)]
    obtain ⟨r', S', e, ⟨z6, z7, z8, rfl⟩, hS⟩ := forS_inv (g := fun _ => true) (f := goS pr (call pr (m + 1)) (make pr (m + 1)) (.n 6) d_l_rising_b3) (fun (k : Nat) => T.int (k : Int)) (fun k r S' => (∃ z6 z7 z8, r = [.val (.ref b), .val (.int n), .val (.int sh), .own (ps.map prT), y4, .own ((List.range k).map fun i => T.lst (fl n (rB ps i))), z6, z7, z8, .no, .no]) ∧ S' = S3) (fun _ => rfl) (List.range n) 0 [.val (.ref b), .val (.int n), .val (.int sh), .own (ps.map prT), y4, .own [], y6, .no, .no, .no, .no] S3 (fun j x hx r S5 hI => by
      obtain ⟨⟨z6, z7, z8, rfl⟩, hS⟩ := hI
      rw [hS]
      obtain ⟨hx, rfl⟩ := range_get hx
      rw [Nat.zero_add]
      obtain ⟨y8, e8⟩ := up_there m (n := n) (by omega) (by omega) up hx (.val (.ref b)) (.val (.int sh)) y4 (.own ((List.range x).map fun i => T.lst (fl n (rB ps i)))) z8 .no .no S3
      have hz : ((List.range x).map fun i => T.lst (fl n (rB ps i))).length < sizeLim := by simp; unfold sizeLim; omega
      refine ⟨[.val (.ref b), .val (.int n), .val (.int sh), .own (ps.map prT), y4, .own ((List.range (x + 1)).map fun i => T.lst (fl n (rB ps i))), .val (.int x), .val (.lst (fl n (rB ps x))), y8, .no, .no], S3, ?_, ⟨_, _, _, rfl⟩, rfl⟩
      simp only [goS, d_l_rising_b3, bindT_n, List.set_cons_succ, List.set_cons_zero]
      rw [exs_nx (r' := [.val (.ref b), .val (.int n), .val (.int sh), .own (ps.map prT), y4, .own ((List.range x).map fun i => T.lst (fl n (rB ps i))), .val (.int x), .own [.int x], z8, .no, .no]) (S' := S3) (by simp)]
      rw [exs_nx (r' := [.val (.ref b), .val (.int n), .val (.int sh), .own (ps.map prT), y4, .own ((List.range x).map fun i => T.lst (fl n (rB ps i))), .val (.int x), .own (fl n (rB ps x)), y8, .no, .no]) (S' := S3) (by
        rw [q_loop, ev_rng2 (i := (x : Int) + 1) (j := n) (by simp) (by simp) (by omega) (by omega), bnd_ok, items_lst, toT_ok, still_lst_fun]
        exact e8)]
      rw [exs_nx (r' := [.val (.ref b), .val (.int n), .val (.int sh), .own (ps.map prT), y4, .own ((List.range x).map fun i => T.lst (fl n (rB ps i))), .val (.int x), .val (.lst (fl n (rB ps x))), y8, .no, .no]) (S' := S3) (by simp)]
      rw [q_one, List.range_succ, List.map_append]
      have hz' : x < sizeLim := by simpa using hz
      simp [hz']) ⟨⟨_, _, _, rfl⟩, rfl⟩
    rw [hS] at e
    rw [exs_nx (r' := [.val (.ref b), .val (.int n), .val (.int sh), .own (ps.map prT), y4, .own ((List.range n).map fun i => T.lst (fl n (rB ps i))), z6, z7, z8, .no, .no]) (S' := S3) (by
      simp [g.1, g.2]
      simpa [zts] using e)]
    rw [exs_nx (r' := [.val (.ref b), .val (.int n), .val (.int sh), .own (ps.map prT), y4, .val (.lst ((List.range n).map fun i => T.lst (fl n (rB ps i)))), z6, z7, z8, .no, .no]) (S' := S3) (by simp)]
    have er : call pr (m + 1) 13 [.lst ((List.range n).map fun i => T.lst (fl n (rB ps i)))] S3 = .ok (ordT n (arrs n (rB ps))) S3 := ordered_ok m n ps (by omega) S3
    exact exs_ret (by simp [er])
  exact congrArg SRes.fin key
end
end K09
end Hf
end

section
set_option Elab.async false
set_option linter.all false
set_option maxRecDepth 100000
set_option maxHeartbeats 400000
/-! K09v: the plain law of k09: the category that is drawn. -/
namespace Hf
namespace K09
open P09
theorem isCat_of {c : Dt} (h : catB c.1 c.2.1 c.2.2 = true) : IsCat (dT c) := ⟨_, _, _, rfl, catB_ok h⟩
section
variable {b : Nat} {S : Store}
theorem f_maps (k : Nat) (hk : k < 4) (S : Store) : ∃ t, IsCat t ∧ call pr 18 80 [sizesT k] S = .ok t S := by
  have h : k = 0 ∨ k = 1 ∨ k = 2 ∨ k = 3 := by omega
  rcases h with rfl | rfl | rfl | rfl
  · exact ⟨_, isCat_of mcat0, maps0 S⟩
  · exact ⟨_, isCat_of mcat1, maps1 S⟩
  · exact ⟨_, isCat_of mcat2, maps2 S⟩
  · exact ⟨_, isCat_of mcat3, maps3 S⟩
theorem f_times (i : Nat) (hi : i < 10) (S : Store) : ∃ t, IsCat t ∧ call pr 18 79 [KT i, .int (many i : Nat)] S = .ok t S := by
  have h : i = 0 ∨ i = 1 ∨ i = 2 ∨ i = 3 ∨ i = 4 ∨ i = 5 ∨ i = 6 ∨ i = 7 ∨ i = 8 ∨ i = 9 := by omega
  rcases h with rfl | rfl | rfl | rfl | rfl | rfl | rfl | rfl | rfl | rfl
  · exact ⟨_, isCat_of tcat0, times0 S⟩
  · exact ⟨_, isCat_of tcat1, times1 S⟩
  · exact ⟨_, isCat_of tcat2, times2 S⟩
  · exact ⟨_, isCat_of tcat3, times3 S⟩
  · exact ⟨_, isCat_of tcat4, times4 S⟩
  · exact ⟨_, isCat_of tcat5, times5 S⟩
  · exact ⟨_, isCat_of tcat6, times6 S⟩
  · exact ⟨_, isCat_of tcat7, times7 S⟩
  · exact ⟨_, isCat_of tcat8, times8 S⟩
  · exact ⟨_, isCat_of tcat9, times9 S⟩
theorem f_many (i : Nat) (hi : i < 10) (x0 x1 x3 : Slot) (S : Store) : ev pr (call pr 18) (make pr 18) [x0, x1, .val (KT i), x3] (.bi .min2 [(.op .fdiv (.k (.int 6)) (.sub (.v 2) (.k (.int 0)))), (.op .fdiv (.k (.int 24)) (.bi .len [(.sub (.v 2) (.k (.int 1)))]))]) S = .ok (.int (many i : Nat)) S := by
  have h : i = 0 ∨ i = 1 ∨ i = 2 ∨ i = 3 ∨ i = 4 ∨ i = 5 ∨ i = 6 ∨ i = 7 ∨ i = 8 ∨ i = 9 := by omega
  rcases h with rfl | rfl | rfl | rfl | rfl | rfl | rfl | rfl | rfl | rfl <;> kernel_rfl
theorem f_all (k : Nat) (hk : k < 2) (S : Store) : ∃ t u, IsCat t ∧ repV (.lst [.lst (rangeL 0 (3 + (k : Int)))]) (.int (3 + (k : Int))) S = .ok u S ∧ call pr 18 13 [u] S = .ok t S := by
  have h : k = 0 ∨ k = 1 := by omega
  rcases h with rfl | rfl
  · exact ⟨_, allT3, isCat_of acat3, by kernel_rfl, all3 S⟩
  · exact ⟨_, allT4, isCat_of acat4, by kernel_rfl, all4 S⟩
theorem c_full (hb : Box S b) : ∃ t S', IsCat t ∧ call pr 19 81 [.ref b] S = .ok t S' ∧ Grown b S S' := by
  rw [call_of (d := d_l_full) rfl rfl]
  suffices h : ∃ t S', IsCat t ∧ exs pr (call pr 18) (make pr 18) d_l_full.body [.val (.ref b), .no, .no, .no] S = .ret t S' ∧ Grown b S S' by
    obtain ⟨t, S', h1, h2, h3⟩ := h
    exact ⟨t, S', h1, congrArg SRes.fin h2, h3⟩
  simp only [d_l_full]
  obtain ⟨k, S1, hk, e1, d1⟩ := draw 17 7 (by decide) (by decide) hb
  rw [exs_nx (r' := [.val (.ref b), .val (.int k), .no, .no]) (S' := S1) (by simp [e1])]
  have c1 : ev pr (call pr 18) (make pr 18) [.val (.ref b), .val (.int k), .no, .no] (.cmp .lt (.v 1) (.k (.int 2))) S1 = .ok (.bl (decide ((k : Int) < 2))) S1 := by simp
  have ce : ∀ z : Int, ev pr (call pr 18) (make pr 18) [.val (.ref b), .val (.int k), .no, .no] (.cmp .eq (.v 1) (.k (.int z))) S1 = .ok (.bl (decide ((k : Int) = z))) S1 := fun z => by simp
  have skip : ∀ (z : Int) (l : List Hf.S), (k : Int) ≠ z → ex pr (call pr 18) (make pr 18) (.ife (.cmp .eq (.v 1) (.k (.int z))) l []) [.val (.ref b), .val (.int k), .no, .no] S1 = .nx [.val (.ref b), .val (.int k), .no, .no] S1 := fun z l h => by
    rw [qq_ife, ce, toT_ok, decide_eq_false h, forkS_false, q_nil]
  by_cases q : (k : Int) < 2
  · obtain ⟨n, ps, S2, n3, n6, up, e2, d2⟩ := c_rising 16 d1.1
    refine ⟨_, S2, ⟨n, _, _, rfl, cat_ord n ps (by omega) n6 (up_arrs n3 n6 up)⟩, exs_ret ?_, d1.trans d2⟩
    rw [qq_ife, c1, toT_ok, decide_eq_true q, forkS_true]
    exact exs_ret (by simp [e2]; rfl)
  rw [exs_nx (r' := [.val (.ref b), .val (.int k), .no, .no]) (S' := S1) (by rw [qq_ife, c1, toT_ok, decide_eq_false q, forkS_false, q_nil])]
  by_cases q6 : (k : Int) = 6
  · obtain ⟨j, S2, hj, e2, d2⟩ := draw 17 4 (by decide) (by decide) d1.1
    have hj : j < 4 := by omega
    obtain ⟨t, ht, e3⟩ := f_maps j hj S2
    refine ⟨t, S2, ht, exs_ret ?_, d1.trans d2⟩
    rw [qq_ife, ce, toT_ok, decide_eq_true q6, forkS_true]
    refine exs_ret ?_
    have es : ev pr (call pr 18) (make pr 18) [.val (.ref b), .val (.int k), .no, .no] (.sub (.disp [(.disp [(.k (.int 1)), (.k (.int 2))]), (.disp [(.k (.int 2))]), (.disp [(.k (.int 2)), (.k (.int 1))]), (.disp [(.k (.int 1)), (.k (.int 1)), (.k (.int 2))])]) (.call 12 [(.v 0), (.k (.int 4))])) S1 = .ok (sizesT j) S2 := by
      have h : j = 0 ∨ j = 1 ∨ j = 2 ∨ j = 3 := by omega
      rcases h with rfl | rfl | rfl | rfl <;> simp [e2, sizesT]
    rw [q_ret, e_call, e_cons, es, bnd_ok, e_nil, bnd_ok, bnd_ok, e3]
    rfl
  rw [exs_nx (skip 6 _ q6)]
  by_cases q2 : (k : Int) = 2
  · obtain ⟨j, S2, hj, e2, d2⟩ := draw 17 2 (by decide) (by decide) d1.1
    have hj : j < 2 := by omega
    obtain ⟨t, u, ht, er, e3⟩ := f_all j hj S2
    refine ⟨t, S2, ht, exs_ret ?_, d1.trans d2⟩
    rw [qq_ife, ce, toT_ok, decide_eq_true q2, forkS_true]
    rw [exs_nx (r' := [.val (.ref b), .val (.int k), .no, .val (.int (3 + (j : Int)))]) (S' := S2) (by simp [e2])]
    refine exs_ret ?_
    have el : ev pr (call pr 18) (make pr 18) [.val (.ref b), .val (.int k), .no, .val (.int (3 + (j : Int)))] (.disp [(.lrng (.v 3))]) S2 = .ok (.lst [.lst (rangeL 0 (3 + (j : Int)))]) S2 := by
      have : 3 + (j : Int) ≤ 16777216 ∧ -16777216 ≤ 3 + (j : Int) := by omega
      rw [e_disp, e_cons, e_lrng, show ev pr (call pr 18) (make pr 18) [.val (.ref b), .val (.int k), .no, .val (.int (3 + (j : Int)))] (.v 3) S2 = .ok (.int (3 + (j : Int))) S2 from by simp, bnd_ok, asJ_int, if_pos this, bnd_ok, e_nil, bnd_ok, bnd_ok]
    have ev3 : ev pr (call pr 18) (make pr 18) [.val (.ref b), .val (.int k), .no, .val (.int (3 + (j : Int)))] (.v 3) S2 = .ok (.int (3 + (j : Int))) S2 := by simp
    rw [q_ret, e_call, e_cons, e_rep, evL_disp, el, bnd_ok, ev3, bnd_ok, look_lst, er, bnd_ok, e_nil, bnd_ok, bnd_ok, e3]
    rfl
  rw [exs_nx (skip 2 _ q2)]
  by_cases q3 : (k : Int) = 3
  · obtain ⟨j, S2, hj, e2, d2⟩ := draw 17 5 (by decide) (by decide) d1.1
    obtain ⟨n, n2, n24, es⟩ : ∃ n : Nat, 2 ≤ n ∧ n ≤ 24 ∧ ev pr (call pr 18) (make pr 18) [.val (.ref b), .val (.int k), .no, .no] (.sub (.disp [(.k (.int 24)), (.k (.int 23)), (.k (.int 12)), (.k (.int 6)), (.k (.int 8))]) (.call 12 [(.v 0), (.k (.int 5))])) S1 = .ok (.int n) S2 := by
      have h : j = 0 ∨ j = 1 ∨ j = 2 ∨ j = 3 ∨ j = 4 := by omega
      rcases h with rfl | rfl | rfl | rfl | rfl
      · exact ⟨24, by decide, by decide, by simp [e2]⟩
      · exact ⟨23, by decide, by decide, by simp [e2]⟩
      · exact ⟨12, by decide, by decide, by simp [e2]⟩
      · exact ⟨6, by decide, by decide, by simp [e2]⟩
      · exact ⟨8, by decide, by decide, by simp [e2]⟩
    refine ⟨_, S2, ⟨_, _, _, rfl, single_cat true (by omega) n24⟩, exs_ret ?_, d1.trans d2⟩
    rw [qq_ife, ce, toT_ok, decide_eq_true q3, forkS_true]
    refine exs_ret ?_
    rw [q_ret, e_call, e_cons, es, bnd_ok, e_cons, e_k, bnd_ok, e_nil, bnd_ok, bnd_ok, bnd_ok, c_single 17 true n2 n24 S2]
    rfl
  rw [exs_nx (skip 3 _ q3)]
  by_cases q4 : (k : Int) = 4
  · obtain ⟨j, S2, hj, e2, d2⟩ := draw 17 13 (by decide) (by decide) d1.1
    have es : ev pr (call pr 18) (make pr 18) [.val (.ref b), .val (.int k), .no, .no] (.op .add (.k (.int 12)) (.call 12 [(.v 0), (.k (.int 13))])) S1 = .ok (.int ((12 + j : Nat) : Int)) S2 := by simp [e2]
    refine ⟨_, S2, ⟨_, _, _, rfl, single_cat (n := 12 + j) false (by omega) (by omega)⟩, exs_ret ?_, d1.trans d2⟩
    rw [qq_ife, ce, toT_ok, decide_eq_true q4, forkS_true]
    refine exs_ret ?_
    rw [q_ret, e_call, e_cons, es, bnd_ok, e_cons, e_k, bnd_ok, e_nil, bnd_ok, bnd_ok, bnd_ok, c_single 17 false (by omega) (by omega) S2]
    rfl
  rw [exs_nx (skip 4 _ q4)]
  obtain ⟨i, S2, hi, e2, d2⟩ := c_dknown 17 [.val (.ref b), .val (.int k), .no, .no] d1.1 rfl
  obtain ⟨t, ht, e3⟩ := f_times i hi S2
  refine ⟨t, S2, ht, ?_, d1.trans d2⟩
  rw [exs_nx (r' := [.val (.ref b), .val (.int k), .val (KT i), .no]) (S' := S2) (by rw [q_asg, e2, toT_ok]; rfl)]
  refine exs_ret ?_
  have ev2 : ev pr (call pr 18) (make pr 18) [.val (.ref b), .val (.int k), .val (KT i), .no] (.v 2) S2 = .ok (KT i) S2 := by simp
  rw [q_ret, e_call, e_cons, ev2, bnd_ok, e_cons, f_many i hi, bnd_ok, e_nil, bnd_ok, bnd_ok, bnd_ok, e3]
  rfl
end
end K09
end Hf
end

section
set_option Elab.async false
set_option linter.all false
set_option maxRecDepth 100000
set_option maxHeartbeats 400000
/-! K09w: the plain law of k09: the principles as the program tells them. -/
namespace Hf
theorem callV_fn {P : Prog} {cf mk : Nat → List T → Store → Res T} {r : Env} {e : E} {es : List E} {S : Store} {f : Nat} (h : ev P cf mk r e S = .ok (.fn f) S) : ev P cf mk r (.callV e es) S = (evs P cf mk r es S).bnd fun xs S => cf f xs S := by
  simp only [ev, h, bind_ok]; rfl
theorem compLoop2_of {α : Type} {g : Store → Bool} {f : T → Store → Res (List T)} {S : Store} (hg : g S = true) (t : α → T) (h : α → List T) : ∀ {xs : List α}, (∀ x ∈ xs, f (t x) S = .ok (h x) S) → compLoop2 g f (xs.map t) S = .ok (xs.flatMap h) S
  | [], _ => rfl
  | x :: xs, hf => by
    have e := compLoop2_of hg t h (xs := xs) fun y hy => hf y (List.mem_cons_of_mem _ hy)
    simp [compLoop2, hf x (List.mem_cons_self ..), hg, e]
theorem in_ints {α : Type} (x : Int) (h : α → Int) (xs : List α) : T.isin (.int x) (.lst (xs.map fun u => T.int (h u))) = some (xs.any fun u => decide (h u = x)) := by
  have h1 : T.dataAll (xs.map fun u => T.int (h u)) = true := dataAll_of fun y hy => by
    obtain ⟨u, _, rfl⟩ := List.mem_map.mp hy; rfl
  show inItems _ _ = _
  unfold inItems
  rw [if_pos (by rw [h1]; simp)]
  congr 1
  rw [List.any_map]
  first
    | rfl
    | (congr 1; funext u; simp [T.eqv, Bool.beq_eq_decide_eq])
namespace K09
open P09
section
variable {n : Nat} {A : List (Nat × Nat)} {tb : List (List Int)}
@[simp] theorem fm9 (k : Nat → Res T) (u : U k) : methV pr 9 (FR n A tb) k u = k 37 := rfl
def leadB (A : List (Nat × Nat)) (tb : List (List Int)) (f g : Nat) : Bool := (outsN A (ar A f).2).any fun u => decide (en tb f u = g)
def meetB (A : List (Nat × Nat)) (tb : List (List Int)) (f g : Nat) : Bool := (outsN A (ar A g).2).any fun v => (outsN A (ar A f).2).any fun u => decide (en tb f u = en tb g v)
def backB (A : List (Nat × Nat)) (tb : List (List Int)) (f : Nat) : Bool := (outsN A (ar A f).2).any fun b => decide ((ar A b).2 = (ar A f).1) && decide (en tb (en tb f b).toNat f = f)
def lastB (A : List (Nat × Nat)) (tb : List (List Int)) (s : Nat) : Bool := (outsN A s).all (invs A tb)
def endB (A : List (Nat × Nat)) (tb : List (List Int)) (s : Nat) : Bool := (outsN A s).all (und A tb)
def weakB (A : List (Nat × Nat)) (tb : List (List Int)) (s : Nat) : Bool := (outsN A s).all fun f => (outsN A s).all fun g => meetB A tb f g
def chainB (A : List (Nat × Nat)) (tb : List (List Int)) (s : Nat) : Bool := (outsN A s).all fun f => (outsN A s).all fun g => leadB A tb f g || leadB A tb g f
def shiftB (A : List (Nat × Nat)) (tb : List (List Int)) (s : Nat) : Bool := (outsN A s).all fun f => (outsN A (ar A f).2).any fun g => lastB A tb (ar A g).2
def premB (A : List (Nat × Nat)) (tb : List (List Int)) (s : Nat) : Bool := chainB A tb s && (outsN A s).all (backB A tb)
theorem c_leads (m : Nat) (hc : Cat n A tb) {f g : Nat} (hf : f < A.length) (S : Store) : call pr (m + 3) 61 [FR n A tb, .int f, .int g] S = .ok (.bl (leadB A tb f g)) S := by
  rw [call_of (d := d_leads_on) rfl rfl]
  have e : compLoop (fun _ => true) (turn pr (call pr (m + 2)) (make pr (m + 2)) [.val (FR n A tb), .val (.int f), .val (.int g), .no] (.cmp .eq (.meth 1 (.v 0) [(.v 1), (.v 3)]) (.v 2)) (.n 3)) (outs A (ar A f).2) S = .ok ((outsN A (ar A f).2).map fun u => T.bl (decide (en tb f u = g))) S :=
    compLoop_of rfl _ _ fun u hu => by
      have hu := (mem_outs.mp hu).1
      simp [turn, c_then (m + 1) hc hf hu]
  simp [d_leads_on, startE, c_behind m hc hf]
  rw [e]
  simp only [bnd_ok, eV_nil, List.map_cons, List.map_nil, look_lst, bi_any_map, of_some, toT_ok]
  simp [leadB]
theorem c_meet (m : Nat) (hc : Cat n A tb) {f g : Nat} (hf : f < A.length) (hg : g < A.length) (S : Store) : call pr (m + 3) 60 [FR n A tb, .int f, .int g] S = .ok (.bl (meetB A tb f g)) S := by
  rw [call_of (d := d_meet) rfl rfl]
  have e : compLoop (fun _ => true) (turn pr (call pr (m + 2)) (make pr (m + 2)) [.val (FR n A tb), .val (.int f), .val (.int g), .no, .no] (.meth 1 (.v 0) [(.v 1), (.v 4)]) (.n 4)) (outs A (ar A f).2) S = .ok ((outsN A (ar A f).2).map fun u => T.int (en tb f u)) S :=
    compLoop_of rfl _ _ fun u hu => by
      have hu := (mem_outs.mp hu).1
      simp [turn, c_then (m + 1) hc hf hu]
  have key : exs pr (call pr (m + 2)) (make pr (m + 2)) d_meet.body [.val (FR n A tb), .val (.int f), .val (.int g), .no, .no] S = .ret (.bl (meetB A tb f g)) S := by
    simp only [d_meet]
    obtain ⟨L, hL⟩ : ∃ L, L = (outsN A (ar A f).2).map fun u => T.int (en tb f u) := ⟨_, rfl⟩
    rw [← hL] at e
    rw [exs_nx (r' := [.val (FR n A tb), .val (.int f), .val (.int g), .val (.lst L), .no]) (S' := S) (by
      simp [c_behind m hc hf]
      rw [e]
      simp)]
    have hin : ∀ v, T.isin (.int (en tb g v)) (.lst L) = some ((outsN A (ar A f).2).any fun u => decide (en tb f u = en tb g v)) := fun v => by rw [hL]; exact in_ints _ _ _
    have e2 : compLoop (fun _ => true) (turn pr (call pr (m + 2)) (make pr (m + 2)) [.val (FR n A tb), .val (.int f), .val (.int g), .val (.lst L), .no] (.cmp .isin (.meth 1 (.v 0) [(.v 2), (.v 4)]) (.v 3)) (.n 4)) (outs A (ar A g).2) S = .ok ((outsN A (ar A g).2).map fun v => T.bl ((outsN A (ar A f).2).any fun u => decide (en tb f u = en tb g v))) S :=
      compLoop_of rfl _ _ fun v hv => by
        have hv := (mem_outs.mp hv).1
        simp [turn, c_then (m + 1) hc hg hv, Cmp.ev, hin]
    refine exs_ret ?_
    simp [c_behind m hc hg]
    rw [e2]
    simp only [bnd_ok, eV_nil, List.map_cons, List.map_nil, look_lst, bi_any_map, of_some, toT_ok]
    simp [meetB]
  exact congrArg SRes.fin key
theorem c_chain (m : Nat) (hc : Cat n A tb) {f g : Nat} (hf : f < A.length) (hg : g < A.length) (S : Store) : call pr (m + 4) 63 [FR n A tb, .int f, .int g] S = .ok (.bl (leadB A tb f g || leadB A tb g f)) S := by
  rw [call_of (d := d_chain) rfl rfl]
  have e1 := c_leads m hc (g := g) hf S
  have e2 := c_leads m hc (g := f) hg S
  cases q : leadB A tb f g <;> cases q2 : leadB A tb g f <;> simp [d_chain, startE, e1, e2, q, q2]
theorem outs_len (hc : Cat n A tb) (s : Nat) : (outsN A s).length ≤ 24 := Nat.le_trans (len_range_filter _ _) hc.A24
theorem c_pairs (m : Nat) (hc : Cat n A tb) {s : Nat} (hs : s < n) (F : Nat) (h : Nat → Nat → Bool) (S : Store) (hF : ∀ f g, f < A.length → g < A.length → call pr m F [FR n A tb, .int f, .int g] S = .ok (.bl (h f g)) S) :
    call pr (m + 1) 62 [FR n A tb, .int s, .fn F] S = .ok (.bl ((outsN A s).all fun f => (outsN A s).all fun g => h f g)) S := by
  rw [call_of (d := d_all_pairs) rfl rfl]
  have hl := outs_len hc s
  have hl' : (outs A s).length ≤ 2048 := by unfold outs; rw [List.length_map]; omega
  have ein : ∀ f, f < A.length → compLoop (fun _ => true) (turn pr (call pr m) (make pr m) [.val (FR n A tb), .val (.int s), .val (.fn F), .val (.int f), .no] (.callV (.v 2) [(.v 0), (.v 3), (.v 4)]) (.n 4)) (outs A s) S = .ok ((outsN A s).map fun g => T.bl (h f g)) S := fun f hf =>
    compLoop_of rfl _ _ fun g hg => by
      have hg := (mem_outs.mp hg).1
      have := hF f g hf hg
      have cv : ev pr (call pr m) (make pr m) [.val (FR n A tb), .val (.int s), .val (.fn F), .val (.int f), .val (.int g)] (.callV (.v 2) [(.v 0), (.v 3), (.v 4)]) S = .ok (.bl (h f g)) S := by
        rw [callV_fn (f := F) (by simp)]
        simp [this]
      simp [turn, cv]
  have e : compLoop2 (fun _ => true) (turn2 pr (call pr m) (make pr m) [.val (FR n A tb), .val (.int s), .val (.fn F), .no, .no] (.callV (.v 2) [(.v 0), (.v 3), (.v 4)]) (.n 3) (.n 4) (.sub (.attr (.v 0) 3) (.v 1))) (outs A s) S = .ok ((outsN A s).flatMap fun f => (outsN A s).map fun g => T.bl (h f g)) S :=
    compLoop2_of rfl _ _ fun f hf => by
      have hf := (mem_outs.mp hf).1
      simp [turn2, atI_lead hs, hl']
      exact ein f hf
  have ef : ((outsN A s).flatMap fun f => (outsN A s).map fun g => T.bl (h f g)) = ((outsN A s).flatMap fun f => (outsN A s).map fun g => (f, g)).map fun p => T.bl (h p.1 p.2) := by
    rw [List.map_flatMap]
    congr 1
    funext f
    rw [List.map_map]; rfl
  rw [ef] at e
  simp [d_all_pairs, startE, atI_lead hs, hl']
  rw [e]
  simp only [bnd_ok, eV_nil, List.map_cons, List.map_nil, look_lst, bi_all_map, of_some, toT_ok]
  simp [List.all_flatMap, Function.comp_def]
theorem p_weak (m : Nat) (hc : Cat n A tb) {s : Nat} (hs : s < n) (S : Store) : call pr (m + 5) 64 [FR n A tb, .int s] S = .ok (.bl (weakB A tb s)) S := by
  rw [call_of (d := d_is_weak) rfl rfl]
  have := c_pairs (m + 3) hc hs 60 (meetB A tb) S fun f g hf hg => c_meet m hc hf hg S
  simp [d_is_weak, startE, this, weakB]
theorem p_chain (m : Nat) (hc : Cat n A tb) {s : Nat} (hs : s < n) (S : Store) : call pr (m + 6) 65 [FR n A tb, .int s] S = .ok (.bl (chainB A tb s)) S := by
  rw [call_of (d := d_is_chained) rfl rfl]
  have := c_pairs (m + 4) hc hs 63 (fun f g => leadB A tb f g || leadB A tb g f) S fun f g hf hg => c_chain m hc hf hg S
  simp [d_is_chained, startE, this, chainB]
theorem c_reached (m : Nat) (hc : Cat n A tb) {s : Nat} (hs : s < n) (S : Store) : call pr (m + 2) 37 [FR n A tb, .int s] S = .ok (.lst ((outsN A s).map fun g => T.int ((ar A g).2 : Nat))) S := by
  rw [call_of (d := d_Frame_reached) rfl rfl]
  have e : compLoop (fun _ => true) (turn pr (call pr (m + 1)) (make pr (m + 1)) [.val (FR n A tb), .val (.int s), .no] (.meth 5 (.v 0) [(.v 2)]) (.n 2)) (outs A s) S = .ok ((outsN A s).map fun g => T.int ((ar A g).2 : Nat)) S :=
    compLoop_of rfl _ _ fun g hg => by
      have hg := (mem_outs.mp hg).1
      simp [turn, c_target m hg]
  simp [d_Frame_reached, startE, atI_lead hs]
  rw [e]
  simp
theorem p_shift (m : Nat) (hc : Cat n A tb) {s : Nat} (hs : s < n) (S : Store) : call pr (m + 5) 66 [FR n A tb, .int s] S = .ok (.bl (shiftB A tb s)) S := by
  rw [call_of (d := d_is_shifted) rfl rfl]
  have ein : ∀ f, f < A.length → compLoop (fun _ => true) (turn pr (call pr (m + 4)) (make pr (m + 4)) [.val (FR n A tb), .val (.int s), .val (.int ((ar A f).2 : Nat)), .no] (.meth 3 (.v 0) [(.v 3)]) (.n 3)) ((outsN A (ar A f).2).map fun g => T.int ((ar A g).2 : Nat)) S = .ok ((outsN A (ar A f).2).map fun g => T.bl (lastB A tb (ar A g).2)) S := fun f hf =>
    compLoop_of rfl _ _ fun g hg => by
      have hg := (mem_outs.mp hg).1
      have := c_islast m hc (hc.lt g hg).2 S
      simp [turn, this, lastB]
  have e : compLoop (fun _ => true) (turn pr (call pr (m + 4)) (make pr (m + 4)) [.val (FR n A tb), .val (.int s), .no, .no] (.bi .any [(.comp (.meth 3 (.v 0) [(.v 3)]) (.n 3) (.meth 9 (.v 0) [(.v 2)]))]) (.n 2)) ((outsN A s).map fun f => T.int ((ar A f).2 : Nat)) S = .ok ((outsN A s).map fun f => T.bl ((outsN A (ar A f).2).any fun g => lastB A tb (ar A g).2)) S :=
    compLoop_of rfl _ _ fun f hf => by
      have hf := (mem_outs.mp hf).1
      have ei := ein f hf
      simp [turn, c_reached (m + 2) hc (hc.lt f hf).2]
      rw [ei]
      simp only [bnd_ok, eV_nil, List.map_cons, List.map_nil, look_lst, bi_any_map, of_some, toT_ok]
  simp [d_is_shifted, startE, c_reached (m + 2) hc hs]
  rw [e]
  simp only [bnd_ok, eV_nil, List.map_cons, List.map_nil, look_lst, bi_all_map, of_some, toT_ok]
  simp [shiftB]
theorem loop_any {α : Type} {g : Store → Bool} {f : T → Env → Store → SRes} (t : α → T) (p : α → Bool) (I : Env → Prop) {S : Store} (hg : g S = true) : ∀ (xs : List α) (r : Env), I r → (∀ x ∈ xs, ∀ r, I r → ∃ r', I r' ∧ f (t x) r S = if p x = true then .ret (.bl true) S else .nx r' S) → ∃ r', I r' ∧ forLoop g f (xs.map t) r S = if xs.any p = true then .ret (.bl true) S else .nx r' S
  | [], r, h, _ => ⟨r, h, rfl⟩
  | x :: xs, r, h, hf => by
    obtain ⟨r1, h1, e1⟩ := hf x (List.mem_cons_self ..) r h
    cases q : p x with
    | true =>
      rw [q, if_pos rfl] at e1
      exact ⟨r1, h1, by rw [List.map_cons, forS_ret e1]; simp [q]⟩
    | false =>
      rw [q, if_neg Bool.false_ne_true] at e1
      obtain ⟨r2, h2, e2⟩ := loop_any t p I hg xs r1 h1 fun y hy => hf y (List.mem_cons_of_mem _ hy)
      exact ⟨r2, h2, by rw [List.map_cons, forS_nx e1 hg, e2]; simp [q]⟩
theorem c_back (m : Nat) (hc : Cat n A tb) {f : Nat} (hf : f < A.length) (S : Store) : call pr (m + 3) 67 [FR n A tb, .int f] S = .ok (.bl (backB A tb f)) S := by
  rw [call_of (d := d_comes_back) rfl rfl]
  obtain ⟨r', ⟨y2, rfl⟩, e⟩ := loop_any (g := fun _ => true) (f := goS pr (call pr (m + 2)) (make pr (m + 2)) (.n 2) d_comes_back_b1) (fun (k : Nat) => T.int (k : Int)) (fun b => decide ((ar A b).2 = (ar A f).1) && decide (en tb (en tb f b).toNat f = f)) (fun r => ∃ y2, r = [.val (FR n A tb), .val (.int f), y2]) (S := S) rfl (outsN A (ar A f).2) [.val (FR n A tb), .val (.int f), .no] ⟨_, rfl⟩ fun b hb r hr => by
    obtain ⟨y2, rfl⟩ := hr
    obtain ⟨hb, hq⟩ := mem_outs.mp hb
    refine ⟨[.val (FR n A tb), .val (.int f), .val (.int b)], ⟨_, rfl⟩, ?_⟩
    obtain ⟨k, k1, k2, _⟩ := hc.cm f b hf hb hq.symm
    have e1 := c_then (m + 1) hc hf hb S
    rw [k2] at e1
    have e2 := c_then (m + 1) hc k1 hf S
    rw [k2, Int.toNat_natCast]
    by_cases q : (ar A b).2 = (ar A f).1
    · have q' : ((ar A b).2 : Int) = (ar A f).1 := by omega
      by_cases w : en tb k f = f
      · simp [goS, d_comes_back_b1, c_target (m + 1) hb, c_source (m + 1) hf, e1, e2, q, w]
      · simp [goS, d_comes_back_b1, c_target (m + 1) hb, c_source (m + 1) hf, e1, e2, q, w]
    · have q' : ¬ ((ar A b).2 : Int) = (ar A f).1 := by omega
      simp [goS, d_comes_back_b1, c_target (m + 1) hb, c_source (m + 1) hf, q, q']
  have key : exs pr (call pr (m + 2)) (make pr (m + 2)) d_comes_back.body [.val (FR n A tb), .val (.int f), .no] S = .ret (.bl (backB A tb f)) S := by
    simp only [d_comes_back]
    have el : ex pr (call pr (m + 2)) (make pr (m + 2)) (.loop (.n 2) (.meth 0 (.v 0) [(.v 1)]) d_comes_back_b1) [.val (FR n A tb), .val (.int f), .no] S = if (backB A tb f) = true then .ret (.bl true) S else .nx [.val (FR n A tb), .val (.int f), y2] S := by
      rw [q_loop]
      simp [c_behind m hc hf]
      exact e
    cases q : backB A tb f with
    | true =>
      rw [q, if_pos rfl] at el
      exact exs_ret el
    | false =>
      rw [q, if_neg Bool.false_ne_true] at el
      rw [exs_nx el]
      exact exs_ret (by simp)
  exact congrArg SRes.fin key
theorem p_prem (m : Nat) (hc : Cat n A tb) {s : Nat} (hs : s < n) (S : Store) : call pr (m + 7) 68 [FR n A tb, .int s] S = .ok (.bl (premB A tb s)) S := by
  rw [call_of (d := d_has_premise) rfl rfl]
  have e : compLoop (fun _ => true) (turn pr (call pr (m + 6)) (make pr (m + 6)) [.val (FR n A tb), .val (.int s), .no] (.call 67 [(.v 0), (.v 2)]) (.n 2)) (outs A s) S = .ok ((outsN A s).map fun f => T.bl (backB A tb f)) S :=
    compLoop_of rfl _ _ fun f hf => by
      have hf := (mem_outs.mp hf).1
      simp [turn, c_back (m + 3) hc hf]
  have ec := p_chain m hc hs S
  have ea : ev pr (call pr (m + 6)) (make pr (m + 6)) [.val (FR n A tb), .val (.int s), .no] (.bi .all [(.comp (.call 67 [(.v 0), (.v 2)]) (.n 2) (.sub (.attr (.v 0) 3) (.v 1)))]) S = .ok (.bl ((outsN A s).all (backB A tb))) S := by
    simp [atI_lead hs]
    rw [e]
    simp only [bnd_ok, eV_nil, List.map_cons, List.map_nil, look_lst, bi_all_map, of_some]
  have key : exs pr (call pr (m + 6)) (make pr (m + 6)) d_has_premise.body [.val (FR n A tb), .val (.int s), .no] S = .ret (.bl (premB A tb s)) S := by
    simp only [d_has_premise]
    refine exs_ret ?_
    have e65 : ev pr (call pr (m + 6)) (make pr (m + 6)) [.val (FR n A tb), .val (.int s), .no] (.call 65 [(.v 0), (.v 1)]) S = .ok (.bl (chainB A tb s)) S := by simp [ec]
    rw [q_ret, e_and, e65, bnd_ok]
    cases q : chainB A tb s with
    | false => simp [q, premB]
    | true =>
      rw [fork_true, ea]
      simp [q, premB]
  exact congrArg SRes.fin key
theorem p_end (m : Nat) (hc : Cat n A tb) {s : Nat} (hs : s < n) (S : Store) : call pr (m + 5) 69 [FR n A tb, .int s] S = .ok (.bl (endB A tb s)) S := by
  rw [call_of (d := d_is_end) rfl rfl]
  simp [d_is_end, startE, c_isend m hc hs, endB]
theorem p_last (m : Nat) (hc : Cat n A tb) {s : Nat} (hs : s < n) (S : Store) : call pr (m + 5) 70 [FR n A tb, .int s] S = .ok (.bl (lastB A tb s)) S := by
  rw [call_of (d := d_is_last) rfl rfl]
  simp [d_is_last, startE, c_islast m hc hs, lastB]
end
end K09
end Hf
end

section
set_option Elab.async false
set_option linter.all false
set_option maxRecDepth 100000
set_option maxHeartbeats 400000
/-! K09x: the plain law of k09: the principles as the law tells them. -/
namespace Hf
namespace K09
open P09
section
variable {n : Nat} {A : List (Nat × Nat)} {tb : List (List Int)}
theorem c_lend (m : Nat) {f : Nat} (hf : f < A.length) (S : Store) : call pr (m + 1) 74 [catT n A tb, .int f] S = .ok (.int ((ar A f).2 : Nat)) S := by
  rw [call_of (d := d_l_end) rfl rfl]
  simp [d_l_end, startE, catT, atI_ar hf, prT]
theorem c_lreached (m : Nat) (hc : Cat n A tb) (i : Nat) (S : Store) : call pr (m + 2) 75 [catT n A tb, .int i] S = .ok (.lst ((outsN A i).map fun g => T.int ((ar A g).2 : Nat))) S := by
  rw [call_of (d := d_l_reached) rfl rfl]
  have e : compLoop (fun _ => true) (turn pr (call pr (m + 1)) (make pr (m + 1)) [.val (catT n A tb), .val (.int i), .no] (.call 74 [(.v 0), (.v 2)]) (.n 2)) (outs A i) S = .ok ((outsN A i).map fun g => T.int ((ar A g).2 : Nat)) S :=
    compLoop_of rfl _ _ fun g hg => by
      have hg := (mem_outs.mp hg).1
      simp [turn, c_lend m hg]
  simp [d_l_reached, startE, c_lout m hc]
  rw [e]
  simp
theorem tab_at (hc : Cat n A tb) {f g : Nat} (hf : f < A.length) (hg : g < A.length) {P : Prog} {cf mk : Nat → List T → Store → Res T} {r : Env} {a b : E} {S : Store} {y : T} (h0 : r[0]? = some (.val (catT n A tb))) (ha : ev P cf mk r a S = .ok (.int f) S) (hb : ev P cf mk r b S = .ok (.int g) S) : ev P cf mk r (.sub (.sub (.sub (.v 0) (.k (.int 2))) a) b) S = .ok (.int (en tb f g)) S := by
  have e1 := atI_tb hc hf
  have e2 := atI_row2 hc hf hg
  rw [e_sub, evL_sub, e_sub, evL_sub, e_sub, evL_v, h0]
  simp [catT, ha, hb, e1, e2, rowI]
theorem c_lleads (m : Nat) (hc : Cat n A tb) {f g : Nat} (hf : f < A.length) (S : Store) : call pr (m + 2) 83 [catT n A tb, .int f, .int g] S = .ok (.bl (leadB A tb f g)) S := by
  rw [call_of (d := d_l_leads) rfl rfl]
  have e : compLoop (fun _ => true) (turn pr (call pr (m + 1)) (make pr (m + 1)) [.val (catT n A tb), .val (.int f), .val (.int g), .no] (.sub (.sub (.sub (.v 0) (.k (.int 2))) (.v 1)) (.v 3)) (.n 3)) (outs A (ar A f).2) S = .ok ((outsN A (ar A f).2).map fun u => T.int (en tb f u)) S :=
    compLoop_of rfl _ _ fun u hu => by
      have hu := (mem_outs.mp hu).1
      have := tab_at hc hf hu (P := pr) (cf := call pr (m + 1)) (mk := make pr (m + 1)) (r := [.val (catT n A tb), .val (.int f), .val (.int g), .val (.int u)]) (a := .v 1) (b := .v 3) (S := S) (y := .non) rfl (by simp) (by simp)
      simp only [turn, bindT_n, wipeE, List.set_cons_succ, List.set_cons_zero, Tg.slots]
      rw [this]; rfl
  have hin : T.isin (.int (g : Int)) (.lst ((outsN A (ar A f).2).map fun u => T.int (en tb f u))) = some (leadB A tb f g) := in_ints _ _ _
  simp [d_l_leads, startE, c_lout m hc, c_lend m hf]
  rw [e]
  simp [Cmp.ev, hin]
theorem c_lmeet (m : Nat) (hc : Cat n A tb) {f g : Nat} (hf : f < A.length) (hg : g < A.length) (S : Store) : call pr (m + 2) 82 [catT n A tb, .int f, .int g] S = .ok (.bl (meetB A tb f g)) S := by
  rw [call_of (d := d_l_meet) rfl rfl]
  have e : compLoop (fun _ => true) (turn pr (call pr (m + 1)) (make pr (m + 1)) [.val (catT n A tb), .val (.int f), .val (.int g), .no, .no, .no] (.sub (.sub (.sub (.v 0) (.k (.int 2))) (.v 1)) (.v 4)) (.n 4)) (outs A (ar A f).2) S = .ok ((outsN A (ar A f).2).map fun u => T.int (en tb f u)) S :=
    compLoop_of rfl _ _ fun u hu => by
      have hu := (mem_outs.mp hu).1
      have := tab_at hc hf hu (P := pr) (cf := call pr (m + 1)) (mk := make pr (m + 1)) (r := [.val (catT n A tb), .val (.int f), .val (.int g), .no, .val (.int u), .no]) (a := .v 1) (b := .v 4) (S := S) (y := .non) rfl (by simp) (by simp)
      simp only [turn, bindT_n, wipeE, List.set_cons_succ, List.set_cons_zero, Tg.slots]
      rw [this]; rfl
  have key : exs pr (call pr (m + 1)) (make pr (m + 1)) d_l_meet.body [.val (catT n A tb), .val (.int f), .val (.int g), .no, .no, .no] S = .ret (.bl (meetB A tb f g)) S := by
    simp only [d_l_meet]
    obtain ⟨L, hL⟩ : ∃ L, L = (outsN A (ar A f).2).map fun u => T.int (en tb f u) := ⟨_, rfl⟩
    rw [← hL] at e
    rw [exs_nx (r' := [.val (catT n A tb), .val (.int f), .val (.int g), .val (.lst L), .no, .no]) (S' := S) (by
      simp [c_lout m hc, c_lend m hf]
      rw [e]
      simp)]
    have hin : ∀ v, T.isin (.int (en tb g v)) (.lst L) = some ((outsN A (ar A f).2).any fun u => decide (en tb f u = en tb g v)) := fun v => by rw [hL]; exact in_ints _ _ _
    have e2 : compLoop (fun _ => true) (turn pr (call pr (m + 1)) (make pr (m + 1)) [.val (catT n A tb), .val (.int f), .val (.int g), .val (.lst L), .no, .no] (.cmp .isin (.sub (.sub (.sub (.v 0) (.k (.int 2))) (.v 2)) (.v 5)) (.v 3)) (.n 5)) (outs A (ar A g).2) S = .ok ((outsN A (ar A g).2).map fun v => T.bl ((outsN A (ar A f).2).any fun u => decide (en tb f u = en tb g v))) S :=
      compLoop_of rfl _ _ fun v hv => by
        have hv := (mem_outs.mp hv).1
        have := tab_at hc hg hv (P := pr) (cf := call pr (m + 1)) (mk := make pr (m + 1)) (r := [.val (catT n A tb), .val (.int f), .val (.int g), .val (.lst L), .no, .val (.int v)]) (a := .v 2) (b := .v 5) (S := S) (y := .non) rfl (by simp) (by simp)
        simp only [turn, bindT_n, wipeE, List.set_cons_succ, List.set_cons_zero, Tg.slots]
        rw [e_cmp, evL_sub, this]
        simp [Cmp.ev, hin]
    refine exs_ret ?_
    simp [c_lout m hc, c_lend m hg]
    rw [e2]
    simp only [bnd_ok, eV_nil, List.map_cons, List.map_nil, look_lst, bi_any_map, of_some, toT_ok]
    simp [meetB]
  exact congrArg SRes.fin key
theorem c_lback (m : Nat) (hc : Cat n A tb) {f : Nat} (hf : f < A.length) (S : Store) : call pr (m + 2) 84 [catT n A tb, .int f] S = .ok (.bl (backB A tb f)) S := by
  rw [call_of (d := d_l_comes_back) rfl rfl]
  obtain ⟨r', ⟨y2, rfl⟩, e⟩ := loop_any (g := fun _ => true) (f := goS pr (call pr (m + 1)) (make pr (m + 1)) (.n 2) d_l_comes_back_b1) (fun (k : Nat) => T.int (k : Int)) (fun b => decide ((ar A b).2 = (ar A f).1) && decide (en tb (en tb f b).toNat f = f)) (fun r => ∃ y2, r = [.val (catT n A tb), .val (.int f), y2]) (S := S) rfl (outsN A (ar A f).2) [.val (catT n A tb), .val (.int f), .no] ⟨_, rfl⟩ fun b hb r hr => by
    obtain ⟨y2, rfl⟩ := hr
    obtain ⟨hb, hq⟩ := mem_outs.mp hb
    refine ⟨[.val (catT n A tb), .val (.int f), .val (.int b)], ⟨_, rfl⟩, ?_⟩
    obtain ⟨k, k1, k2, _⟩ := hc.cm f b hf hb hq.symm
    have t1 := tab_at hc hf hb (P := pr) (cf := call pr (m + 1)) (mk := make pr (m + 1)) (r := [.val (catT n A tb), .val (.int f), .val (.int b)]) (a := .v 1) (b := .v 2) (S := S) (y := .non) rfl (by simp) (by simp)
    rw [k2] at t1
    have t2 := tab_at hc k1 hf (P := pr) (cf := call pr (m + 1)) (mk := make pr (m + 1)) (r := [.val (catT n A tb), .val (.int f), .val (.int b)]) (b := .v 1) (S := S) (y := .non) rfl t1 (by simp)
    rw [k2, Int.toNat_natCast]
    have e1 : ev pr (call pr (m + 1)) (make pr (m + 1)) [.val (catT n A tb), .val (.int f), .val (.int b)] (.cmp .eq (.call 74 [(.v 0), (.v 2)]) (.sub (.sub (.sub (.v 0) (.k (.int 1))) (.v 1)) (.k (.int 0)))) S = .ok (.bl (decide (((ar A b).2 : Int) = (ar A f).1))) S := by
      have := c_lend (n := n) (tb := tb) m hb S
      simp [this]
      simp [catT, atI_ar hf, prT]
    have e2 : ev pr (call pr (m + 1)) (make pr (m + 1)) [.val (catT n A tb), .val (.int f), .val (.int b)] (.cmp .eq (.sub (.sub (.sub (.v 0) (.k (.int 2))) (.sub (.sub (.sub (.v 0) (.k (.int 2))) (.v 1)) (.v 2))) (.v 1)) (.v 1)) S = .ok (.bl (decide (en tb k f = f))) S := by
      rw [e_cmp, evL_sub, t2]
      simp
    simp only [goS, d_l_comes_back_b1, bindT_n, List.set_cons_succ, List.set_cons_zero]
    rw [q_one, qq_ife, e_and, e1, bnd_ok]
    by_cases q : (ar A b).2 = (ar A f).1
    · have q' : ((ar A b).2 : Int) = (ar A f).1 := by omega
      rw [decide_eq_true q', fork_true, e2, bnd_ok, onB_bl, toT_ok]
      by_cases w : en tb k f = f
      · simp [q, w]
      · simp [q, w]
    · have q' : ¬ ((ar A b).2 : Int) = (ar A f).1 := by omega
      rw [decide_eq_false q', fork_false, toT_ok]
      simp [q]
  have key : exs pr (call pr (m + 1)) (make pr (m + 1)) d_l_comes_back.body [.val (catT n A tb), .val (.int f), .no] S = .ret (.bl (backB A tb f)) S := by
    simp only [d_l_comes_back]
    have el : ex pr (call pr (m + 1)) (make pr (m + 1)) (.loop (.n 2) (.call 15 [(.v 0), (.call 74 [(.v 0), (.v 1)])]) d_l_comes_back_b1) [.val (catT n A tb), .val (.int f), .no] S = if (backB A tb f) = true then .ret (.bl true) S else .nx [.val (catT n A tb), .val (.int f), y2] S := by
      rw [q_loop]
      simp [c_lout m hc, c_lend m hf]
      exact e
    cases q : backB A tb f with
    | true =>
      rw [q, if_pos rfl] at el
      exact exs_ret el
    | false =>
      rw [q, if_neg Bool.false_ne_true] at el
      rw [exs_nx el]
      exact exs_ret (by simp)
  exact congrArg SRes.fin key
end
end K09
end Hf
end

section
set_option Elab.async false
set_option linter.all false
set_option maxRecDepth 100000
set_option maxHeartbeats 400000
/-! K09y: the plain law of k09: the table's conditions, word by word. -/
namespace Hf
theorem all_comp {α : Type} {P : Prog} {cf mk : Nat → List T → Store → Res T} {r : Env} {elt it : E} {tg : Tg} {S : Store} {xs : List α} (t : α → T) (p : α → Bool) (hit : (evL P cf mk r it S).bnd itemsOf = .ok (.lst (xs.map t), xs.map t) S)
    (h : ∀ x ∈ xs, turn P cf mk r elt tg (t x) S = .ok (some (.bl (p x))) S) : ev P cf mk r (.bi .all [.comp elt tg it]) S = .ok (.bl (xs.all p)) S := by
  have e : compLoop (fun _ => true) (turn P cf mk r elt tg) (xs.map t) S = .ok (xs.map fun x => T.bl (p x)) S := compLoop_of rfl _ _ h
  rw [e_bi, eV_cons, evL_comp, e_comp, hit, bnd_ok]
  dsimp only
  rw [show still (T.lst (xs.map t)) (xs.map t) = fun _ => true from rfl, e]
  simp only [bnd_ok, eV_nil, List.map_cons, List.map_nil, look_lst, bi_all_map, of_some]
namespace K09
open P09
def wMid : T := .str [109, 105, 100, 100, 108, 101]
def wWeak : T := .str [119, 101, 97, 107]
def wChain : T := .str [99, 104, 97, 105, 110, 101, 100]
def wShift : T := .str [115, 104, 105, 102, 116]
def wConst : T := .str [99, 111, 110, 115, 116, 97, 110, 116]
def wPrem : T := .str [112, 114, 101, 109, 105, 115, 101]
def wChoice : T := .str [99, 104, 111, 105, 99, 101]
def prs (A : List (Nat × Nat)) (i : Nat) (l : List Nat) : List (Nat × Nat) := l.flatMap fun f => (outsN A i).map fun g => (f, g)
section
variable {n : Nat} {A : List (Nat × Nat)} {tb : List (List Int)}
theorem prs_len (i : Nat) (l : List Nat) : (prs A i l).length = l.length * (outsN A i).length := by
  unfold prs
  induction l with
  | nil => simp
  | cons x l ih => rw [List.flatMap_cons, List.length_append, ih, List.length_map, List.length_cons, Nat.succ_mul]; omega
def atE (n : Nat) (A : List (Nat × Nat)) (tb : List (List Int)) (w : T) (i : Nat) (y5 : Slot) : Env := [.val (catT n A tb), .val w, .val (.int i), .val (.lst (outs A i)), .val (.lst ((prs A i (outsN A i)).map prT)), y5, .no, .no, .no, .no, .no]
theorem at_pre (m : Nat) (hc : Cat n A tb) (i : Nat) (w : T) (l : List Hf.S) (S : Store) : ∃ y5, exs pr (call pr (m + 4)) (make pr (m + 4)) (.asg (.n 3) (.call 15 [(.v 0), (.v 2)]) :: .asg (.n 4) (.disp []) :: .loop (.n 5) (.v 3) d_l_at_b1 :: l) [.val (catT n A tb), .val w, .val (.int i), .no, .no, .no, .no, .no, .no, .no, .no] S = exs pr (call pr (m + 4)) (make pr (m + 4)) l (atE n A tb w i y5) S := by
  rw [exs_nx (r' := [.val (catT n A tb), .val w, .val (.int i), .val (.lst (outs A i)), .no, .no, .no, .no, .no, .no, .no]) (S' := S) (by simp [c_lout (m + 3) hc])]
  rw [exs_nx (r' := [.val (catT n A tb), .val w, .val (.int i), .val (.lst (outs A i)), .val (.lst []), .no, .no, .no, .no, .no, .no]) (S' := S) (by simp)]
  obtain ⟨r', S', e, ⟨y5, rfl⟩, hS⟩ := forS_inv (g := fun _ => true) (f := goS pr (call pr (m + 4)) (make pr (m + 4)) (.n 5) d_l_at_b1) (fun (k : Nat) => T.int (k : Int)) (fun k r S' => (∃ y5, r = [.val (catT n A tb), .val w, .val (.int i), .val (.lst (outs A i)), .val (.lst ((prs A i ((outsN A i).take k)).map prT)), y5, .no, .no, .no, .no, .no]) ∧ S' = S) (fun _ => rfl) (outsN A i) 0 [.val (catT n A tb), .val w, .val (.int i), .val (.lst (outs A i)), .val (.lst []), .no, .no, .no, .no, .no, .no] S (fun j f hf r S' hI => by
    obtain ⟨⟨y5, rfl⟩, hS⟩ := hI
    rw [hS, Nat.zero_add]
    have hl := outs_len hc i
    have hj := (List.getElem?_eq_some_iff.mp hf).1
    have et : (outsN A i).take (j + 1) = (outsN A i).take j ++ [f] := by
      rw [List.take_succ, hf]; rfl
    have ep : prs A i ((outsN A i).take (j + 1)) = prs A i ((outsN A i).take j) ++ (outsN A i).map fun g => (f, g) := by
      rw [et]; simp [prs]
    obtain ⟨L, hL⟩ : ∃ L, L = (prs A i ((outsN A i).take j)).map prT := ⟨_, rfl⟩
    have hLl : L.length ≤ 24 * 24 := by
      rw [hL, List.length_map, prs_len]
      exact Nat.mul_le_mul (by rw [List.length_take]; omega) hl
    have ec : compLoop (fun _ => true) (turn pr (call pr (m + 4)) (make pr (m + 4)) [.val (catT n A tb), .val w, .val (.int i), .val (.lst (outs A i)), .val (.lst L), .val (.int f), .no, .no, .no, .no, .no] (.tup [(.v 5), (.v 9)]) (.n 9)) (outs A i) S = .ok ((outsN A i).map fun g => prT (f, g)) S :=
      compLoop_of rfl _ _ fun g _ => by simp [turn, prT]
    refine ⟨[.val (catT n A tb), .val w, .val (.int i), .val (.lst (outs A i)), .val (.lst ((prs A i ((outsN A i).take (j + 1))).map prT)), .val (.int f), .no, .no, .no, .no, .no], S, ?_, ⟨_, rfl⟩, rfl⟩
    have hz : L.length + (outsN A i).length ≤ sizeLim := by unfold sizeLim; omega
    rw [ep, List.map_append, ← hL]
    simp [goS, d_l_at_b1]
    rw [ec]
    simp [hz, Function.comp_def]) ⟨⟨_, rfl⟩, rfl⟩
  rw [hS, Nat.zero_add, List.take_length] at e
  refine ⟨y5, exs_nx ?_⟩
  rw [q_loop]
  simp
  exact e
def E1 : E := .cmp .isin (.v 1) (.tup [(.k (.str [109, 105, 100, 100, 108, 101])), (.k (.str [99, 111, 110, 115, 116, 97, 110, 116]))])
def E2 : E := .cmp .eq (.v 1) (.k (.str [99, 104, 111, 105, 99, 101]))
def E3 : E := .cmp .eq (.v 1) (.k (.str [119, 101, 97, 107]))
def E4 : E := .cmp .eq (.v 1) (.k (.str [115, 104, 105, 102, 116]))
def E5 : E := .cmp .eq (.v 1) (.k (.str [99, 104, 97, 105, 110, 101, 100]))
theorem ev_E1 {cf mk : Nat → List T → Store → Res T} {r : Env} {S : Store} {z : List Nat} (h : r[1]? = some (.val (.str z))) : ev pr cf mk r E1 S = .ok (.bl (decide (z = [109, 105, 100, 100, 108, 101]) || decide (z = [99, 111, 110, 115, 116, 97, 110, 116]))) S := by
  have q : ∀ a : List Nat, T.eqv (.str a) (.str z) = decide (z = a) := fun a => by
    show (a == z) = _
    rw [Bool.beq_eq_decide_eq]
    exact decide_eq_decide.mpr eq_comm
  have e : T.isin (.str z) (.tup [.str [109, 105, 100, 100, 108, 101], .str [99, 111, 110, 115, 116, 97, 110, 116]]) = some (decide (z = [109, 105, 100, 100, 108, 101]) || decide (z = [99, 111, 110, 115, 116, 97, 110, 116])) := by
    show inItems _ _ = _
    unfold inItems
    rw [if_pos (by rfl)]
    simp only [List.any_cons, List.any_nil, q, Bool.or_false]
  unfold E1
  rw [e_cmp, evL_v, h, lookV_val, bnd_ok, evL_tup, e_tup, e_cons, e_k, bnd_ok, e_cons, e_k, bnd_ok, e_nil, bnd_ok, bnd_ok, bnd_ok, bnd_ok]
  show Res.of ((T.isin (.str z) (.tup [.str [109, 105, 100, 100, 108, 101], .str [99, 111, 110, 115, 116, 97, 110, 116]])).map T.bl) S = _
  rw [e]; rfl
theorem ev_eqw {cf mk : Nat → List T → Store → Res T} {r : Env} {S : Store} {z y : List Nat} (h : r[1]? = some (.val (.str z))) : ev pr cf mk r (.cmp .eq (.v 1) (.k (.str y))) S = .ok (.bl (decide (z = y))) S := by
  rw [e_cmp, evL_v, h]
  have e : T.eqs (.str z) (.str y) = some (decide (z = y)) := by
    rw [eqs_of rfl rfl (.inl (by simp))]
    simp [T.eqv, Bool.beq_eq_decide_eq]
  simp [Cmp.ev, e]
theorem at_of (m : Nat) (hc : Cat n A tb) (i : Nat) (z : List Nat) (b : Bool) (S : Store) (h : ∀ y5, exs pr (call pr (m + 4)) (make pr (m + 4)) (d_l_at.body.drop 3) (atE n A tb (.str z) i y5) S = .ret (.bl b) S) : call pr (m + 5) 85 [catT n A tb, .str z, .int i] S = .ok (.bl b) S := by
  rw [call_of (d := d_l_at) rfl rfl]
  obtain ⟨y5, e⟩ := at_pre m hc i (.str z) (d_l_at.body.drop 3) S
  exact congrArg SRes.fin (e.trans (h y5))
theorem it_outs {cf mk : Nat → List T → Store → Res T} {r : Env} {S : Store} {j : Nat} {xs : List T} (h : r[j]? = some (.val (.lst xs))) : (evL pr cf mk r (.v j) S).bnd itemsOf = .ok (.lst xs, xs) S := by
  rw [evL_v, h]; rfl
theorem if_no {cf mk : Nat → List T → Store → Res T} {r : Env} {S : Store} {c : E} {l rest : List Hf.S} (h : ev pr cf mk r c S = .ok (.bl false) S) : exs pr cf mk (.ife c l [] :: rest) r S = exs pr cf mk rest r S := by
  refine exs_nx ?_
  rw [qq_ife, h, toT_ok, forkS_false, q_nil]
theorem if_yes {cf mk : Nat → List T → Store → Res T} {r : Env} {S S' : Store} {c e : E} {t : T} {rest : List Hf.S} (h : ev pr cf mk r c S = .ok (.bl true) S) (h2 : ev pr cf mk r e S = .ok t S') : exs pr cf mk (.ife c [.ret e] [] :: rest) r S = .ret t S' := by
  refine exs_ret ?_
  rw [qq_ife, h, toT_ok, forkS_true, q_one, q_ret, h2]; rfl
theorem at_end (m : Nat) (hc : Cat n A tb) (i : Nat) (z : List Nat) (hz : z = [109, 105, 100, 100, 108, 101] ∨ z = [99, 111, 110, 115, 116, 97, 110, 116]) (S : Store) : call pr (m + 5) 85 [catT n A tb, .str z, .int i] S = .ok (.bl (endB A tb i)) S := by
  refine at_of m hc i z _ S fun y5 => ?_
  refine if_yes (e := .bi .all [(.comp (.call 16 [(.v 0), (.v 5)]) (.n 5) (.v 3))]) ((ev_E1 (z := z) rfl).trans ?_) ?_
  · rcases hz with rfl | rfl <;> rfl
  · refine all_comp (fun (k : Nat) => T.int (k : Int)) (und A tb) (it_outs rfl) fun f hf => ?_
    have hf := (mem_outs.mp hf).1
    simp [turn, atE, c_lund (m + 2) hc hf]
theorem at_choice (m : Nat) (hc : Cat n A tb) (i : Nat) (S : Store) : call pr (m + 5) 85 [catT n A tb, wChoice, .int i] S = .ok (.bl (lastB A tb i)) S := by
  refine at_of m hc i _ _ S fun y5 => ?_
  refine (if_no ((ev_E1 (z := _) rfl).trans rfl)).trans ?_
  refine if_yes (e := .bi .all [(.comp (.call 17 [(.v 0), (.v 5)]) (.n 5) (.v 3))]) ((ev_eqw (z := _) rfl).trans rfl) ?_
  refine all_comp (fun (k : Nat) => T.int (k : Int)) (invs A tb) (it_outs rfl) fun f hf => ?_
  have hf := (mem_outs.mp hf).1
  simp [turn, atE, c_linv (m + 2) hc hf]
theorem mem_prs {i : Nat} {p : Nat × Nat} (h : p ∈ prs A i (outsN A i)) : p.1 < A.length ∧ p.2 < A.length := by
  unfold prs at h
  obtain ⟨f, hf, h⟩ := List.mem_flatMap.mp h
  obtain ⟨g, hg, rfl⟩ := List.mem_map.mp h
  exact ⟨(mem_outs.mp hf).1, (mem_outs.mp hg).1⟩
theorem all_prs {i : Nat} (h : Nat → Nat → Bool) : ((prs A i (outsN A i)).all fun p => h p.1 p.2) = (outsN A i).all fun f => (outsN A i).all fun g => h f g := by
  simp [prs, List.all_flatMap, Function.comp_def]
theorem at_weak (m : Nat) (hc : Cat n A tb) (i : Nat) (S : Store) : call pr (m + 5) 85 [catT n A tb, wWeak, .int i] S = .ok (.bl (weakB A tb i)) S := by
  refine at_of m hc i _ _ S fun y5 => ?_
  refine (if_no ((ev_E1 (z := _) rfl).trans rfl)).trans ?_
  refine (if_no ((ev_eqw (z := _) rfl).trans rfl)).trans ?_
  refine if_yes (e := .bi .all [(.comp (.call 82 [(.v 0), (.sub (.v 8) (.k (.int 0))), (.sub (.v 8) (.k (.int 1)))]) (.n 8) (.v 4))]) ((ev_eqw (z := _) rfl).trans rfl) ?_
  rw [weakB, ← all_prs (meetB A tb)]
  refine all_comp prT (fun p => meetB A tb p.1 p.2) (it_outs rfl) fun p hp => ?_
  obtain ⟨h1, h2⟩ := mem_prs hp
  simp [turn, atE, prT, c_lmeet (m + 2) hc h1 h2]
theorem at_shift (m : Nat) (hc : Cat n A tb) {i : Nat} (S : Store) : call pr (m + 5) 85 [catT n A tb, wShift, .int i] S = .ok (.bl (shiftB A tb i)) S := by
  refine at_of m hc i _ _ S fun y5 => ?_
  refine (if_no ((ev_E1 (z := _) rfl).trans rfl)).trans ?_
  refine (if_no ((ev_eqw (z := _) rfl).trans rfl)).trans ?_
  refine (if_no ((ev_eqw (z := _) rfl).trans rfl)).trans ?_
  refine exs_ret ?_
  rw [qq_ife, ev_eqw (z := _) rfl, toT_ok]
  show forkS (.bl true) _ _ = _
  rw [forkS_true]
  obtain ⟨L, hL⟩ : ∃ L, L = endsL n A (invs A tb) := ⟨_, rfl⟩
  have el := c_llasts (m + 1) hc S
  rw [← hL] at el
  rw [exs_nx (r' := [.val (catT n A tb), .val wShift, .val (.int i), .val (.lst (outs A i)), .val (.lst ((prs A i (outsN A i)).map prT)), y5, .no, .val (.lst L), .no, .no, .no]) (S' := S) (by simp [atE, el]; rfl)]
  have ein : ∀ j, j < n → T.isin (.int (j : Int)) (.lst L) = some (lastB A tb j) := fun j hj => by rw [hL]; exact in_fl hj
  refine exs_ret ?_
  have ea : ev pr (call pr (m + 4)) (make pr (m + 4)) [.val (catT n A tb), .val wShift, .val (.int i), .val (.lst (outs A i)), .val (.lst ((prs A i (outsN A i)).map prT)), y5, .no, .val (.lst L), .no, .no, .no] (.bi .all [(.comp (.cmp .gt (.bi .len [(.compI (.v 10) (.n 10) (.call 75 [(.v 0), (.call 74 [(.v 0), (.v 5)])]) (.cmp .isin (.v 10) (.v 7)))]) (.k (.int 0))) (.n 5) (.v 3))]) S = .ok (.bl (shiftB A tb i)) S := by
    refine all_comp (fun (k : Nat) => T.int (k : Int)) (fun f => (outsN A (ar A f).2).any fun g => lastB A tb (ar A g).2) (it_outs rfl) fun f hf => ?_
    have hf := (mem_outs.mp hf).1
    have ec : compLoop (fun _ => true) (turnI pr (call pr (m + 4)) (make pr (m + 4)) [.val (catT n A tb), .val wShift, .val (.int i), .val (.lst (outs A i)), .val (.lst ((prs A i (outsN A i)).map prT)), .val (.int f), .no, .val (.lst L), .no, .no, .no] (.v 10) (.n 10) (.cmp .isin (.v 10) (.v 7))) ((outsN A (ar A f).2).map fun g => T.int ((ar A g).2 : Nat)) S = .ok (((outsN A (ar A f).2).filter fun g => lastB A tb (ar A g).2).map fun g => T.int ((ar A g).2 : Nat)) S :=
      compLoop_ofI rfl _ _ _ fun g hg => by
        have hg := (mem_outs.mp hg).1
        have := ein _ (hc.lt g hg).2
        cases q : lastB A tb (ar A g).2 <;> simp [turnI, Cmp.ev, this, q]
    have e1 := c_lend (n := n) (tb := tb) (m + 3) hf S
    have e2 := c_lreached (m + 2) hc (ar A f).2 S
    simp [turn, e1, e2]
    rw [ec]
    have pa := pos_any (p := fun g => lastB A tb (ar A g).2) (outsN A (ar A f).2)
    simp only [bnd_ok, eV_nil, eV_cons, List.map_cons, List.map_nil, look_lst, of_some, len_lst, List.length_map, o_gt, Option.map_some, evL_k, toT_ok, look_int, pa]
  rw [q_ret, ea]; rfl
theorem at_chain (m : Nat) (hc : Cat n A tb) (i : Nat) (z : List Nat) (hz : z = [99, 104, 97, 105, 110, 101, 100] ∨ z = [112, 114, 101, 109, 105, 115, 101]) (S : Store) : call pr (m + 5) 85 [catT n A tb, .str z, .int i] S = .ok (.bl (if z = [99, 104, 97, 105, 110, 101, 100] then chainB A tb i else premB A tb i)) S := by
  refine at_of m hc i _ _ S fun y5 => ?_
  refine (if_no ((ev_E1 (z := z) rfl).trans ?_)).trans ?_
  · rcases hz with rfl | rfl <;> rfl
  refine (if_no ((ev_eqw (z := z) rfl).trans ?_)).trans ?_
  · rcases hz with rfl | rfl <;> rfl
  refine (if_no ((ev_eqw (z := z) rfl).trans ?_)).trans ?_
  · rcases hz with rfl | rfl <;> rfl
  refine (if_no ((ev_eqw (z := z) rfl).trans ?_)).trans ?_
  · rcases hz with rfl | rfl <;> rfl
  have e6 : ev pr (call pr (m + 4)) (make pr (m + 4)) (atE n A tb (.str z) i y5) (.bi .all [(.comp (.or (.call 83 [(.v 0), (.sub (.v 8) (.k (.int 0))), (.sub (.v 8) (.k (.int 1)))]) (.call 83 [(.v 0), (.sub (.v 8) (.k (.int 1))), (.sub (.v 8) (.k (.int 0)))])) (.n 8) (.v 4))]) S = .ok (.bl (chainB A tb i)) S := by
    rw [chainB, ← all_prs (fun f g => leadB A tb f g || leadB A tb g f)]
    refine all_comp prT (fun p => leadB A tb p.1 p.2 || leadB A tb p.2 p.1) (it_outs rfl) fun p hp => ?_
    obtain ⟨h1, h2⟩ := mem_prs hp
    have e1 := c_lleads (m + 2) hc (g := p.2) h1 S
    have e2 := c_lleads (m + 2) hc (g := p.1) h2 S
    cases q : leadB A tb p.1 p.2 <;> cases q2 : leadB A tb p.2 p.1 <;> simp [turn, atE, prT, e1, e2, q, q2]
  obtain ⟨r6, h6⟩ : ∃ r6, r6 = (atE n A tb (.str z) i y5).set 6 (.val (.bl (chainB A tb i))) := ⟨_, rfl⟩
  rw [exs_nx (r' := r6) (S' := S) (by rw [q_asg, e6, h6]; rfl)]
  have e84 : ev pr (call pr (m + 4)) (make pr (m + 4)) r6 (.bi .all [(.comp (.call 84 [(.v 0), (.v 5)]) (.n 5) (.v 3))]) S = .ok (.bl ((outsN A i).all (backB A tb))) S := by
    rw [h6]
    refine all_comp (fun (k : Nat) => T.int (k : Int)) (backB A tb) (it_outs rfl) fun f hf => ?_
    have hf := (mem_outs.mp hf).1
    simp [turn, atE, c_lback (m + 2) hc hf]
  have e5 : ev pr (call pr (m + 4)) (make pr (m + 4)) r6 (.cmp .eq (.v 1) (.k (.str [99, 104, 97, 105, 110, 101, 100]))) S = .ok (.bl (decide (z = [99, 104, 97, 105, 110, 101, 100]))) S := ev_eqw (by rw [h6]; rfl)
  have e6' : ev pr (call pr (m + 4)) (make pr (m + 4)) r6 (.v 6) S = .ok (.bl (chainB A tb i)) S := by rw [h6]; simp [atE]
  refine exs_ret ?_
  rw [q_ret, e_and, e6', bnd_ok]
  cases q : chainB A tb i with
  | false =>
    rw [fork_false]
    rcases hz with rfl | rfl
    · rfl
    · simp [premB, q]
  | true =>
    rw [fork_true, e_or, e5, bnd_ok]
    rcases hz with rfl | rfl
    · rfl
    · show (((fork (.bl false) _ _).bnd _).toT _ _) = _
      rw [fork_false, e84]
      simp [premB, q]
end
end K09
end Hf
end

section
set_option Elab.async false
set_option linter.all false
set_option maxRecDepth 100000
set_option maxHeartbeats 400000
/-! K09za: the plain law of k09: stages_of, chooses, refusals. -/
namespace Hf
namespace K09
open P09
section
variable {n : Nat} {A : List (Nat × Nat)} {tb : List (List Int)}
/-! ### the category's text -/
theorem row_small (hc : Cat n A tb) {r : List Int} (hr : r ∈ tb) : r.length = A.length ∧ ∀ x ∈ r, -1 ≤ x ∧ x < 24 := by
  obtain ⟨f, hf, e⟩ := List.mem_iff_getElem.mp hr
  have hfA : f < A.length := by rw [← hc.tl]; exact hf
  have er : rwt tb f = r := by simp [rwt, hf, e]
  have hl := hc.rl f hfA
  rw [er] at hl
  refine ⟨hl, fun x hx => ?_⟩
  obtain ⟨g, hg, e2⟩ := List.mem_iff_getElem.mp hx
  have hgA : g < A.length := by rw [← hl]; exact hg
  have ex : en tb f g = x := by unfold en; rw [er]; simp [hg, e2]
  have h24 := hc.A24
  by_cases q : (ar A f).2 = (ar A g).1
  · obtain ⟨k, k1, k2, _⟩ := hc.cm f g hfA hgA q
    omega
  · have := hc.no f g hfA hgA q
    omega
theorem arr_small (hc : Cat n A tb) {p : Nat × Nat} (hp : p ∈ A) : p.1 < 6 ∧ p.2 < 6 := by
  obtain ⟨f, hf, e⟩ := List.mem_iff_getElem.mp hp
  have ea : ar A f = p := by simp [ar, hf, e]
  have := hc.lt f hf
  have := hc.n6
  rw [ea] at *
  omega
theorem repr_cat (hc : Cat n A tb) : ∃ w, Bi.ev .repr [catT n A tb] = some (.str w) := by
  have h24 := hc.A24
  have h6 := hc.n6
  have f1 : fines (A.map prT) = true := fines_of fun x hx => by
    obtain ⟨p, hp, rfl⟩ := List.mem_map.mp hx
    have := arr_small hc hp
    simp [prT]
    omega
  have f2 : fines (tb.map rowI) = true := fines_of fun x hx => by
    obtain ⟨r, hr, rfl⟩ := List.mem_map.mp hx
    obtain ⟨_, h⟩ := row_small hc hr
    unfold rowI
    rw [fine_tup]
    refine fines_of fun y hy => ?_
    obtain ⟨i, hi, rfl⟩ := List.mem_map.mp hy
    have := h i hi
    simp
    omega
  have r1 : ∀ x ∈ tb.map rowI, x.depth ≤ 1 ∧ blk x ≤ 24 := fun x hx => by
    obtain ⟨r, hr, rfl⟩ := List.mem_map.mp hx
    obtain ⟨hl, _⟩ := row_small hc hr
    have a : ∀ y ∈ r.map T.int, y.depth ≤ 0 ∧ blk y ≤ 0 := fun y hy => by
      obtain ⟨i, _, rfl⟩ := List.mem_map.mp hy
      simp
    have b := blks_le (c := 0) fun y hy => (a y hy).2
    have dd := depthAll_le fun y hy => (a y hy).1
    simp only [rowI, depth_tup, blk_tup]
    simp only [List.length_map] at b
    omega
  refine ⟨_, repr_fine (t := catT n A tb) rfl ?_ ?_ ?_⟩
  · simp [catT, f1, f2]
    omega
  · have d1 := depth_prTs A
    have d2 := depthAll_le fun x hx => (r1 x hx).1
    simp only [catT, depth_tup, depth_cons, depth_int, depth_nil]
    omega
  · have b1 := blks_le (c := 2) (xs := A.map prT) fun x hx => by
      obtain ⟨p, _, rfl⟩ := List.mem_map.mp hx
      simp [prT]
    have b2 := blks_le (c := 24) fun x hx => (r1 x hx).2
    rw [List.length_map] at b1
    rw [List.length_map, hc.tl] at b2
    simp only [catT, blk_tup, blks_cons, blk_int, blks_nil]
    have : A.length * 25 ≤ 24 * 25 := Nat.mul_le_mul_right _ h24
    omega
/-! ### stages_of -/
theorem c_stages (hc : Cat n A tb) (w : List Nat) (F : Nat) (h : Nat → Bool) (hw : T.subI c_WORDS (.str w) = some (.fn F)) (hi : T.isin (.str w) c_WORDS = some true)
    (hF : ∀ s, s < n → ∀ S, call pr 18 F [FR n A tb, .int s] S = .ok (.bl (h s)) S) (S : Store) : call pr 19 71 [catT n A tb, .str w] S = .ok (.ref S.length) (S ++ [.lst (fl n h)]) := by
  rw [call_of (d := d_stages_of) rfl rfl]
  have e : compLoop (fun _ => true) (turnI pr (call pr 18) (make pr 18) [.val (catT n A tb), .val (.str w), .val (FR n A tb), .no] (.v 3) (.n 3) (.callV (.sub (.g [87, 79, 82, 68, 83] (c_WORDS)) (.v 1)) [(.v 2), (.v 3)])) (zts n) S = .ok (fl n h) S := by
    have := compLoop_ofI (g := fun _ => true) (f := turnI pr (call pr 18) (make pr 18) [.val (catT n A tb), .val (.str w), .val (FR n A tb), .no] (.v 3) (.n 3) (.callV (.sub (.g [87, 79, 82, 68, 83] (c_WORDS)) (.v 1)) [(.v 2), (.v 3)])) (S := S) rfl (fun (k : Nat) => T.int (k : Int)) h (fun (k : Nat) => T.int (k : Int)) (xs := List.range n) fun i hi => by
      have hi : i < n := by simpa using hi
      have lw : look S c_WORDS = c_WORDS := rfl
      have cv : ev pr (call pr 18) (make pr 18) [.val (catT n A tb), .val (.str w), .val (FR n A tb), .val (.int i)] (.callV (.sub (.g [87, 79, 82, 68, 83] (c_WORDS)) (.v 1)) [(.v 2), (.v 3)]) S = .ok (.bl (h i)) S := by
        rw [callV_fn (f := F) (by simp [lw, hw])]
        simp [hF i hi S]
      cases q : h i <;> simp [turnI, cv, q]
    rw [zts, this, fl_map]
  have lw : look S c_WORDS = c_WORDS := rfl
  have e43 : call pr 18 43 [.bl true] S = .ok .non S := by
    rw [call_of (d := d_check_form) rfl rfl]
    simp [d_check_form, startE]
  have key : exs pr (call pr 18) (make pr 18) d_stages_of.body [.val (catT n A tb), .val (.str w), .no, .no] S = .ret (.ref S.length) (S ++ [.lst (fl n h)]) := by
    simp only [d_stages_of]
    rw [exs_nx (r' := [.val (catT n A tb), .val (.str w), .val (FR n A tb), .no]) (S' := S) (by
      have := c_readf 11 hc S
      simp [this])]
    rw [exs_nx (r' := [.val (catT n A tb), .val (.str w), .val (FR n A tb), .no]) (S' := S) (by
      simp [Ty.ev, lw, Cmp.ev, hi, e43])]
    refine exs_ret ?_
    simp
    rw [e]
    simp
  exact congrArg SRes.fin key
theorem s_bad (hc : Cat n A tb) (x : T) (hb : ∀ S, ev pr (call pr 17) (make pr 17) [.val (catT n A tb), .val x, .val (FR n A tb), .no] (.and (.isi (.v 1) .str) (.cmp .isin (.v 1) (.g [87, 79, 82, 68, 83] (c_WORDS)))) S = .ok (.bl false) S) (S : Store) : call pr 18 71 [catT n A tb, x] S = .exn 2 S := by
  rw [call_of (d := d_stages_of) rfl rfl]
  have e43 : call pr 17 43 [.bl false] S = .exn 2 S := by
    rw [call_of (d := d_check_form) rfl rfl]
    simp [d_check_form, startE]
  have key : exs pr (call pr 17) (make pr 17) d_stages_of.body [.val (catT n A tb), .val x, .no, .no] S = .exn 2 [.val (catT n A tb), .val x, .val (FR n A tb), .no] S := by
    simp only [d_stages_of]
    rw [exs_nx (r' := [.val (catT n A tb), .val x, .val (FR n A tb), .no]) (S' := S) (by
      have := c_readf 10 hc S
      simp [this])]
    refine exs_exn ?_
    rw [q_ex, e_call, e_cons, hb, bnd_ok, e_nil, bnd_ok, bnd_ok, e43]; rfl
  exact congrArg SRes.fin key
theorem c_told (hc : Cat n A tb) (x : T) (hb : ∀ S, ev pr (call pr 17) (make pr 17) [.val (catT n A tb), .val x, .val (FR n A tb), .no] (.and (.isi (.v 1) .str) (.cmp .isin (.v 1) (.g [87, 79, 82, 68, 83] (c_WORDS)))) S = .ok (.bl false) S) (S : Store) : call pr 19 59 [catT n A tb, x] S = .ok (.bl true) S := by
  rw [call_of (d := d_l_told) rfl rfl]
  have e := s_bad hc x hb S
  have key : exs pr (call pr 18) (make pr 18) d_l_told.body [.val (catT n A tb), .val x, .no] S = .ret (.bl true) S := by
    simp only [d_l_told]
    refine exs_ret ?_
    rw [q_tryn]
    have hs : pr.sub 2 2 = true := rfl
    have hs0 : pr.sub 2 0 = true := rfl
    simp [e, hs, hs0, SRes.drop]
  exact congrArg SRes.fin key
end
end K09
end Hf
end

section
set_option Elab.async false
set_option linter.all false
set_option maxRecDepth 100000
set_option maxHeartbeats 400000
/-! K09zb: the plain law of k09: chooses. -/
namespace Hf
theorem itM_of {P : Prog} {cf mk : Nat → List T → Store → Res T} {r : Env} {elt it c : E} {tg : Tg} {S : Store} {α : Type} {xs : List α} (t h : α → T) (p : α → Bool) (hit : (evL P cf mk r it S).bnd itemsOf = .ok (.tup (xs.map t), xs.map t) S)
    (hx : ∀ x ∈ xs, turnI P cf mk r elt tg c (t x) S = .ok (if p x = true then some (h x) else none) S) : ev P cf mk r (.bi .len [.compI elt tg it c]) S = .ok (.int ((xs.filter p).length : Nat)) S := by
  have e : compLoop (fun _ => true) (turnI P cf mk r elt tg c) (xs.map t) S = .ok ((xs.filter p).map h) S := compLoop_ofI rfl t p h hx
  rw [e_bi, eV_cons, evL_compI, e_compI, hit, bnd_ok]
  dsimp only
  rw [show still (T.tup (xs.map t)) (xs.map t) = fun _ => true from rfl, e]
  simp
namespace K09
open P09
section
variable {n : Nat} {A : List (Nat × Nat)} {tb : List (List Int)}
theorem unlike_le : ∀ xs : List T, unlike xs ≤ xs.length
  | [] => Nat.le_refl _
  | x :: xs => by
    have := unlike_le xs
    simp only [unlike, List.length_cons]
    split <;> omega
theorem any_prT (p : Nat × Nat) (A : List (Nat × Nat)) : ((A.map prT).any fun y => T.eqv y (prT p)) = decide (p ∈ A) := by
  rw [List.any_map, Bool.eq_iff_iff]
  simp only [List.any_eq_true, Function.comp, decide_eq_true_eq]
  constructor
  · rintro ⟨q, hq, e⟩
    have := eqv_prT q p
    rw [this] at e
    have : q = p := by simpa using e
    rw [← this]; exact hq
  · intro h
    exact ⟨p, h, by rw [eqv_prT]; simp⟩
theorem unlike_prT : ∀ A : List (Nat × Nat), unlike (A.map prT) = A.length ↔ A.Nodup
  | [] => by simp [unlike]
  | p :: A => by
    have ih := unlike_prT A
    have hle := unlike_le (A.map prT)
    rw [List.length_map] at hle
    simp only [List.map_cons, unlike, any_prT, List.nodup_cons, List.length_cons, ← ih]
    by_cases h : p ∈ A
    · simp [h]; omega
    · simp [h]; omega
theorem rows_prT (h : A.length ≤ 60) : rowsI (A.map prT) = true := by
  simp only [rowsI, Bool.and_eq_true, decide_eq_true_eq, List.length_map, List.all_eq_true]
  refine ⟨h, fun x hx => ?_⟩
  obtain ⟨p, _, rfl⟩ := List.mem_map.mp hx
  rfl
def chB (A : List (Nat × Nat)) (tb : List (List Int)) : Bool := decide A.Nodup && (List.range A.length).all (invs A tb)
theorem all_last (hc : Cat n A tb) : (List.range n).all (lastB A tb) = (List.range A.length).all (invs A tb) := by
  rw [Bool.eq_iff_iff]
  simp only [List.all_eq_true, List.mem_range, lastB]
  constructor
  · intro h f hf
    exact h (ar A f).1 (hc.lt f hf).1 f (mem_outs.mpr ⟨hf, rfl⟩)
  · intro h s hs f hf
    exact h f (mem_outs.mp hf).1
theorem c_chooses (hc : Cat n A tb) (S : Store) : call pr 19 72 [catT n A tb] S = .ok (.bl (chB A tb)) S := by
  rw [call_of (d := d_chooses) rfl rfl]
  have hr := rows_prT (A := A) (by have := hc.A24; omega)
  have e1 : compLoop (fun _ => true) (turn pr (call pr 18) (make pr 18) [.val (catT n A tb), .val (FR n A tb), .no, .no, .no] (.v 3) (.n 3)) (A.map prT) S = .ok (A.map prT) S :=
    compLoop_of rfl _ _ fun p _ => by simp [turn]
  have e2 : ev pr (call pr 18) (make pr 18) [.val (catT n A tb), .val (FR n A tb), .val (.bl (decide A.Nodup)), .no, .no] (.bi .all [(.comp (.meth 3 (.v 1) [(.v 4)]) (.n 4) (.attr (.v 1) 1))]) S = .ok (.bl ((List.range n).all (lastB A tb))) S := by
    refine all_comp (fun (k : Nat) => T.int (k : Int)) (lastB A tb) ?_ fun s hs => ?_
    · simp [zts]
    · have hs : s < n := by simpa using hs
      have := c_islast 14 hc hs S
      simp [turn, this, lastB]
  have key : exs pr (call pr 18) (make pr 18) d_chooses.body [.val (catT n A tb), .no, .no, .no, .no] S = .ret (.bl (chB A tb)) S := by
    simp only [d_chooses]
    rw [exs_nx (r' := [.val (catT n A tb), .val (FR n A tb), .no, .no, .no]) (S' := S) (by
      have := c_readf 11 hc S
      simp [this])]
    have hu : decide (((unlike (A.map prT) : Nat) : Int) = (A.length : Int)) = decide A.Nodup := decide_eq_decide.mpr (by rw [← unlike_prT]; omega)
    rw [exs_nx (r' := [.val (catT n A tb), .val (FR n A tb), .val (.bl (decide A.Nodup)), .no, .no]) (S' := S) (by
      rw [q_asg]
      have es : ev pr (call pr 18) (make pr 18) [.val (catT n A tb), .val (FR n A tb), .no, .no, .no] (.setlen (.v 3) (.n 3) (.attr (.v 1) 0)) S = .ok (.int (unlike (A.map prT) : Nat)) S := by
        simp
        rw [show still (T.tup (A.map prT)) (A.map prT) = fun _ => true from rfl, e1]
        simp [hr]
      have el : evL pr (call pr 18) (make pr 18) [.val (catT n A tb), .val (FR n A tb), .no, .no, .no] (.setlen (.v 3) (.n 3) (.attr (.v 1) 0)) S = .ok (.int (unlike (A.map prT) : Nat)) S := (evL_of _ _ _ _ _ _ (by intro i h; cases h)).trans es
      rw [e_cmp, el, bnd_ok, ← hu]
      simp)]
    refine exs_ret ?_
    have ev2 : ev pr (call pr 18) (make pr 18) [.val (catT n A tb), .val (FR n A tb), .val (.bl (decide A.Nodup)), .no, .no] (.v 2) S = .ok (.bl (decide A.Nodup)) S := by simp
    rw [q_ret, e_and, ev2, bnd_ok]
    unfold chB
    by_cases q : A.Nodup
    · rw [decide_eq_true q, fork_true]
      rw [decide_eq_true q] at e2
      rw [e2, all_last hc]
      simp
    · rw [decide_eq_false q, fork_false]
      simp
  exact congrArg SRes.fin key
theorem pos_anyG {α : Type} {p : α → Bool} (l : List α) : decide ((0 : Int) < ((l.filter p).length : Int)) = l.any p := by
  rw [Bool.eq_iff_iff, decide_eq_true_eq, List.any_eq_true]
  constructor
  · intro h
    have h : 0 < (l.filter p).length := by omega
    obtain ⟨x, hx⟩ := List.exists_mem_of_length_pos h
    exact ⟨x, (List.mem_filter.mp hx).1, (List.mem_filter.mp hx).2⟩
  · rintro ⟨x, hx, h⟩
    have := List.length_pos_of_mem (List.mem_filter.mpr ⟨hx, h⟩)
    omega
theorem twice (A : List (Nat × Nat)) : decide ((0 : Int) < ((A.filter fun p => decide ((1 : Int) < ((A.filter fun q => decide (q = p)).length : Nat))).length : Nat)) = !decide A.Nodup := by
  have hcnt : ∀ p, (A.filter fun q => decide (q = p)).length = A.count p := fun p => by
    rw [List.count_eq_length_filter]
    congr 1
    apply List.filter_congr
    intro q _
    rw [Bool.eq_iff_iff]
    simp
  rw [pos_anyG, Bool.eq_iff_iff]
  simp only [List.any_eq_true, decide_eq_true_eq, Bool.not_eq_true', decide_eq_false_iff_not, hcnt]
  rw [List.nodup_iff_count]
  constructor
  · rintro ⟨p, hp, h⟩ hall
    have := hall p
    omega
  · intro h
    have h : ∃ p, ¬ A.count p ≤ 1 := Classical.not_forall.mp h
    obtain ⟨p, h⟩ := h
    refine ⟨p, List.count_pos_iff.mp (by omega), by omega⟩
theorem c_chosen (hc : Cat n A tb) (S : Store) : call pr 19 86 [catT n A tb] S = .ok (.bl (chB A tb)) S := by
  rw [call_of (d := d_l_chosen) rfl rfl]
  have gl := rng_nat (n := A.length) (by have := hc.A24; omega)
  have ein : ∀ p, ev pr (call pr 18) (make pr 18) [.val (catT n A tb), .no, .val (prT p), .no] (.bi .len [(.compI (.v 3) (.n 3) (.sub (.v 0) (.k (.int 1))) (.cmp .eq (.v 3) (.v 2)))]) S = .ok (.int ((A.filter fun q => decide (q = p)).length : Nat)) S := fun p => by
    refine itM_of prT prT (fun q => decide (q = p)) ?_ fun q hq => ?_
    · simp [catT]
    · have e := eqs_prT q p
      have l1 : look S (prT q) = prT q := rfl
      have l2 : look S (prT p) = prT p := rfl
      by_cases z : q = p
      · simp [turnI, Cmp.ev, l1, l2, e, z]
        rw [eqs_prT]; simp
      · simp [turnI, Cmp.ev, l1, l2, e, z]
  have e1 : ev pr (call pr 18) (make pr 18) [.val (catT n A tb), .no, .no, .no] (.cmp .gt (.bi .len [(.compI (.v 2) (.n 2) (.sub (.v 0) (.k (.int 1))) (.cmp .gt (.bi .len [(.compI (.v 3) (.n 3) (.sub (.v 0) (.k (.int 1))) (.cmp .eq (.v 3) (.v 2)))]) (.k (.int 1))))]) (.k (.int 0))) S = .ok (.bl (!decide A.Nodup)) S := by
    have eo : ev pr (call pr 18) (make pr 18) [.val (catT n A tb), .no, .no, .no] (.bi .len [(.compI (.v 2) (.n 2) (.sub (.v 0) (.k (.int 1))) (.cmp .gt (.bi .len [(.compI (.v 3) (.n 3) (.sub (.v 0) (.k (.int 1))) (.cmp .eq (.v 3) (.v 2)))]) (.k (.int 1))))]) S = .ok (.int ((A.filter fun p => decide ((1 : Int) < ((A.filter fun q => decide (q = p)).length : Nat))).length : Nat)) S := by
      refine itM_of prT prT (fun p => decide ((1 : Int) < ((A.filter fun q => decide (q = p)).length : Nat))) ?_ fun p hp => ?_
      · simp [catT]
      · have ei := ein p
        have ec : ev pr (call pr 18) (make pr 18) [.val (catT n A tb), .no, .val (prT p), .no] (.cmp .gt (.bi .len [(.compI (.v 3) (.n 3) (.sub (.v 0) (.k (.int 1))) (.cmp .eq (.v 3) (.v 2)))]) (.k (.int 1))) S = .ok (.bl (decide ((1 : Int) < ((A.filter fun q => decide (q = p)).length : Nat)))) S := by
          rw [e_cmp, evL_bi, ei, bnd_ok, evL_k, bnd_ok, look_int, look_int, o_gt]; rfl
        show (toB0 (ev pr (call pr 18) (make pr 18) [.val (catT n A tb), .no, .val (prT p), .no] (.cmp .gt (.bi .len [(.compI (.v 3) (.n 3) (.sub (.v 0) (.k (.int 1))) (.cmp .eq (.v 3) (.v 2)))]) (.k (.int 1))) S)).bnd _ = _
        rw [ec, toB0_bl, bnd_ok]
        cases decide ((1 : Int) < ((A.filter fun q => decide (q = p)).length : Nat)) <;> simp
    rw [e_cmp, evL_bi, eo, bnd_ok, evL_k, bnd_ok, look_int, look_int, o_gt, twice]; rfl
  have e2 : ev pr (call pr 18) (make pr 18) [.val (catT n A tb), .no, .no, .no] (.bi .all [(.comp (.call 17 [(.v 0), (.v 1)]) (.n 1) (.rng (.bi .len [(.sub (.v 0) (.k (.int 1)))])))]) S = .ok (.bl ((List.range A.length).all (invs A tb))) S := by
    refine all_comp (fun (k : Nat) => T.int (k : Int)) (invs A tb) ?_ fun f hf => ?_
    · simp [catT, gl.1, gl.2]
      simp [zts]
    · have hf : f < A.length := by simpa using hf
      have := c_linv 16 hc hf S
      simp [turn, this]
  have key : exs pr (call pr 18) (make pr 18) d_l_chosen.body [.val (catT n A tb), .no, .no, .no] S = .ret (.bl (chB A tb)) S := by
    simp only [d_l_chosen]
    unfold chB
    by_cases q : A.Nodup
    · rw [decide_eq_true q] at e1 ⊢
      rw [if_no e1]
      exact exs_ret (by rw [q_ret, e2]; simp)
    · rw [decide_eq_false q] at e1 ⊢
      exact if_yes e1 (by simp)
  exact congrArg SRes.fin key
theorem c_yes (b : Bool) (S : Store) : call pr 19 73 [.bl b, .bl b] S = .ok (.bl true) S := by
  rw [call_of (d := d_l_yes) rfl rfl]
  have e : T.eqs (.bl b) (.bl b) = some true := by cases b <;> rfl
  simp [d_l_yes, startE, Ty.ev, Cmp.ev, e]
end
end K09
end Hf
end

section
set_option Elab.async false
set_option linter.all false
set_option maxRecDepth 100000
set_option maxHeartbeats 400000
/-! K09zc: the plain law of k09, whole. -/
namespace Hf
namespace K09
open P09
theorem eqs_ints (is : List Int) : T.eqs (.lst (is.map .int)) (.lst (is.map .int)) = some true := by
  have hd : T.data (.lst (is.map .int)) = true := by
    rw [data_lst]
    exact dataAll_of fun x hx => by obtain ⟨i, _, rfl⟩ := List.mem_map.mp hx; rfl
  have hp : T.depth (.lst (is.map .int)) ≤ 60 := by
    rw [depth_lst]
    have := depthAll_le (xs := is.map T.int) (n := 0) fun x hx => by obtain ⟨i, _, rfl⟩ := List.mem_map.mp hx; exact Nat.le_refl _
    omega
  rw [eqs_of hd hd (.inl hp), eqv_refl _ hd]
section
variable {n : Nat} {A : List (Nat × Nat)} {tb : List (List Int)}
theorem one_word (hc : Cat n A tb) (w : List Nat) (h : Nat → Bool) (hat : ∀ i, i < n → ∀ S, call pr 19 85 [catT n A tb, .str w, .int i] S = .ok (.bl (h i)) S)
    (hst : ∀ S, call pr 19 71 [catT n A tb, .str w] S = .ok (.ref S.length) (S ++ [.lst (fl n h)])) (x0 x1 x3 x4 x5 x6 x7 x8 : Slot) (S : Store) :
    ∃ y7 S', goS pr (call pr 19) (make pr 19) (.n 4) d_law_b1 (.str w) [x0, x1, .val (catT n A tb), x3, x4, x5, x6, x7, x8] S = .nx [x0, x1, .val (catT n A tb), x3, .val (.str w), x5, .val (.lst (fl n h)), y7, x8] S' ∧ Ext S S' := by
  obtain ⟨is, his⟩ : ∃ is, is = flI n h := ⟨_, rfl⟩
  have hfl : fl n h = is.map .int := by rw [his]; rfl
  have hlen : is.length ≤ 6 := by
    have := fl_len n h
    rw [hfl, List.length_map] at this
    have := hc.n6
    omega
  have gn := rng_nat (n := n) (by have := hc.n6; omega)
  have eq := eqs_ints is
  have ec : compLoop (fun _ => true) (turnI pr (call pr 19) (make pr 19) [x0, x1, .val (catT n A tb), x3, .val (.str w), x5, x6, x7, x8] (.v 8) (.n 8) (.call 85 [(.v 2), (.v 4), (.v 8)])) (zts n) S = .ok (is.map .int) S := by
    have := compLoop_ofI (g := fun _ => true) (f := turnI pr (call pr 19) (make pr 19) [x0, x1, .val (catT n A tb), x3, .val (.str w), x5, x6, x7, x8] (.v 8) (.n 8) (.call 85 [(.v 2), (.v 4), (.v 8)])) (S := S) rfl (fun (k : Nat) => T.int (k : Int)) h (fun (k : Nat) => T.int (k : Int)) (xs := List.range n) fun i hi => by
      have hi : i < n := by simpa using hi
      have e := hat i hi S
      cases q : h i <;> simp [turnI, e, q]
    rw [zts, this, ← fl_map, hfl]
  obtain ⟨S1, h1⟩ : ∃ S1, S1 = S ++ [Cell.lst (is.map .int)] := ⟨_, rfl⟩
  have g1 : S1[S.length]? = some (.lst (is.map .int)) := by rw [h1]; simp
  have e1 := hst S
  rw [hfl, ← h1] at e1
  have lk := look_at g1
  have r1 := read_ref (P := pr) rfl 17 S.length is g1
  obtain ⟨S2, h2⟩ : ∃ S2, S2 = S1.set S.length (.lst (is.map .int ++ [.int 9])) := ⟨_, rfl⟩
  have hz : is.length < sizeLim := by unfold sizeLim; omega
  have p1 : ∀ r, pushcS S.length (.int 9) r S1 = .nx r S2 := fun r => by simp [pushcS, g1, hz, h2]
  obtain ⟨S3, h3⟩ : ∃ S3, S3 = S2 ++ [Cell.lst (is.map .int)] := ⟨_, rfl⟩
  have g3 : S3[S2.length]? = some (.lst (is.map .int)) := by rw [h3]; simp
  have e3 := hst S2
  rw [hfl, ← h3] at e3
  have lk3 := look_at g3
  have r3 := read_ref (P := pr) rfl 17 S2.length is g3
  refine ⟨.val (.ref S.length), S3, ?_, ?_⟩
  · rw [hfl]
    simp only [goS, d_law_b1, bindT_n, List.set_cons_succ, List.set_cons_zero]
    rw [exs_nx (r' := [x0, x1, .val (catT n A tb), x3, .val (.str w), x5, .val (.lst (is.map .int)), x7, x8]) (S' := S) (by
      have e0 : ev pr (call pr 19) (make pr 19) [x0, x1, .val (catT n A tb), x3, .val (.str w), x5, x6, x7, x8] (.rng (.sub (.v 2) (.k (.int 0)))) S = .ok (.lst (zts n)) S := by
        simp [catT, gn.1, gn.2]
      rw [q_asg, e_compI, evL_rng, e0, bnd_ok, items_lst, bnd_ok]
      dsimp only
      rw [show still (T.lst (zts n)) (zts n) = fun _ => true from rfl, ec]
      simp)]
    rw [exs_nx (r' := [x0, x1, .val (catT n A tb), x3, .val (.str w), x5, .val (.lst (is.map .int)), .val (.ref S.length), x8]) (S' := S1) (by simp [e1])]
    rw [exs_nx (r' := [x0, x1, .val (catT n A tb), x3, .val (.str w), x5, .val (.lst (is.map .int)), .val (.ref S.length), x8]) (S' := S1) (by simp [lk, Ty.ev, r1, eq])]
    rw [exs_nx (r' := [x0, x1, .val (catT n A tb), x3, .val (.str w), x5, .val (.lst (is.map .int)), .val (.ref S.length), x8]) (S' := S2) (by simp [p1])]
    rw [exs_nx (r' := [x0, x1, .val (catT n A tb), x3, .val (.str w), x5, .val (.lst (is.map .int)), .val (.ref S.length), x8]) (S' := S3) (by simp [e3, r3, eq])]
    simp
  · rw [h3, h2, h1]
    refine ⟨by simp, fun i hi => ?_⟩
    rw [List.getElem?_append_left (by simp; omega), List.getElem?_set_ne (by omega), List.getElem?_append_left hi]
theorem words_ok (hc : Cat n A tb) (x0 x1 x3 : Slot) (S : Store) : ∃ y4 y6 y7 S', ex pr (call pr 19) (make pr 19) (.loop (.n 4) (.disp [(.k (.str [109, 105, 100, 100, 108, 101])), (.k (.str [119, 101, 97, 107])), (.k (.str [99, 104, 97, 105, 110, 101, 100])), (.k (.str [115, 104, 105, 102, 116])), (.k (.str [99, 111, 110, 115, 116, 97, 110, 116])), (.k (.str [112, 114, 101, 109, 105, 115, 101])), (.k (.str [99, 104, 111, 105, 99, 101]))]) d_law_b1) [x0, x1, .val (catT n A tb), x3, .no, .no, .no, .no, .no] S = .nx [x0, x1, .val (catT n A tb), x3, y4, .no, y6, y7, .no] S' ∧ Ext S S' := by
  obtain ⟨z1, S1, e1, d1⟩ := one_word hc [109, 105, 100, 100, 108, 101] (endB A tb) (fun i _ S => at_end 14 hc i _ (.inl rfl) S) (fun S => c_stages hc _ 69 _ rfl rfl (fun s hs S => p_end 13 hc hs S) S) x0 x1 x3 .no .no .no .no .no S
  obtain ⟨z2, S2, e2, d2⟩ := one_word hc [119, 101, 97, 107] (weakB A tb) (fun i _ S => at_weak 14 hc i S) (fun S => c_stages hc _ 64 _ rfl rfl (fun s hs S => p_weak 13 hc hs S) S) x0 x1 x3 (.val (.str [109, 105, 100, 100, 108, 101])) .no (.val (.lst (fl n (endB A tb)))) z1 .no S1
  obtain ⟨z3, S3, e3, d3⟩ := one_word hc [99, 104, 97, 105, 110, 101, 100] (chainB A tb) (fun i _ S => at_chain 14 hc i _ (.inl rfl) S) (fun S => c_stages hc _ 65 _ rfl rfl (fun s hs S => p_chain 12 hc hs S) S) x0 x1 x3 (.val (.str [119, 101, 97, 107])) .no (.val (.lst (fl n (weakB A tb)))) z2 .no S2
  obtain ⟨z4, S4, e4, d4⟩ := one_word hc [115, 104, 105, 102, 116] (shiftB A tb) (fun i _ S => at_shift 14 hc S) (fun S => c_stages hc _ 66 _ rfl rfl (fun s hs S => p_shift 13 hc hs S) S) x0 x1 x3 (.val (.str [99, 104, 97, 105, 110, 101, 100])) .no (.val (.lst (fl n (chainB A tb)))) z3 .no S3
  obtain ⟨z5, S5, e5, d5⟩ := one_word hc [99, 111, 110, 115, 116, 97, 110, 116] (endB A tb) (fun i _ S => at_end 14 hc i _ (.inr rfl) S) (fun S => c_stages hc _ 69 _ rfl rfl (fun s hs S => p_end 13 hc hs S) S) x0 x1 x3 (.val (.str [115, 104, 105, 102, 116])) .no (.val (.lst (fl n (shiftB A tb)))) z4 .no S4
  obtain ⟨z6, S6, e6, d6⟩ := one_word hc [112, 114, 101, 109, 105, 115, 101] (premB A tb) (fun i _ S => at_chain 14 hc i _ (.inr rfl) S) (fun S => c_stages hc _ 68 _ rfl rfl (fun s hs S => p_prem 11 hc hs S) S) x0 x1 x3 (.val (.str [99, 111, 110, 115, 116, 97, 110, 116])) .no (.val (.lst (fl n (endB A tb)))) z5 .no S5
  obtain ⟨z7, S7, e7, d7⟩ := one_word hc [99, 104, 111, 105, 99, 101] (lastB A tb) (fun i _ S => at_choice 14 hc i S) (fun S => c_stages hc _ 70 _ rfl rfl (fun s hs S => p_last 13 hc hs S) S) x0 x1 x3 (.val (.str [112, 114, 101, 109, 105, 115, 101])) .no (.val (.lst (fl n (premB A tb)))) z6 .no S6
  refine ⟨.val (.str [99, 104, 111, 105, 99, 101]), .val (.lst (fl n (lastB A tb))), z7, S7, ?_, d1.trans (d2.trans (d3.trans (d4.trans (d5.trans (d6.trans d7)))))⟩
  rw [q_loop]
  simp only [e_disp, e_cons, e_k, e_nil, bnd_ok, items_lst, toT_ok]
  rw [show ∀ xs : List T, still (T.lst xs) xs = fun _ => true from fun _ => rfl]
  rw [forS_nx e1 rfl, forS_nx e2 rfl, forS_nx e3 rfl, forS_nx e4 rfl, forS_nx e5 rfl, forS_nx e6 rfl, forS_nx e7 rfl]
  rfl
theorem kn_small2 {i j : Nat} (hi : i < 10) (hj : j < 10) : (KN i).1 + (KN j).1 ≤ 6 ∧ (KN i).2.1.length + (KN j).2.1.length ≤ 24 := by
  have a := kn_small hi
  have b := kn_small hj
  omega
theorem law : ∀ ns : List Int, ns.length ≤ 63 → ∃ S', call pr 20 26 [.lst (ns.map .int)] [] = .ok (.bl true) S' := by
  intro ns _
  rw [call_of (d := d_law) rfl rfl]
  suffices h : ∃ S', exs pr (call pr 19) (make pr 19) d_law.body [.val (.lst (ns.map .int)), .no, .no, .no, .no, .no, .no, .no, .no] [] = .ret (.bl true) S' by
    obtain ⟨S', h⟩ := h
    exact ⟨S', congrArg SRes.fin h⟩
  obtain ⟨S1, e1, b1, _, _⟩ := stream_of (P := pr) rfl rfl 17 ns 0 []
  have e1' : call pr 19 11 [.lst (ns.map .int), .int 0] [] = .ok (.ref 0) S1 := e1
  have b1 : Box S1 0 := b1
  obtain ⟨t0, S2, h0, e2, d2⟩ := c_full b1
  obtain ⟨k, S3, hk, e3, d3⟩ := draw 18 4 (by decide) (by decide) d2.1
  simp only [d_law]
  rw [exs_nx (r' := [.val (.lst (ns.map .int)), .val (.ref 0), .no, .no, .no, .no, .no, .no, .no]) (S' := S1) (by simp [e1'])]
  rw [exs_nx (r' := [.val (.lst (ns.map .int)), .val (.ref 0), .val t0, .no, .no, .no, .no, .no, .no]) (S' := S2) (by simp [e2])]
  have ek : ev pr (call pr 19) (make pr 19) [.val (.lst (ns.map .int)), .val (.ref 0), .val t0, .no, .no, .no, .no, .no, .no] (.cmp .eq (.call 12 [(.v 1), (.k (.int 4))]) (.k (.int 0))) S2 = .ok (.bl (decide ((k : Int) = 0))) S3 := by simp [e3]
  obtain ⟨t, S4, ht, e4, b4⟩ : ∃ t S4, IsCat t ∧ ex pr (call pr 19) (make pr 19) (.ife (.cmp .eq (.call 12 [(.v 1), (.k (.int 4))]) (.k (.int 0))) [.asg (.n 2) (.call 20 [(.call 14 [(.call 12 [(.v 1), (.k (.int 10))])]), (.call 14 [(.call 12 [(.v 1), (.k (.int 10))])])])] []) [.val (.lst (ns.map .int)), .val (.ref 0), .val t0, .no, .no, .no, .no, .no, .no] S2 = .nx [.val (.lst (ns.map .int)), .val (.ref 0), .val t, .no, .no, .no, .no, .no, .no] S4 ∧ Box S4 0 := by
    by_cases q : (k : Int) = 0
    · obtain ⟨a, S5, ha, e5, d5⟩ := draw 18 10 (by decide) (by decide) d3.1
      obtain ⟨b, S6, hb, e6, d6⟩ := draw 18 10 (by decide) (by decide) d5.1
      have ha : a < 10 := by omega
      have hb : b < 10 := by omega
      obtain ⟨s1, s2⟩ := kn_small2 ha hb
      obtain ⟨S7, x7, e7⟩ := beside_ok (c := KN a) (d := KN b) 18 (kn_cat ha) (kn_cat hb) s1 s2 S6
      refine ⟨_, S7, ⟨_, _, _, rfl, bes_cat ha hb⟩, ?_, d6.1.ext x7⟩
      have e7' : call pr 19 20 [KT a, KT b] S6 = .ok (catT ((KN a).1 + (KN b).1) (besA (KN a) (KN b)) (besT (KN a) (KN b))) S7 := e7
      rw [qq_ife, ek, decide_eq_true q, toT_ok, forkS_true, q_one, q_asg]
      have k1 := c_known 18 ha S5
      have k2 := c_known 18 hb S6
      simp [e5, e6, k1, k2, e7']
    · refine ⟨t0, S3, h0, ?_, d3.1⟩
      rw [qq_ife, ek, decide_eq_false q, toT_ok, forkS_false, q_nil]
  rw [exs_nx e4]
  obtain ⟨n, A, tb, rfl, hc⟩ := ht
  obtain ⟨w, hw⟩ := repr_cat hc
  have lkc : ∀ S, look S (catT n A tb) = catT n A tb := fun _ => rfl
  rw [exs_nx (r' := [.val (.lst (ns.map .int)), .val (.ref 0), .val (catT n A tb), .val (.str w), .no, .no, .no, .no, .no]) (S' := S4) (by simp [lkc, hw])]
  obtain ⟨y4, y6, y7, S5, e5, d5⟩ := words_ok hc (.val (.lst (ns.map .int))) (.val (.ref 0)) (.val (.str w)) S4
  rw [exs_nx e5]
  have b5 := b4.ext d5
  -- ends and lasts
  obtain ⟨S6, h6⟩ : ∃ S6, S6 = S5 ++ [Cell.lst (endsL n A (und A tb))] := ⟨_, rfl⟩
  have u1 : call pr 19 7 [catT n A tb] S5 = .ok (.ref S5.length) S6 := by rw [h6]; exact c_ends 11 hc S5
  have g6 : S6[S5.length]? = some (.lst ((flI n fun i => (outsN A i).all (und A tb)).map .int)) := by rw [h6]; simp; rfl
  have r6 := read_ref (P := pr) rfl 17 S5.length _ g6
  have v1 : call pr 19 18 [catT n A tb] S6 = .ok (.lst ((flI n fun i => (outsN A i).all (und A tb)).map .int)) S6 := c_lends 16 hc S6
  obtain ⟨S7, h7⟩ : ∃ S7, S7 = S6 ++ [Cell.lst (endsL n A (invs A tb))] := ⟨_, rfl⟩
  have u2 : call pr 19 8 [catT n A tb] S6 = .ok (.ref S6.length) S7 := by rw [h7]; exact c_lasts 11 hc S6
  have g7 : S7[S6.length]? = some (.lst ((flI n fun i => (outsN A i).all (invs A tb)).map .int)) := by rw [h7]; simp; rfl
  have r7 := read_ref (P := pr) rfl 17 S6.length _ g7
  have v2 : call pr 19 19 [catT n A tb] S7 = .ok (.lst ((flI n fun i => (outsN A i).all (invs A tb)).map .int)) S7 := c_llasts 16 hc S7
  have b7 : Box S7 0 := by
    have x1 : Ext S5 S6 := by rw [h6]; exact ⟨by simp, fun i hi => List.getElem?_append_left hi⟩
    have x2 : Ext S6 S7 := by rw [h7]; exact ⟨by simp, fun i hi => List.getElem?_append_left hi⟩
    exact (b5.ext x1).ext x2
  have q1 := eqs_ints (flI n fun i => (outsN A i).all (und A tb))
  have q2 := eqs_ints (flI n fun i => (outsN A i).all (invs A tb))
  rw [exs_nx (r' := [.val (.lst (ns.map .int)), .val (.ref 0), .val (catT n A tb), .val (.str w), y4, .no, y6, y7, .no]) (S' := S7) (by
    simp [u1, r6, v1, q1, u2, r7, v2, q2])]
  rw [exs_nx (r' := [.val (.lst (ns.map .int)), .val (.ref 0), .val (catT n A tb), .val (.str w), y4, .no, y6, y7, .no]) (S' := S7) (by
    have a1 := c_chooses hc S7
    have a2 := c_chosen hc S7
    have a3 := c_yes (chB A tb) S7
    simp [a1, a2, a3])]
  obtain ⟨j, S8, hj, e8, d8⟩ := draw 18 9 (by decide) (by decide) b7
  obtain ⟨x, ex8, hb⟩ : ∃ x, ev pr (call pr 19) (make pr 19) [.val (.lst (ns.map .int)), .val (.ref 0), .val (catT n A tb), .val (.str w), y4, .no, y6, y7, .no] (.sub (.disp [(.k (.str [])), (.k (.str [77, 105, 100, 100, 108, 101])), (.k (.str [109, 105, 100, 100, 108, 101, 115])), (.k (.str [119, 101, 97, 107, 32])), (.k (.int 3)), (.k (.non)), (.tup [(.k (.str [119, 101, 97, 107]))]), (.disp [(.k (.str [119, 101, 97, 107]))]), (.k (.str [101, 110, 100]))]) (.call 12 [(.v 1), (.k (.int 9))])) S7 = .ok x S8 ∧
      ∀ S, ev pr (call pr 17) (make pr 17) [.val (catT n A tb), .val x, .val (FR n A tb), .no] (.and (.isi (.v 1) .str) (.cmp .isin (.v 1) (.g [87, 79, 82, 68, 83] (c_WORDS)))) S = .ok (.bl false) S := by
    have h : j = 0 ∨ j = 1 ∨ j = 2 ∨ j = 3 ∨ j = 4 ∨ j = 5 ∨ j = 6 ∨ j = 7 ∨ j = 8 := by omega
    rcases h with rfl | rfl | rfl | rfl | rfl | rfl | rfl | rfl | rfl
    · exact ⟨.str [], by simp [e8], fun S => by kernel_rfl⟩
    · exact ⟨.str [77, 105, 100, 100, 108, 101], by simp [e8], fun S => by kernel_rfl⟩
    · exact ⟨.str [109, 105, 100, 100, 108, 101, 115], by simp [e8], fun S => by kernel_rfl⟩
    · exact ⟨.str [119, 101, 97, 107, 32], by simp [e8], fun S => by kernel_rfl⟩
    · exact ⟨.int 3, by simp [e8], fun S => by kernel_rfl⟩
    · exact ⟨.non, by simp [e8], fun S => by kernel_rfl⟩
    · exact ⟨.tup [.str [119, 101, 97, 107]], by simp [e8]; rfl, fun S => by kernel_rfl⟩
    · exact ⟨.lst [.str [119, 101, 97, 107]], by simp [e8]; rfl, fun S => by kernel_rfl⟩
    · exact ⟨.str [101, 110, 100], by simp [e8]; rfl, fun S => by kernel_rfl⟩
  rw [exs_nx (r' := [.val (.lst (ns.map .int)), .val (.ref 0), .val (catT n A tb), .val (.str w), y4, .val x, y6, y7, .no]) (S' := S8) (by rw [q_asg, ex8]; rfl)]
  refine ⟨S8, exs_ret ?_⟩
  have et := c_told hc x hb S8
  have ew : T.eqs (.str w) (.str w) = some true := by
    rw [eqs_of rfl rfl (.inl (by simp)), eqv_refl _ rfl]
  simp [et, lkc, hw, Cmp.ev, ew]
end
end K09
end Hf
end

open PySem PySem.W PyProof.Rows
theorem PySem.Challenge.cw_henceforth_k09_stages_of_principles_in_f_holds : PySem.Challenge.rw_henceforth_k09_stages_of_principles_in_f.Holds := by
  exact Hf.L09.holds_of 20 (by decide) Hf.K09.law
