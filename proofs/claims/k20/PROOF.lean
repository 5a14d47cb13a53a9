import PyProof.Rows.All
import Wide.All
import OpenK.AllK
import Wide.FinOn
import PyProof.ReprRoads
import HandS.ForExc
import HandS.Deep
import HandS.Comp
import HandS.Iter
import HandS.Text
import HandS.TupAny
import HandS.TupMul
import HandS.TupLe
import HandS.IsInst
import HandS.WrittenGet
import HandS.Dict
import HandS.More
import HandS.Codes
import HandS.SortInts
import HandS.CallLocal
import HandS.TryMany
import HandS.ExcIs
import HandS.Conv
import KE.GoesMore
import HandS.Walk
import HandS.ExcOwn
import HandS.HeadEnd
import HandS.Defaults
import HandS.HeadHook4
import PyProof.ExcBaseAll.ValueError
import KE.KStateDown
import Lean
import HandS.Head0
import HandS.Head1
import HandS.Head2
import PySem.Challenge.RW_henceforth_k20_terms_put_in
import PyProof.ReprBulk
set_option Elab.async false
set_option linter.all false
section
/-! HfBase: tree values, a small syntax, its evaluator. Plain Lean; of the library only the text of repr. -/
namespace Hf

/-- values: what never changes is a tree; what may change stands in the store -/
inductive T where
  | non
  | bl (b : Bool)
  | int (i : Int)
  | str (s : List Nat)
  | tup (xs : List T)
  | lst (xs : List T)
  | dic (kvs : List (T × T))
  | ref (n : Nat)
  | fn (f : Nat)
  | ins (c : Nat) (fs : List (Nat × T))
  deriving Inhabited

inductive Cell where
  | lst (xs : List T)
  deriving Inhabited
abbrev Store := List Cell

/-- a name's state in a frame -/
inductive Slot where
  | no
  | val (t : T)
  | own (xs : List T)
  | inst (c : Nat) (fs : List (Nat × T))
  | exc (c : Nat)
  deriving Inhabited
abbrev Env := List Slot

inductive Res (α : Type) where
  | ok (a : α) (S : Store)
  | exn (c : Nat) (S : Store)
  | bad
  deriving Inhabited
@[inline] def Res.bind {α β : Type} (r : Res α) (k : α → Store → Res β) : Res β := match r with
  | .ok a S => k a S
  | .exn c S => .exn c S
  | .bad => .bad

inductive SRes where
  | nx (r : Env) (S : Store)
  | ret (t : T) (S : Store)
  | brk (r : Env) (S : Store)
  | cnt (r : Env) (S : Store)
  | exn (c : Nat) (r : Env) (S : Store)
  | bad
  deriving Inhabited
@[inline] def Res.toS {α : Type} (x : Res α) (r : Env) (k : α → Store → SRes) : SRes := match x with
  | .ok a S => k a S
  | .exn c S => .exn c r S
  | .bad => .bad

def noExc : Env → Bool
  | [] => true
  | .exc _ :: _ => false
  | _ :: r => noExc r
def noInst : Env → Bool
  | [] => true
  | .inst _ _ :: _ => false
  | _ :: r => noInst r
/-- a name forgotten behind an except suite; nothing is raised in it -/
def SRes.drop (i : Nat) : SRes → SRes
  | .nx r S => if noExc (r.set i .no) = true then .nx (r.set i .no) S else .bad
  | .brk r S => if noExc (r.set i .no) = true then .brk (r.set i .no) S else .bad
  | .cnt r S => if noExc (r.set i .no) = true then .cnt (r.set i .no) S else .bad
  | .exn _ _ _ => .bad
  | x => x
def SRes.hot : SRes → SRes
  | .nx r S => if noExc r = true then .nx r S else .bad
  | .brk r S => if noExc r = true then .brk r S else .bad
  | .cnt r S => if noExc r = true then .cnt r S else .bad
  | .exn _ _ _ => .bad
  | x => x

/-! ### syntax -/
inductive Op2 where | add | sub | mul | mod | fdiv
inductive Cmp where | eq | ne | lt | le | gt | ge | isin | notin
inductive Ty where | int | str | tup | lst | bool
inductive Bi where | len | abs | int | all | any | sum | max | max2 | min2 | repr
inductive Tg where | n (i : Nat) | t (is : List Nat)

inductive E where
  | k (t : T)
  | v (i : Nat)
  | g (x : List Nat) (t : T)
  | f (x : List Nat) (f : Nat)
  | tup (es : List E)
  | disp (es : List E)
  | comp (elt : E) (tg : Tg) (it : E)
  | compI (elt : E) (tg : Tg) (it : E) (c : E)
  | comp2 (elt : E) (tg : Tg) (it : E) (tg2 : Tg) (it2 : E)
  | lof (e : E)
  | lrng (e : E)
  | trng (e : E)
  | tof (e : E)
  | sorted (e : E)
  | sub (a i : E)
  | slice (a lo hi : E)
  | sliceL (a lo : E)
  | sliceR (a hi : E)
  | op (o : Op2) (a b : E)
  | cat (a b : E)
  | rep (a b : E)
  | neg (a : E)
  | cmp (c : Cmp) (a b : E)
  | chain (c d : Cmp) (a b e : E)
  | isK (neg : Bool) (a : E) (t : T)
  | and (a b : E)
  | or (a b : E)
  | not (a : E)
  | ife (c a b : E)
  | call (f : Nat) (es : List E)
  | callV (e : E) (es : List E)
  | meth (m : Nat) (e : E) (es : List E)
  | mk (c : Nat) (es : List E)
  | attr (e : E) (a : Nat)
  | bi (b : Bi) (es : List E)
  | isi (e : E) (ty : Ty)
  | isi2 (e : E) (ty ty2 : Ty)
  | isx (i : Nat) (c : Nat)
  | cell (e : E)
  | join (e : E)
  | index (a b : E)
  | setlen (elt : E) (tg : Tg) (it : E)
  | dict (ks : List T) (es : List E)
  | rng (e : E)
  | rng2 (a b : E)
  | enum (e : E)
  deriving Inhabited

inductive S where
  | asg (tg : Tg) (e : E)
  | own (i : Nat) (e : E)
  | push (i : Nat) (e : E)
  | ext (i : Nat) (e : E)
  | seti (i : Nat) (k e : E)
  | setc (a k e : E)
  | pushc (a e : E)
  | attr (i : Nat) (a : Nat) (e : E)
  | ex (e : E)
  | ret (e : E)
  | retN
  | ife (c : E) (a b : List S)
  | loop (tg : Tg) (it : E) (b : List S)
  | raise (c : Nat)
  | tryx (b : List S) (c : Nat) (h : List S)
  | tryn (b : List S) (c : Nat) (i : Nat) (h : List S)
  | tryn2 (b : List S) (c : Nat) (h : List S) (c2 : Nat) (h2 : List S) (i : Nat)
  | frz (i : Nat)
  | brk
  | cont
  | pass
  deriving Inhabited

structure FDef where
  np : Nat
  ns : Nat
  body : List S
  deriving Inhabited
/-- a program: its defs, the methods of its classes, the defs that make instances, the exceptions' order -/
structure Prog where
  defs : Nat → Option FDef
  meth : Nat → Nat → Option Nat
  init : Nat → Option FDef
  sub : Nat → Nat → Bool

/-! ### operations -/
mutual
def T.depth : T → Nat
  | .tup xs => T.depthAll xs + 1
  | .lst xs => T.depthAll xs + 1
  | _ => 0
def T.depthAll : List T → Nat
  | [] => 0
  | x :: xs => max (T.depth x) (T.depthAll xs)
end
/- data: what == may be asked of -/
mutual
def T.data : T → Bool
  | .non => true
  | .bl _ => true
  | .int _ => true
  | .str _ => true
  | .tup xs => T.dataAll xs
  | .lst xs => T.dataAll xs
  | _ => false
def T.dataAll : List T → Bool
  | [] => true
  | x :: xs => T.data x && T.dataAll xs
end
def b2i (b : Bool) : Int := if b then 1 else 0
mutual
def T.eqv : T → T → Bool
  | .non, .non => true
  | .bl a, .bl b => a == b
  | .bl a, .int j => b2i a == j
  | .int i, .bl b => i == b2i b
  | .int i, .int j => i == j
  | .str x, .str y => x == y
  | .lst xs, .lst ys => T.eqvAll xs ys
  | .tup xs, .tup ys => T.eqvAll xs ys
  | _, _ => false
def T.eqvAll : List T → List T → Bool
  | [], [] => true
  | x :: xs, y :: ys => T.eqv x y && T.eqvAll xs ys
  | _, _ => false
end
def eqLine : Nat := 60
/-- == -/
def T.eqs (a b : T) : Option Bool := if (a.data && b.data && decide (min a.depth b.depth ≤ eqLine)) = true then some (T.eqv a b) else none

def sizeLim : Nat := 16777216
/-- place i of n items, i of any sign -/
def ixN (n : Nat) (i : Int) : Option Nat := if 0 ≤ i then (if i < n then some i.toNat else none) else if -(n : Int) ≤ i then some (i + n).toNat else none
def atI {α : Type} (xs : List α) (i : Int) : Option α := (ixN xs.length i).bind fun j => xs[j]?
/-- a slice's end -/
def sIx (n : Nat) (d : Nat) (o : Option Int) : Nat := match o with
  | none => d
  | some v => if v < 0 then (v + (n : Int)).toNat else min v.toNat n
def cutL {α : Type} (xs : List α) (lo hi : Option Int) : List α := (xs.drop (sIx xs.length 0 lo)).take (sIx xs.length xs.length hi - sIx xs.length 0 lo)

def Op2.ev : Op2 → T → T → Option T
  | .add, .int i, .int j => some (.int (i + j))
  | .add, .str x, .str y => if x.length + y.length ≤ sizeLim then some (.str (x ++ y)) else none
  | .add, .tup xs, .tup ys => if xs.length + ys.length ≤ sizeLim then some (.tup (xs ++ ys)) else none
  | .sub, .int i, .int j => some (.int (i - j))
  | .mul, .int i, .int j => if -(2 ^ 64) < j ∧ j < 2 ^ 64 ∨ -(2 ^ 64) < i ∧ i < 2 ^ 64 then some (.int (i * j)) else none
  | .mul, .tup xs, .int k => if xs ≠ [] ∧ 2 ≤ k ∧ k ≤ 1000 ∧ xs.length ≤ 1000 then some (.tup (List.replicate k.toNat xs).flatten) else none
  | .mod, .int i, .int j => if 0 < j then some (.int (i % j)) else none
  | .fdiv, .int i, .int j => if 0 < j ∧ j < 1073741824 then some (.int (i / j)) else none
  | _, _, _ => none

/-- are all items of one list equal to none .. -/
def inItems (x : T) (xs : List T) : Option Bool := if (x.data && T.dataAll xs && decide (min (T.depthAll xs) x.depth ≤ eqLine)) = true then some (xs.any fun y => T.eqv y x) else none
/-- s in t, of texts -/
def infixOf (x : List Nat) : List Nat → Bool
  | [] => x.isEmpty
  | c :: r => x.isPrefixOf (c :: r) || infixOf x r
def dlook (kvs : List (T × T)) (k : List Nat) : Option T := match kvs with
  | [] => none
  | (.str x, v) :: r => if x = k then some v else dlook r k
  | _ :: r => dlook r k
def T.isin (x y : T) : Option Bool := match y with
  | .lst xs => inItems x xs
  | .tup xs => inItems x xs
  | .str t => (match x with
    | .str s => (match s with
      | [c] => some (t.contains c)
      | _ => none)
    | _ => none)
  | .dic kvs => (match x with
    | .str s => some (dlook kvs s).isSome
    | _ => none)
  | _ => none
def lexLt : List Nat → List Nat → Bool
  | [], [] => false
  | [], _ :: _ => true
  | _ :: _, [] => false
  | a :: r, b :: s => if a < b then true else if a = b then lexLt r s else false
def Cmp.ev : Cmp → T → T → Option Bool
  | .eq, a, b => T.eqs a b
  | .ne, a, b => (T.eqs a b).map (!·)
  | .lt, .int i, .int j => some (decide (i < j))
  | .le, .int i, .int j => some (decide (i ≤ j))
  | .gt, .int i, .int j => some (decide (j < i))
  | .ge, .int i, .int j => some (decide (j ≤ i))
  | .le, .str x, .str y => some (!lexLt y x)
  | .isin, a, b => T.isin a b
  | .notin, a, b => (T.isin a b).map (!·)
  | _, _, _ => none

def T.isK (x k : T) : Option Bool := match k with
  | .non => some (match x with
    | .non => true
    | _ => false)
  | .bl b => some (match x with
    | .bl c => b == c
    | _ => false)
  | _ => none

def Ty.ev : Ty → T → Option Bool
  | .int, .int _ => some true
  | .int, .bl _ => some true
  | .bool, .bl _ => some true
  | .str, .str _ => some true
  | .tup, .tup _ => some true
  | .lst, .lst _ => some true
  | _, .fn _ => none
  | _, .ins _ _ => none
  | _, .dic _ => none
  | _, .ref _ => none
  | _, _ => some false

def boolsOf : List T → Option (List Bool)
  | [] => some []
  | .bl b :: r => (boolsOf r).map (b :: ·)
  | _ => none
def intsOf : List T → Option (List Int)
  | [] => some []
  | .int i :: r => (intsOf r).map (i :: ·)
  | _ => none
/-! trees as data -/
mutual
def T.py : T → PySem.PyData
  | .non => .none
  | .bl b => .bool b
  | .int i => .int i
  | .str s => .str ⟨s.toArray⟩
  | .tup xs => .tuple (T.pys xs)
  | .lst xs => .list (T.pys xs)
  | _ => .none
def T.pys : List T → List PySem.PyData
  | [] => []
  | x :: xs => T.py x :: T.pys xs
end
def T.seq : T → Bool
  | .tup _ => true
  | .lst _ => true
  | _ => false
/-- the text of repr -/
def T.show (x : T) : List Nat := x.py.shown.cps.toList
def T.showable (x : T) : Bool := x.seq && x.data && x.py.showable && decide (x.depth ≤ eqLine) && decide (x.show.length ≤ sizeLim) && x.show.all fun c => decide (c < 0x110000)

def Bi.ev : Bi → List T → Option T
  | .len, [.str s] => some (.int s.length)
  | .len, [.tup xs] => some (.int xs.length)
  | .len, [.lst xs] => some (.int xs.length)
  | .abs, [.int i] => some (.int (if i < 0 then -i else i))
  | .int, [.int i] => some (.int i)
  | .int, [.bl b] => some (.int (b2i b))
  | .all, [.lst xs] => (boolsOf xs).map fun bs => .bl (bs.all id)
  | .any, [.lst xs] => (boolsOf xs).map fun bs => .bl (bs.any id)
  | .sum, [.lst xs] => (intsOf xs).map fun is => .int is.sum
  | .max, [.lst xs] => (intsOf xs).bind fun is => is.max?.map .int
  | .max2, [.int i, .int j] => some (.int (if j > i then j else i))
  | .min2, [.int i, .int j] => some (.int (if j < i then j else i))
  | .repr, [x] => if x.showable = true then some (.str x.show) else none
  | _, _ => none

/-- the store's own words -/
def look (S : Store) : T → T
  | .ref n => (match S[n]? with
    | some (.lst xs) => .lst xs
    | none => .ref n)
  | t => t
/-- items that a for walks -/
def T.items : T → Option (List T)
  | .lst xs => some xs
  | .tup xs => some xs
  | .str s => some (s.map fun c => .str [c])
  | _ => none
def T.subI (x i : T) : Option T := match x, i with
  | .lst xs, .int i => atI xs i
  | .tup xs, .int i => atI xs i
  | .str s, .int i => (atI s i).map fun c => .str [c]
  | .dic kvs, .str k => dlook kvs k
  | _, _ => none
def T.cut (x : T) (lo hi : Option Int) : Option T := match x with
  | .lst xs => some (.lst (cutL xs lo hi))
  | .tup xs => some (.tup (cutL xs lo hi))
  | .str s => some (.str (cutL s lo hi))
  | _ => none
def T.attr (x : T) (a : Nat) : Option T := match x with
  | .ins _ fs => fs.lookup a
  | _ => none
def idxOf (x : T) : List T → Nat → Option Nat
  | [], _ => none
  | y :: r, n => if T.eqv y x = true then some n else idxOf x r (n + 1)
def T.index (x y : T) : Option T := match x with
  | .lst xs => if (y.data && T.dataAll xs && decide (T.depthAll xs < eqLine) && decide (y.depth ≤ eqLine)) = true then (idxOf y xs 0).map fun (n : Nat) => T.int (n : Int) else none
  | _ => none
def joined : List T → Option (List Nat)
  | [] => some []
  | .str s :: r => (joined r).map (s ++ ·)
  | _ => none
def rangeL (lo hi : Int) : List T := (List.range (hi - lo).toNat).map fun (k : Nat) => T.int (lo + (k : Int))
def enumL : Nat → List T → List T
  | _, [] => []
  | n, x :: r => .tup [.int n, x] :: enumL (n + 1) r
/-- ascending insertion of intsOf, and sorting by it -/
def insI (i : Int) : List Int → List Int
  | [] => [i]
  | j :: r => if i ≤ j then i :: j :: r else j :: insI i r
def sortI (is : List Int) : List Int := is.foldr insI []
def T.sorted (x : T) : Option T := match x with
  | .lst xs => (intsOf xs).map fun is => .lst ((sortI is).map .int)
  | _ => none
/-- how many unlike items -/
def unlike : List T → Nat
  | [] => 0
  | x :: r => (if r.any (fun y => T.eqv y x) then 0 else 1) + unlike r

@[inline] def Res.of {α : Type} (o : Option α) (S : Store) : Res α := match o with
  | some a => .ok a S
  | none => .bad

/-- the reading of a part that is looked at only: an own list as it stands -/
def view (r : Env) (e : E) (S : Store) (x : Res T) : Res T := match e with
  | .v i => (match r[i]? with
    | some (.own xs) => .ok (.lst xs) S
    | some (.inst c fs) => .ok (.ins c fs) S
    | some (.val t) => .ok t S
    | _ => .bad)
  | _ => x
mutual
def T.beq : T → T → Bool
  | .non, .non => true
  | .bl a, .bl b => a == b
  | .int i, .int j => i == j
  | .str x, .str y => x == y
  | .lst xs, .lst ys => T.beqAll xs ys
  | .tup xs, .tup ys => T.beqAll xs ys
  | .ref n, .ref m => n == m
  | .fn n, .fn m => n == m
  | .dic xs, .dic ys => T.beqKs xs ys
  | _, _ => false
def T.beqAll : List T → List T → Bool
  | [], [] => true
  | x :: xs, y :: ys => T.beq x y && T.beqAll xs ys
  | _, _ => false
def T.beqKs : List (T × T) → List (T × T) → Bool
  | [], [] => true
  | (k, x) :: xs, (l, y) :: ys => T.beq k l && T.beq x y && T.beqKs xs ys
  | _, _ => false
end
/-- what is walked still stands as it stood -/
def still (c : T) (xs : List T) (S : Store) : Bool := match c with
  | .ref n => (match S[n]? with
    | some (.lst ys) => T.beqAll xs ys
    | none => false)
  | _ => true

def bindTs : List Nat → List T → Env → Option Env
  | [], [], r => some r
  | i :: is, x :: xs, r => bindTs is xs (r.set i (.val x))
  | _, _, _ => none
def Tg.slots : Tg → List Nat
  | .n i => [i]
  | .t is => is
/-- slots forgotten -/
def wipeE (r : Env) : List Nat → Env
  | [] => r
  | v :: vs => (wipeE r vs).set v .no
def bindT (tg : Tg) (x : T) (r : Env) : Option Env := match tg with
  | .n i => some (r.set i (.val x))
  | .t is => (match x with
    | .tup xs => bindTs is xs r
    | _ => none)

/-- the loop of a comprehension: f gives an item, or none where its test falls -/
def compLoop (g : Store → Bool) (f : T → Store → Res (Option T)) : List T → Store → Res (List T)
  | [], S => .ok [] S
  | x :: r, S => (match f x S with
    | .ok o S' => if g S' = true then (compLoop g f r S').bind fun ys S'' => .ok (match o with
      | some y => y :: ys
      | none => ys) S'' else .bad
    | _ => .bad)
def compLoop2 (g : Store → Bool) (f : T → Store → Res (List T)) : List T → Store → Res (List T)
  | [], S => .ok [] S
  | x :: r, S => (match f x S with
    | .ok zs S' => if g S' = true then (compLoop2 g f r S').bind fun ys S'' => .ok (zs ++ ys) S'' else .bad
    | _ => .bad)
def forLoop (g : Store → Bool) (f : T → Env → Store → SRes) : List T → Env → Store → SRes
  | [], r, S => .nx r S
  | x :: l, r, S => (match f x r S with
    | .nx r' S' => if g S' = true then forLoop g f l r' S' else .bad
    | .cnt r' S' => if g S' = true then forLoop g f l r' S' else .bad
    | .brk r' S' => .nx r' S'
    | .ret t S' => .ret t S'
    | .exn c r' S' => .exn c r' S'
    | .bad => .bad)

/-- what is walked, and its items -/
def itM (x : Res T) : Res (T × List T) := x.bind fun c S => match (look S c).items with
  | some xs => .ok (c, xs) S
  | none => .bad
def toB0 (x : Res T) : Res Bool := x.bind fun t S => match t with
  | .bl b => .ok b S
  | _ => .bad
/-! ### the evaluator -/
section
variable (P : Prog) (cf : Nat → List T → Store → Res T) (mk : Nat → List T → Store → Res T)
def asB (t : T) (S : Store) (k : Bool → Store → Res T) : Res T := match t with
  | .bl b => k b S
  | _ => .bad
def asI (t : T) (S : Store) (k : Int → Store → Res T) : Res T := match t with
  | .int i => k i S
  | _ => .bad
mutual
def ev (r : Env) : E → Store → Res T
  | .k t, S => .ok t S
  | .v i, S => (match r[i]? with
    | some (.val t) => .ok t S
    | _ => .bad)
  | .g _ t, S => .ok t S
  | .f _ f, S => .ok (.fn f) S
  | .tup es, S => (evs r es S).bind fun xs S => .ok (.tup xs) S
  | .disp es, S => (evs r es S).bind fun xs S => .ok (.lst xs) S
  | .comp elt tg it, S => (itM (view r it S (ev r it S))).bind fun p S => (compLoop (still p.1 p.2) (fun x S => match bindT tg x (wipeE r tg.slots) with
      | some r' => (ev r' elt S).bind fun y S => .ok (some y) S
      | none => .bad) p.2 S).bind fun ys S => .ok (.lst ys) S
  | .compI elt tg it t, S => (itM (view r it S (ev r it S))).bind fun p S => (compLoop (still p.1 p.2) (fun x S => match bindT tg x (wipeE r tg.slots) with
      | some r' => (toB0 (ev r' t S)).bind fun b S => if b = true then (ev r' elt S).bind fun y S => .ok (some y) S else .ok none S
      | none => .bad) p.2 S).bind fun ys S => .ok (.lst ys) S
  | .comp2 elt tg it tg2 it2, S => (itM (view r it S (ev r it S))).bind fun p S => (compLoop2 (still p.1 p.2) (fun x S => match bindT tg x (wipeE r (tg.slots ++ tg2.slots)) with
      | some r' => (itM (view r' it2 S (ev r' it2 S))).bind fun p2 S => compLoop (still p2.1 p2.2) (fun x2 S => match bindT tg2 x2 (wipeE r' tg2.slots) with
          | some r'' => (ev r'' elt S).bind fun y S => .ok (some y) S
          | none => .bad) p2.2 S
      | none => .bad) p.2 S).bind fun ys S => .ok (.lst ys) S
  | .lof e, S => (view r e S (ev r e S)).bind fun c S => (match look S c with
    | .lst xs => .ok (.lst xs) S
    | .tup xs => .ok (.lst xs) S
    | _ => .bad)
  | .tof e, S => (view r e S (ev r e S)).bind fun c S => (match look S c with
    | .lst xs => .ok (.tup xs) S
    | .tup xs => .ok (.tup xs) S
    | _ => .bad)
  | .lrng e, S => (ev r e S).bind fun x S => asI x S fun i S => if i ≤ 16777216 ∧ -16777216 ≤ i then .ok (.lst (rangeL 0 i)) S else .bad
  | .trng e, S => (ev r e S).bind fun x S => asI x S fun i S => if i ≤ 16777216 ∧ -16777216 ≤ i then .ok (.tup (rangeL 0 i)) S else .bad
  | .sorted e, S => (view r e S (ev r e S)).bind fun c S => Res.of (look S c).sorted S
  | .sub a i, S => (view r a S (ev r a S)).bind fun x S => (ev r i S).bind fun y S => Res.of ((look S x).subI y) S
  | .slice a lo hi, S => (view r a S (ev r a S)).bind fun x S => (ev r lo S).bind fun l S => asI l S fun l S => (ev r hi S).bind fun h S => asI h S fun h S => Res.of ((look S x).cut (some l) (some h)) S
  | .sliceL a lo, S => (view r a S (ev r a S)).bind fun x S => (ev r lo S).bind fun l S => asI l S fun l S => Res.of ((look S x).cut (some l) none) S
  | .sliceR a hi, S => (view r a S (ev r a S)).bind fun x S => (ev r hi S).bind fun h S => asI h S fun h S => Res.of ((look S x).cut none (some h)) S
  | .op o a b, S => (ev r a S).bind fun x S => (ev r b S).bind fun y S => Res.of (o.ev x y) S
  | .cat a b, S => (view r a S (ev r a S)).bind fun x S => (view r b S (ev r b S)).bind fun y S => (match look S x, look S y with
    | .lst xs, .lst ys => if xs.length + ys.length ≤ sizeLim then .ok (.lst (xs ++ ys)) S else .bad
    | _, _ => .bad)
  | .rep a b, S => (view r a S (ev r a S)).bind fun x S => (ev r b S).bind fun y S => (match look S x, y with
    | .lst xs, .int k => if -(2 ^ 63) ≤ k ∧ k < 2 ^ 63 ∧ xs.length * k.toNat ≤ sizeLim then .ok (.lst (List.replicate k.toNat xs).flatten) S else .bad
    | _, _ => .bad)
  | .neg a, S => (ev r a S).bind fun x S => asI x S fun i S => .ok (.int (-i)) S
  | .cmp c a b, S => (view r a S (ev r a S)).bind fun x S => (view r b S (ev r b S)).bind fun y S => Res.of ((c.ev (look S x) (look S y)).map .bl) S
  | .chain c d a b e, S => (ev r a S).bind fun x S => (ev r b S).bind fun y S => (match c.ev x y with
    | some true => (ev r e S).bind fun z S => Res.of ((d.ev y z).map .bl) S
    | some false => .ok (.bl false) S
    | none => .bad)
  | .isK n a t, S => (ev r a S).bind fun x S => Res.of ((x.isK t).map fun b => .bl (b != n)) S
  | .and a b, S => (ev r a S).bind fun x S => asB x S fun c S => if c = true then (ev r b S).bind fun y S => asB y S fun d S => .ok (.bl d) S else .ok (.bl false) S
  | .or a b, S => (ev r a S).bind fun x S => asB x S fun c S => if c = true then .ok (.bl true) S else (ev r b S).bind fun y S => asB y S fun d S => .ok (.bl d) S
  | .not a, S => (ev r a S).bind fun x S => asB x S fun c S => .ok (.bl (!c)) S
  | .ife c a b, S => (ev r c S).bind fun x S => asB x S fun c S => if c = true then ev r a S else ev r b S
  | .call f es, S => (evs r es S).bind fun xs S => cf f xs S
  | .callV e es, S => (ev r e S).bind fun x S => (match x with
    | .fn f => (evs r es S).bind fun xs S => cf f xs S
    | _ => .bad)
  | .meth m e es, S => (ev r e S).bind fun x S => (match x with
    | .ins c _ => (match P.meth c m with
      | some f => (evs r es S).bind fun xs S => cf f (x :: xs) S
      | none => .bad)
    | _ => .bad)
  | .mk c es, S => (evs r es S).bind fun xs S => mk c xs S
  | .attr e a, S => (view r e S (ev r e S)).bind fun x S => Res.of (x.attr a) S
  | .bi b es, S => (evVs r es S).bind fun xs S => Res.of (b.ev (xs.map (look S))) S
  | .isi e ty, S => (view r e S (ev r e S)).bind fun x S => Res.of ((ty.ev (look S x)).map .bl) S
  | .isi2 e ty ty2, S => (view r e S (ev r e S)).bind fun x S => Res.of ((ty.ev (look S x)).bind fun a => (ty2.ev (look S x)).map fun b => .bl (a || b)) S
  | .isx i c, S => (match r[i]? with
    | some (.exc d) => .ok (.bl (P.sub d c)) S
    | _ => .bad)
  | .cell e, S => (ev r e S).bind fun x S => (match x with
    | .lst xs => .ok (.ref S.length) (S ++ [.lst xs])
    | _ => .bad)
  | .join e, S => (view r e S (ev r e S)).bind fun x S => (match look S x with
    | .lst xs => (match joined xs with
      | some z => if z.length ≤ sizeLim then .ok (.str z) S else .bad
      | none => .bad)
    | _ => .bad)
  | .index a b, S => (view r a S (ev r a S)).bind fun x S => (ev r b S).bind fun y S => Res.of ((look S x).index y) S
  | .setlen elt tg it, S => (itM (view r it S (ev r it S))).bind fun p S => (compLoop (still p.1 p.2) (fun x S => match bindT tg x (wipeE r tg.slots) with
      | some r' => (ev r' elt S).bind fun y S => .ok (some y) S
      | none => .bad) p.2 S).bind fun ys S => .ok (.int (unlike ys)) S
  | .dict ks es, S => (evs r es S).bind fun xs S => .ok (.dic (ks.zip xs)) S
  | .rng e, S => (ev r e S).bind fun x S => asI x S fun i S => if i ≤ 16777216 ∧ -(2 ^ 60) < i then .ok (.lst (rangeL 0 i)) S else .bad
  | .rng2 a b, S => (ev r a S).bind fun x S => (ev r b S).bind fun y S => asI x S fun i S => asI y S fun j S => if (-(2 ^ 60) < i ∧ i < 2 ^ 60) ∧ -(2 ^ 60) < j ∧ j < 2 ^ 60 ∧ j - i ≤ 16777216 then .ok (.lst (rangeL i j)) S else .bad
  | .enum e, S => (ev r e S).bind fun c S => (match c with
    | .lst xs => .ok (.lst (enumL 0 xs)) S
    | .tup xs => .ok (.lst (enumL 0 xs)) S
    | _ => .bad)
def evs (r : Env) : List E → Store → Res (List T)
  | [], S => .ok [] S
  | e :: es, S => (ev r e S).bind fun x S => (evs r es S).bind fun xs S => .ok (x :: xs) S
def evVs (r : Env) : List E → Store → Res (List T)
  | [], S => .ok [] S
  | e :: es, S => (view r e S (ev r e S)).bind fun x S => (evVs r es S).bind fun xs S => .ok (x :: xs) S
end

def ownAt (r : Env) (i : Nat) : Option (List T) := match r[i]? with
  | some (.own xs) => some xs
  | _ => none
def putFs (a : Nat) (t : T) : List (Nat × T) → List (Nat × T)
  | [] => [(a, t)]
  | (b, u) :: r => if b = a then (a, t) :: r else (b, u) :: putFs a t r
mutual
def ex : S → Env → Store → SRes
  | .asg tg e, r, S => (ev P cf mk r e S).toS r fun t S => (match bindT tg t r with
    | some r' => .nx r' S
    | none => .bad)
  | .own i e, r, S => (ev P cf mk r e S).toS r fun t S => (match t with
    | .lst xs => .nx (r.set i (.own xs)) S
    | _ => .bad)
  | .push i e, r, S => (match ownAt r i with
    | some xs => (ev P cf mk r e S).toS r fun t S => if xs.length < sizeLim then .nx (r.set i (.own (xs ++ [t]))) S else .bad
    | none => .bad)
  | .ext i e, r, S => (match ownAt r i with
    | some xs => (ev P cf mk r e S).toS r fun t S => (match t with
      | .lst ys => if xs.length + ys.length ≤ sizeLim then .nx (r.set i (.own (xs ++ ys))) S else .bad
      | _ => .bad)
    | none => .bad)
  | .seti i k e, r, S => (ev P cf mk r e S).toS r fun t S => (match ownAt r i with
    | some xs => (ev P cf mk r k S).toS r fun y S => (match y with
      | .int z => (match ixN xs.length z with
        | some j => .nx (r.set i (.own (xs.set j t))) S
        | none => .bad)
      | _ => .bad)
    | none => .bad)
  | .setc a k e, r, S => (ev P cf mk r e S).toS r fun t S => (ev P cf mk r a S).toS r fun x S => (ev P cf mk r k S).toS r fun y S => (match x, y with
    | .ref n, .int z => (match S[n]? with
      | some (.lst xs) => (match ixN xs.length z with
        | some j => .nx r (S.set n (.lst (xs.set j t)))
        | none => .bad)
      | _ => .bad)
    | _, _ => .bad)
  | .pushc a e, r, S => (ev P cf mk r a S).toS r fun x S => (match x with
    | .ref n => (ev P cf mk r e S).toS r fun t S => (match S[n]? with
      | some (.lst xs) => if xs.length < sizeLim then .nx r (S.set n (.lst (xs ++ [t]))) else .bad
      | _ => .bad)
    | _ => .bad)
  | .attr i a e, r, S => (ev P cf mk r e S).toS r fun t S => (match r[i]? with
    | some (.inst c fs) => if fs.length < 500 ∧ noInst (r.set i .no) = true then .nx (r.set i (.inst c (putFs a t fs))) S else .bad
    | _ => .bad)
  | .ex e, r, S => (ev P cf mk r e S).toS r fun _ S => .nx r S
  | .ret e, r, S => (ev P cf mk r e S).toS r fun t S => .ret t S
  | .retN, _, S => .ret .non S
  | .ife c a b, r, S => (ev P cf mk r c S).toS r fun x S => (match x with
    | .bl true => exs a r S
    | .bl false => exs b r S
    | _ => .bad)
  | .loop tg it b, r, S => (itM (ev P cf mk r it S)).toS r fun p S => forLoop (still p.1 p.2) (fun x r S => match bindT tg x r with
      | some r' => exs b r' S
      | none => .bad) p.2 r S
  | .raise c, r, S => .exn c r S
  | .tryx b c h, r, S => (match exs b r S with
    | .exn d r' S' => if P.sub d c = true then (exs h r' S').hot else .exn d r' S'
    | x => x)
  | .tryn b c i h, r, S => (match exs b r S with
    | .exn d r' S' => if P.sub d c = true then (exs h (r'.set i (.exc d)) S').drop i else .exn d r' S'
    | x => x)
  | .tryn2 b c h c2 h2 i, r, S => (match exs b r S with
    | .exn d r' S' => if P.sub d c = true then (exs h (r'.set i (.exc d)) S').drop i
      else if P.sub d c2 = true then (exs h2 (r'.set i (.exc d)) S').drop i else .exn d r' S'
    | x => x)
  | .frz i, r, S => (match ownAt r i with
    | some xs => .nx (r.set i (.val (.lst xs))) S
    | none => .nx r S)
  | .brk, r, S => .brk r S
  | .cont, r, S => .cnt r S
  | .pass, r, S => .nx r S
def exs : List S → Env → Store → SRes
  | [], r, S => .nx r S
  | s :: l, r, S => (match ex s r S with
    | .nx r' S' => exs l r' S'
    | x => x)
end
end

theorem ev_k (P : Prog) (cf mk : Nat → List T → Store → Res T) (r : Env) (t : T) (S : Store) : ev P cf mk r (.k t) S = .ok t S := by simp only [ev]
theorem evs_nil (P : Prog) (cf mk : Nat → List T → Store → Res T) (r : Env) (S : Store) : evs P cf mk r [] S = .ok [] S := by simp only [evs]
theorem evVs_nil (P : Prog) (cf mk : Nat → List T → Store → Res T) (r : Env) (S : Store) : evVs P cf mk r [] S = .ok [] S := by simp only [evVs]
theorem ex_pass (P : Prog) (cf mk : Nat → List T → Store → Res T) (r : Env) (S : Store) : ex P cf mk .pass r S = .nx r S := by simp only [ex]
theorem exs_nil (P : Prog) (cf mk : Nat → List T → Store → Res T) (r : Env) (S : Store) : exs P cf mk [] r S = .nx r S := by simp only [exs]
/-- a body run to its end -/
def SRes.fin : SRes → Res T
  | .nx _ S => .ok .non S
  | .ret t S => .ok t S
  | .exn c _ S => .exn c S
  | _ => .bad
def startE (d : FDef) (xs : List T) : Env := xs.map .val ++ List.replicate (d.ns - xs.length) .no
def runF (P : Prog) (cf mk : Nat → List T → Store → Res T) (d : FDef) (xs : List T) (S : Store) : Res T :=
  if xs.length = d.np then (exs P cf mk d.body (startE d xs) S).fin else .bad
/-- a new instance, frozen behind its making -/
def runI (P : Prog) (cf mk : Nat → List T → Store → Res T) (c : Nat) (d : FDef) (xs : List T) (S : Store) : Res T :=
  if xs.length + 1 = d.np then (match exs P cf mk d.body (Slot.inst c [] :: startE { d with ns := d.ns - 1 } xs) S with
    | .nx r S' => (match r[0]? with
      | some (Slot.inst c' fs) => .ok (.ins c' fs) S'
      | _ => .bad)
    | .exn e _ S' => .exn e S'
    | _ => .bad) else .bad
mutual
def call (P : Prog) : Nat → Nat → List T → Store → Res T
  | 0, _, _, _ => .bad
  | n + 1, f, xs, S => (match P.defs f with
    | some d => runF P (call P n) (make P n) d xs S
    | none => .bad)
def make (P : Prog) : Nat → Nat → List T → Store → Res T
  | 0, _, _, _ => .bad
  | n + 1, c, xs, S => (match P.init c with
    | some d => runI P (call P n) (make P n) c d xs S
    | none => .bad)
end
end Hf
end

section
set_option Elab.async false
set_option linter.all false
set_option maxRecDepth 100000
/-! HfRep: how trees and the store stand in the layer's heap. -/
namespace Hf
open PySem PySem.Spec PyProof.Rows L2

/-- what is told of the text: addresses of defs, classes, the attributes' names; the exceptions at hand -/
structure D where
  K : PySem.W.Frag
  w : World
  fa : Nat → Option Addr
  ca : Nat → Option Addr
  xa : Nat → Option Addr
  an : Nat → Str
  as : List Nat
  pn : List (Addr × Nat)
  sf : Option Addr
/-- ghosts: what never changes, the cells -/
structure Gh where
  I : Hp
  mu : List Addr

abbrev sk (s : List Nat) : Str := ⟨s.toArray⟩
/-- the value of a text key -/
def dlookV : List T → List V → List Nat → Option V
  | .str x :: ks, v :: vs, z => if x = z then some v else dlookV ks vs z
  | _ :: ks, _ :: vs, z => dlookV ks vs z
  | _, _, _ => none
/-- a dict with these text keys at a -/
def DicAt (d : D) (H : Hp) (a : Addr) (ks : List T) (vs : List V) : Prop :=
  (∃ kvs, H a = some (.dK kvs) ∧ ∀ z, valV kvs (Sum.inr (sk z) : Key) = dlookV ks vs z) ∨
  ∃ es n, KDict d.K d.w a es n ∧ ∀ z, ∃ r, PySem.W.nsIn d.K a (sk z) = some r ∧ RelO (dlookV ks vs z) r

mutual
def RepV (d : D) (G : Gh) : T → V → Prop
  | .non, v => v = .non
  | .bl b, v => v = .bl b
  | .int i, v => v = .int i
  | .str s, v => v = .str (sk s) ∧ s.length ≤ sizeLine ∧ (s.all fun c => decide (c < 0x110000)) = true
  | .tup xs, v => ∃ a vs, v = .ref a ∧ SqT d.K G.I a vs ∧ vs.length ≤ sizeLine ∧ RepAll d G xs vs
  | .lst xs, v => ∃ a vs, v = .ref a ∧ L2.Rd G.I a (.lst vs) ∧ vs.length ≤ sizeLine ∧ RepAll d G xs vs
  | .dic kvs, v => ∃ a vs, v = .ref a ∧ DicAt d G.I a (kvs.map (·.1)) vs ∧ RepKs d G kvs vs
  | .ref n, v => ∃ a, v = .ref a ∧ G.mu[n]? = some a
  | .fn f, v => ∃ a, v = .ref a ∧ d.fa f = some a
  | .ins c fs, v => ∃ a C dx ws, v = .ref a ∧ d.ca c = some C ∧ G.I a = some (.ins C dx ws) ∧ G.I dx = some (.own a) ∧ RepFs d G fs ws
def RepAll (d : D) (G : Gh) : List T → List V → Prop
  | [], [] => True
  | x :: xs, v :: vs => RepV d G x v ∧ RepAll d G xs vs
  | _, _ => False
def RepKs (d : D) (G : Gh) : List (T × T) → List V → Prop
  | [], [] => True
  | (_, x) :: xs, v :: vs => RepV d G x v ∧ RepKs d G xs vs
  | _, _ => False
def RepFs (d : D) (G : Gh) : List (Nat × T) → List (Str × V) → Prop
  | [], [] => True
  | (n, x) :: xs, (f, v) :: vs => (f = d.an n ∧ n ∈ d.as) ∧ RepV d G x v ∧ RepFs d G xs vs
  | _, _ => False
end

/-- more is known -/
structure Le (G G' : Gh) : Prop where
  I : ∀ a o, G.I a = some o → G'.I a = some o
  mu : ∃ l, G'.mu = G.mu ++ l
theorem Le.refl (G : Gh) : Le G G := ⟨fun _ _ h => h, [], by simp⟩
theorem Le.trans {G G1 G2 : Gh} (a : Le G G1) (b : Le G1 G2) : Le G G2 := by
  obtain ⟨l, e⟩ := a.mu
  obtain ⟨m, e2⟩ := b.mu
  exact ⟨fun x o h => b.I x o (a.I x o h), l ++ m, by rw [e2, e, List.append_assoc]⟩
theorem Le.mu_get {G G' : Gh} (h : Le G G') {n : Nat} {a : Addr} (e : G.mu[n]? = some a) : G'.mu[n]? = some a := by
  obtain ⟨l, q⟩ := h.mu
  rw [q, List.getElem?_append_left (List.getElem?_eq_some_iff.mp e).1]
  exact e
theorem Rd.le {G G' : Gh} (h : Le G G') {a : Addr} {u : HO} (r : L2.Rd G.I a u) : L2.Rd G'.I a u := by
  rcases r with r | ⟨o, r⟩
  · exact .inl (h.I _ _ r)
  · exact .inr ⟨o, h.I _ _ r⟩
theorem SqL.le {G G' : Gh} (h : Le G G') {K : PySem.W.Frag} {a : Addr} {vs : List V} (r : SqL K G.I a vs) : SqL K G'.I a vs := by
  rcases r with r | r
  · exact .inl (Rd.le h r)
  · exact .inr r
theorem SqT.le {G G' : Gh} (h : Le G G') {K : PySem.W.Frag} {a : Addr} {vs : List V} (r : SqT K G.I a vs) : SqT K G'.I a vs := by
  rcases r with r | r
  · exact .inl (Rd.le h r)
  · exact .inr r
theorem DicAt.le {G G' : Gh} (h : Le G G') {d : D} {a : Addr} {ks : List T} {vs : List V} (r : DicAt d G.I a ks vs) : DicAt d G'.I a ks vs := by
  rcases r with ⟨kvs, r, e⟩ | r
  · exact .inl ⟨kvs, h.I _ _ r, e⟩
  · exact .inr r
mutual
theorem RepV.le {d : D} {G G' : Gh} (h : Le G G') : ∀ (t : T) {v : V}, RepV d G t v → RepV d G' t v
  | .non, _, r => r
  | .bl _, _, r => r
  | .int _, _, r => r
  | .str _, _, r => r
  | .tup xs, _, r => by
    obtain ⟨a, vs, e, q, z, r⟩ := r
    exact ⟨a, vs, e, SqT.le h q, z, RepAll.le h xs r⟩
  | .lst xs, _, r => by
    obtain ⟨a, vs, e, q, z, r⟩ := r
    exact ⟨a, vs, e, Rd.le h q, z, RepAll.le h xs r⟩
  | .dic kvs, _, r => by
    obtain ⟨a, vs, e, q, r⟩ := r
    exact ⟨a, vs, e, q.le h, RepKs.le h kvs r⟩
  | .ref _, _, r => by
    obtain ⟨a, e, q⟩ := r
    exact ⟨a, e, h.mu_get q⟩
  | .fn _, _, r => r
  | .ins c fs, _, r => by
    obtain ⟨a, C, dx, ws, e, q, i, j, r⟩ := r
    exact ⟨a, C, dx, ws, e, q, h.I _ _ i, h.I _ _ j, RepFs.le h fs r⟩
theorem RepAll.le {d : D} {G G' : Gh} (h : Le G G') : ∀ (xs : List T) {vs : List V}, RepAll d G xs vs → RepAll d G' xs vs
  | [], [], r => r
  | _ :: _, [], r => r
  | [], _ :: _, r => r
  | x :: xs, _ :: _, r => ⟨RepV.le h x r.1, RepAll.le h xs r.2⟩
theorem RepKs.le {d : D} {G G' : Gh} (h : Le G G') : ∀ (xs : List (T × T)) {vs : List V}, RepKs d G xs vs → RepKs d G' xs vs
  | [], [], r => r
  | _ :: _, [], r => r
  | [], _ :: _, r => r
  | (_, x) :: xs, _ :: _, r => ⟨RepV.le h x r.1, RepKs.le h xs r.2⟩
theorem RepFs.le {d : D} {G G' : Gh} (h : Le G G') : ∀ (xs : List (Nat × T)) {vs : List (Str × V)}, RepFs d G xs vs → RepFs d G' xs vs
  | [], [], r => r
  | _ :: _, [], r => r
  | [], _ :: _, r => r
  | (_, x) :: xs, (_, _) :: _, r => ⟨r.1, RepV.le h x r.2.1, RepFs.le h xs r.2.2⟩
end
theorem RepAll.length {d : D} {G : Gh} : ∀ {xs : List T} {vs : List V}, RepAll d G xs vs → xs.length = vs.length
  | [], [], _ => rfl
  | _ :: xs, _ :: vs, r => congrArg (· + 1) (RepAll.length r.2)
theorem RepAll.get {d : D} {G : Gh} : ∀ {xs : List T} {vs : List V} {i : Nat} {t : T}, RepAll d G xs vs → xs[i]? = some t → ∃ v, vs[i]? = some v ∧ RepV d G t v
  | [], _, _, _, _, e => by simp at e
  | x :: xs, v :: vs, 0, t, r, e => by
    simp at e; subst e
    exact ⟨v, rfl, r.1⟩
  | x :: xs, v :: vs, i + 1, t, r, e => by
    obtain ⟨u, h1, h2⟩ := RepAll.get (i := i) (t := t) r.2 (by simpa using e)
    exact ⟨u, by simpa using h1, h2⟩
theorem RepAll.getV {d : D} {G : Gh} {xs : List T} {vs : List V} {i : Nat} {v : V} (r : RepAll d G xs vs) (e : vs[i]? = some v) : ∃ t, xs[i]? = some t ∧ RepV d G t v := by
  have h := (List.getElem?_eq_some_iff.mp e).1
  rw [← r.length] at h
  obtain ⟨u, h1, h2⟩ := r.get (i := i) (t := xs[i]) (by simp [h])
  rw [h1] at e; cases e
  exact ⟨xs[i], by simp [h], h2⟩
theorem RepAll.append {d : D} {G : Gh} : ∀ {xs ys : List T} {vs ws : List V}, RepAll d G xs vs → RepAll d G ys ws → RepAll d G (xs ++ ys) (vs ++ ws)
  | [], _, [], _, _, s => s
  | x :: xs, ys, v :: vs, ws, r, s => ⟨r.1, RepAll.append r.2 s⟩
theorem RepAll.take {d : D} {G : Gh} : ∀ {xs : List T} {vs : List V} (n : Nat), RepAll d G xs vs → RepAll d G (xs.take n) (vs.take n)
  | _, _, 0, _ => by simp [RepAll]
  | [], [], _ + 1, r => r
  | x :: xs, v :: vs, n + 1, r => ⟨r.1, RepAll.take n r.2⟩
theorem RepAll.drop {d : D} {G : Gh} : ∀ {xs : List T} {vs : List V} (n : Nat), RepAll d G xs vs → RepAll d G (xs.drop n) (vs.drop n)
  | _, _, 0, r => r
  | [], [], _ + 1, r => r
  | x :: xs, v :: vs, n + 1, r => RepAll.drop n r.2
theorem RepAll.set {d : D} {G : Gh} {t : T} {v : V} (q : RepV d G t v) : ∀ {xs : List T} {vs : List V} (i : Nat), RepAll d G xs vs → RepAll d G (xs.set i t) (vs.set i v)
  | [], [], _, r => r
  | x :: xs, w :: vs, 0, r => ⟨q, r.2⟩
  | x :: xs, w :: vs, i + 1, r => ⟨r.1, RepAll.set q i r.2⟩
theorem RepAll.replicate {d : D} {G : Gh} {xs : List T} {vs : List V} (r : RepAll d G xs vs) : ∀ n : Nat, RepAll d G (List.replicate n xs).flatten (List.replicate n vs).flatten
  | 0 => True.intro
  | n + 1 => by
    rw [List.replicate_succ, List.replicate_succ, List.flatten_cons, List.flatten_cons]
    exact r.append (RepAll.replicate r n)

/-- the store -/
structure RepS (d : D) (G : Gh) (S : Store) (H : Hp) : Prop where
  imm : ∀ a o, G.I a = some o → H a = some o
  len : S.length = G.mu.length
  cell : ∀ (n : Nat) xs, S[n]? = some (Cell.lst xs) → ∃ a vs, G.mu[n]? = some a ∧ H a = some (.lst vs) ∧ vs.length ≤ sizeLine ∧ RepAll d G xs vs
  inj : G.mu.Nodup
  off : ∀ a ∈ G.mu, G.I a = none
theorem RepS.le_cell {d : D} {G : Gh} {S : Store} {H : Hp} (R : RepS d G S H) {a : Addr} (h : a ∈ G.mu) : ∃ vs, H a = some (.lst vs) := by
  obtain ⟨n, hn, e⟩ := List.mem_iff_getElem.mp h
  have hs : n < S.length := by rw [R.len]; exact hn
  cases c : S[n] with
  | lst xs =>
    obtain ⟨b, vs, e1, e2, _⟩ := R.cell n xs (by rw [List.getElem?_eq_getElem hs, c])
    rw [List.getElem?_eq_getElem hn, e] at e1
    cases e1
    exact ⟨vs, e2⟩
/-- the frame's names -/
structure RepE (d : D) (G : Gh) (r : Env) (σ : L2.St) (H : Hp) : Prop where
  len : r.length = σ.length
  slot : ∀ (i : Nat) t, r[i]? = some (Slot.val t) → ∃ v, σ[i]? = some (some v) ∧ RepV d G t v
  own : ∀ (i : Nat) xs, r[i]? = some (Slot.own xs) → ∃ a vs, σ[i]? = some (some (V.ref a)) ∧ H a = some (.lst vs) ∧ vs.length ≤ sizeLine ∧ RepAll d G xs vs ∧ G.I a = none ∧ a ∉ G.mu
  apart : ∀ (i j : Nat) xs ys a, r[i]? = some (Slot.own xs) → r[j]? = some (Slot.own ys) → σ[i]? = some (some (V.ref a)) → σ[j]? = some (some (V.ref a)) → i = j
  inst : ∀ (i : Nat) c fs, r[i]? = some (Slot.inst c fs) → ∃ a C dx ws, σ[i]? = some (some (V.ref a)) ∧ (d.ca c = some C ∧ d.sf = some a) ∧ H a = some (.ins C dx ws) ∧ H dx = some (.own a) ∧ RepFs d G fs ws ∧ G.I a = none ∧ G.I dx = none ∧ a ∉ G.mu ∧ dx ∉ G.mu
  exc : ∀ (i : Nat) c, r[i]? = some (Slot.exc c) → ∃ a, σ[i]? = some (some (V.ref a)) ∧ (a, c) ∈ d.pn
/-- from one heap to a later one: only cells changed -/
structure Step (G G' : Gh) (H H' : Hp) : Prop where
  le : Le G G'
  new : ∀ a, G.I a = none → G'.I a ≠ none → H a = none
  mu : ∀ a ∈ G'.mu, a ∉ G.mu → H a = none
  keep : ∀ a o, H a = some o → a ∉ G.mu → H' a = some o
  there : ∀ a, H a ≠ none → H' a ≠ none
theorem Step.refl (G : Gh) (H : Hp) : Step G G H H := ⟨Le.refl G, fun _ h k => absurd h k, fun _ h k => absurd h k, fun _ _ h _ => h, fun _ h => h⟩
theorem Step.trans {G G1 G2 : Gh} {H H1 H2 : Hp} (a : Step G G1 H H1) (b : Step G1 G2 H1 H2) : Step G G2 H H2 := by
  have none_of : ∀ x, H1 x = none → H x = none := fun x e => by
    cases q : H x with
    | none => rfl
    | some o => exact absurd e (a.there x (by rw [q]; simp))
  have memu : ∀ x, x ∈ G1.mu → x ∉ G.mu → H x = none := a.mu
  refine ⟨a.le.trans b.le, fun x h k => ?_, fun x h k => ?_, fun x o h k => ?_, fun x h => b.there x (a.there x h)⟩
  · cases q : G1.I x with
    | none => exact none_of x (b.new x q k)
    | some o => exact a.new x h (by rw [q]; simp)
  · by_cases q : x ∈ G1.mu
    · exact a.mu x q k
    · exact none_of x (b.mu x h q)
  · have h1 := a.keep x o h k
    refine b.keep x o h1 fun q => ?_
    rw [a.mu x q k] at h
    cases h
theorem RepE.step {d : D} {G G' : Gh} {r : Env} {σ : L2.St} {H H' : Hp} (E : RepE d G r σ H) (s : Step G G' H H') : RepE d G' r σ H' := by
  have offI : ∀ {a : Addr} {o : HO}, H a = some o → G.I a = none → G'.I a = none := fun {a o} h k => by
    cases q : G'.I a with
    | none => rfl
    | some u =>
      have := s.new a k (by rw [q]; simp)
      rw [h] at this; cases this
  have offM : ∀ {a : Addr} {o : HO}, H a = some o → a ∉ G.mu → a ∉ G'.mu := fun {a o} h k q => by
    have := s.mu a q k
    rw [h] at this; cases this
  refine ⟨E.len, fun i t e => ?_, fun i xs e => ?_, E.apart, fun i c fs e => ?_, E.exc⟩
  · obtain ⟨v, h1, h2⟩ := E.slot i t e
    exact ⟨v, h1, RepV.le s.le t h2⟩
  · obtain ⟨a, vs, h1, h2, z, h3, h4, h5⟩ := E.own i xs e
    exact ⟨a, vs, h1, s.keep _ _ h2 h5, z, RepAll.le s.le xs h3, offI h2 h4, offM h2 h5⟩
  · obtain ⟨a, C, dx, ws, h1, h2, h3, h4, h5, h6, h7, h8, h9⟩ := E.inst i c fs e
    exact ⟨a, C, dx, ws, h1, h2, s.keep _ _ h3 h8, s.keep _ _ h4 h9, RepFs.le s.le fs h5, offI h3 h6, offI h4 h7, offM h3 h8, offM h4 h9⟩

/-- a value that is looked at: a list may be an own one, or a cell -/
def RdV (d : D) (G : Gh) (H : Hp) : T → V → Prop
  | .lst xs, v => ∃ a vs, v = .ref a ∧ L2.Rd H a (.lst vs) ∧ vs.length ≤ sizeLine ∧ RepAll d G xs vs
  | .ins c fs, v => ∃ a C dx ws, v = .ref a ∧ d.ca c = some C ∧ H a = some (.ins C dx ws) ∧ RepFs d G fs ws
  | t, v => RepV d G t v
/-- .. as it was taken: a name's, or a value -/
def RepW (d : D) (G : Gh) (r : Env) (σ : L2.St) (t : T) (v : V) : Prop :=
  RepV d G t v ∨ ∃ i : Nat, σ[i]? = some (some v) ∧ ((∃ xs, r[i]? = some (Slot.own xs) ∧ t = .lst xs) ∨ ∃ c fs, r[i]? = some (Slot.inst c fs) ∧ t = .ins c fs)
theorem RepW.le {d : D} {G G' : Gh} (h : Le G G') {r : Env} {σ : L2.St} {t : T} {v : V} (q : RepW d G r σ t v) : RepW d G' r σ t v := by
  rcases q with q | q
  · exact .inl (RepV.le h t q)
  · exact .inr q
theorem Rd.imm {d : D} {G : Gh} {S : Store} {H : Hp} (R : RepS d G S H) {a : Addr} {u : HO} (r : L2.Rd G.I a u) : L2.Rd H a u := by
  rcases r with r | ⟨o, r⟩
  · exact .inl (R.imm _ _ r)
  · exact .inr ⟨o, R.imm _ _ r⟩
theorem RepS.sqL {d : D} {G : Gh} {S : Store} {H : Hp} (R : RepS d G S H) {a : Addr} {vs : List V} (r : SqL d.K G.I a vs) : SqL d.K H a vs := by
  rcases r with r | r
  · exact .inl (Rd.imm R r)
  · exact .inr r
theorem RepS.sqT {d : D} {G : Gh} {S : Store} {H : Hp} (R : RepS d G S H) {a : Addr} {vs : List V} (r : SqT d.K G.I a vs) : SqT d.K H a vs := by
  rcases r with r | r
  · exact .inl (Rd.imm R r)
  · exact .inr r
theorem RdV.of {d : D} {G : Gh} {S : Store} {H : Hp} (R : RepS d G S H) : ∀ (t : T) {v : V}, RepV d G t v → RdV d G H t v
  | .non, _, h => h
  | .bl _, _, h => h
  | .int _, _, h => h
  | .str _, _, h => h
  | .tup _, _, h => h
  | .lst xs, _, h => by
    obtain ⟨a, vs, e, q, z, r⟩ := h
    exact ⟨a, vs, e, Rd.imm R q, z, r⟩
  | .dic _, _, h => h
  | .ref _, _, h => h
  | .fn _, _, h => h
  | .ins c fs, _, h => by
    obtain ⟨a, C, dx, ws, e, q, i, j, r⟩ := h
    exact ⟨a, C, dx, ws, e, q, R.imm _ _ i, r⟩
theorem RepW.rd {d : D} {G : Gh} {r : Env} {S : Store} {σ : L2.St} {H : Hp} (R : RepS d G S H) (E : RepE d G r σ H) {t : T} {v : V} (h : RepW d G r σ t v) : RdV d G H (look S t) v := by
  rcases h with h | ⟨i, hi, ⟨xs, hr, rfl⟩ | ⟨c, fs, hr, rfl⟩⟩
  · cases t with
    | ref n =>
      obtain ⟨a, rfl, hm⟩ := h
      show RdV d G H (match S[n]? with
        | some (.lst xs) => .lst xs
        | none => .ref n) _
      cases e : S[n]? with
      | none => exact ⟨a, rfl, hm⟩
      | some c =>
        cases c with
        | lst xs =>
          obtain ⟨b, vs, h1, h2, z, h3⟩ := R.cell n xs e
          rw [hm] at h1; cases h1
          exact ⟨a, vs, rfl, .inl h2, z, h3⟩
    | _ => exact RdV.of R _ h
  · obtain ⟨a, vs, h1, h2, z, h3, _⟩ := E.own i xs hr
    rw [hi] at h1; cases h1
    exact ⟨a, vs, rfl, .inl h2, z, h3⟩
  · obtain ⟨a, C, dx, ws, h1, h2, h3, h4, h5, _⟩ := E.inst i c fs hr
    rw [hi] at h1; cases h1
    exact ⟨a, C, dx, ws, rfl, h2.1, h3, h5⟩

/-- a new thing that never changes -/
def Gh.add (G : Gh) (p : Addr) (o : HO) : Gh := { G with I := upd G.I p o }
theorem Step.add {d : D} {G : Gh} {S : Store} {H : Hp} (R : RepS d G S H) {p : Addr} {o : HO} (hp : H p = none) : Step G (G.add p o) H (upd H p o) := by
  have np : ∀ a u, H a = some u → a ≠ p := fun a u e z => by rw [z, hp] at e; cases e
  refine ⟨⟨fun a u e => ?_, [], by simp [Gh.add]⟩, fun a h k => ?_, fun a h k => absurd h k, fun a u e _ => by rw [upd_ne (np a u e)]; exact e, fun a e => ?_⟩
  · show upd G.I p o a = _
    rw [upd_ne (np a u (R.imm a u e))]; exact e
  · by_cases q : a = p
    · rw [q]; exact hp
    · exfalso
      apply k
      show upd G.I p o a = none
      rw [upd_ne q]; exact h
  · by_cases q : a = p
    · rw [q, upd_same]; simp
    · rw [upd_ne q]; exact e
theorem RepS.add {d : D} {G : Gh} {S : Store} {H : Hp} (R : RepS d G S H) {p : Addr} {o : HO} (hp : H p = none) : RepS d (G.add p o) S (upd H p o) := by
  have st : Step G (G.add p o) H (upd H p o) := Step.add R hp
  refine ⟨fun a u e => ?_, R.len, fun n xs e => ?_, R.inj, fun a h => ?_⟩
  · have e' : upd G.I p o a = some u := e
    by_cases q : a = p
    · subst q; rw [upd_same] at e' ⊢; exact e'
    · rw [upd_ne q] at e' ⊢; exact R.imm a u e'
  · obtain ⟨a, vs, h1, h2, z, h3⟩ := R.cell n xs e
    refine ⟨a, vs, h1, ?_, z, RepAll.le st.le xs h3⟩
    rw [upd_ne (fun q => by rw [q, hp] at h2; cases h2)]; exact h2
  · show upd G.I p o a = none
    obtain ⟨vs, e⟩ := R.le_cell h
    rw [upd_ne (fun q => by rw [q, hp] at e; cases e)]; exact R.off a h
/-- a new thing that is no part of the ghosts -/
theorem Step.lay {G : Gh} {H : Hp} {p : Addr} {o : HO} (hp : H p = none) : Step G G H (upd H p o) :=
  ⟨Le.refl G, fun _ h k => absurd h k, fun _ h k => absurd h k, fun a u e _ => by rw [upd_ne (fun z => by rw [z, hp] at e; cases e)]; exact e, fun a e => by
    by_cases q : a = p
    · rw [q, upd_same]; simp
    · rw [upd_ne q]; exact e⟩
theorem RepS.lay {d : D} {G : Gh} {S : Store} {H : Hp} (R : RepS d G S H) {p : Addr} {o : HO} (hp : H p = none) : RepS d G S (upd H p o) := by
  refine ⟨fun a u e => ?_, R.len, fun n xs e => ?_, R.inj, R.off⟩
  · rw [upd_ne (fun z => by rw [z] at e; have := R.imm _ _ e; rw [hp] at this; cases this)]; exact R.imm a u e
  · obtain ⟨a, vs, h1, h2, z, h3⟩ := R.cell n xs e
    exact ⟨a, vs, h1, by rw [upd_ne (fun q => by rw [q, hp] at h2; cases h2)]; exact h2, z, h3⟩
end Hf
end

section
set_option Elab.async false
set_option linter.all false
set_option maxRecDepth 100000
/-! HfS0: the judgements for trees; names, constants, tuples, lists. -/
namespace Hf
open PySem PySem.Spec PyProof.Rows L2

theorem PE_imp {X : Cx} {e : Expr} {t t' : TE} (h : PE X e t) (i : ∀ σ H Q, t' σ H Q → t σ H Q) : PE X e t' := ⟨fun pins s σ H Q I q => h.run pins s σ H Q I (i _ _ _ q)⟩
theorem PT_imp {X : Cx} {e : Expr} {t t' : TT} (h : PT X e t) (i : ∀ σ H Q, t' σ H Q → t σ H Q) : PT X e t' := ⟨fun pins s σ H Q I q => h.run pins s σ H Q I (i _ _ _ q)⟩
theorem PW_imp {X : Cx} {e : Expr} {t t' : TT} (h : PW X e t) (i : ∀ σ H Q, t' σ H Q → t σ H Q) : PW X e t' := ⟨fun wh pins s σ H Q I q => h.run wh pins s σ H Q I (i _ _ _ q)⟩
theorem PA_imp {X : Cx} {es : List Expr} {t t' : TA} (h : PA X es t) (i : ∀ σ H Q, t' σ H Q → t σ H Q) : PA X es t' := ⟨fun pos pins s σ H Q I q => h.run pos pins s σ H Q I (i _ _ _ q)⟩
theorem PS_imp {X : Cx} {e : Stmt} {t t' : TS} (h : PS X e t) (i : ∀ D σ H, t' D σ H → t D σ H) : PS X e t' := ⟨fun pins s σ H Q I q => h.run pins s σ H Q I (i _ _ _ q)⟩
theorem PSs_imp {X : Cx} {e : List Stmt} {t t' : TS} (h : PSs X e t) (i : ∀ D σ H, t' D σ H → t D σ H) : PSs X e t' := ⟨fun pins s σ H Q I q => h.run pins s σ H Q I (i _ _ _ q)⟩
theorem PI_imp {X : Cx} {tg e : Expr} {t t' : TI} (h : PI X tg e t) (i : ∀ σ H Q, t' σ H Q → t σ H Q) : PI X tg e t' := ⟨fun pins s σ H Q I q => h.run pins s σ H Q I (i _ _ _ q)⟩

section
variable (d : D) (W : WX)
/-- what is wanted of a result from (G, H) on -/
def Post {α β : Type} (σ : L2.St) (R : Gh → Hp → α → β → Prop) (G : Gh) (H : Hp) (Q : β → Hp → Prop) : Res α → Prop
  | .ok a S' => ∀ G' b H', Step G G' H H' → RepS d G' S' H' → R G' H' a b → Q b H'
  | .exn c S' => ∀ x G' H', d.xa c = some x → Step G G' H H' → RepS d G' S' H' → W (.ref x) none σ H'
  | .bad => False
def tG {β : Type} {α : Type} (R : Env → L2.St → Hp → Gh → Hp → α → β → Prop) (m : Env → Store → Res α) : L2.St → Hp → (β → Hp → Prop) → Prop := fun σ H Q =>
  ∃ G r S, RepS d G S H ∧ RepE d G r σ H ∧ Post d W σ (R r σ H) G H Q (m r S)
/-- values -/
abbrev RV : Env → L2.St → Hp → Gh → Hp → T → V → Prop := fun _ _ _ G _ t v => RepV d G t v
abbrev RW' : Env → L2.St → Hp → Gh → Hp → T → V → Prop := fun r σ _ G _ t v => RepW d G r σ t v
/-- a list just made -/
def NewL (G : Gh) (H0 H : Hp) (xs : List T) (v : V) : Prop := ∃ a vs, v = .ref a ∧ H a = some (.lst vs) ∧ vs.length ≤ sizeLine ∧ RepAll d G xs vs ∧ G.I a = none ∧ a ∉ G.mu ∧ H0 a = none
abbrev RN : Env → L2.St → Hp → Gh → Hp → T → V → Prop := fun _ _ H0 G H t v => ∃ xs, t = .lst xs ∧ NewL d G H0 H xs v
abbrev RA : Env → L2.St → Hp → Gh → Hp → List T → List V → Prop := fun _ _ _ G _ xs vs => RepAll d G xs vs
def RepWs (d : D) (G : Gh) (r : Env) (σ : L2.St) : List T → List V → Prop
  | [], [] => True
  | x :: xs, v :: vs => RepW d G r σ x v ∧ RepWs d G r σ xs vs
  | _, _ => False
abbrev RAW : Env → L2.St → Hp → Gh → Hp → List T → List V → Prop := fun r σ _ G _ xs vs => RepWs d G r σ xs vs
abbrev RB : Env → L2.St → Hp → Gh → Hp → Bool → Bool → Prop := fun _ _ _ _ _ t b => b = t
/-- a truth value -/
def toB (m : Env → Store → Res T) : Env → Store → Res Bool := fun r S => (m r S).bind fun t S => match t with
  | .bl b => .ok b S
  | _ => .bad
abbrev tE (m : Env → Store → Res T) : TE := tG d W (RV d) m
abbrev tW (m : Env → Store → Res T) : TE := tG d W (RW' d) m
abbrev tN (m : Env → Store → Res T) : TE := tG d W (RN d) m
abbrev tAs (m : Env → Store → Res (List T)) : TA := tG d W (RA d) m
abbrev tWs (m : Env → Store → Res (List T)) : TA := tG d W (RAW d) m
abbrev tBo (m : Env → Store → Res T) : TT := tG d W RB (toB m)
end
theorem asB_eq {x : Res T} {k : Bool → Store → Res T} : (x.bind fun t S => asB t S k) = (x.bind fun t S => match t with
  | .bl b => .ok b S
  | _ => .bad).bind k := by
  cases x with
  | ok t S => cases t <;> rfl
  | _ => rfl
section
variable {d : D} {W : WX} {σ : L2.St}
theorem Post.later {α β : Type} {R : Gh → Hp → α → β → Prop} {G G1 : Gh} {H H1 : Hp} {Q : β → Hp → Prop} {m : Res α} (h : Post d W σ R G H Q m) (st : Step G G1 H H1) : Post d W σ R G1 H1 Q m := by
  cases m with
  | ok a S => exact fun G' b H' s => h G' b H' (st.trans s)
  | exn c S => exact fun x G' H' e s => h x G' H' e (st.trans s)
  | bad => exact h
theorem Post.imp {α β : Type} {R R' : Gh → Hp → α → β → Prop} {G : Gh} {H : Hp} {Q Q' : β → Hp → Prop} {m : Res α} (h : Post d W σ R G H Q m)
    (i : ∀ a S G' b H', m = .ok a S → Step G G' H H' → RepS d G' S H' → (∀ G2 b2 H2, Step G G2 H H2 → RepS d G2 S H2 → R G2 H2 a b2 → Q b2 H2) → R' G' H' a b → Q' b H') : Post d W σ R' G H Q' m := by
  cases m with
  | ok a S => exact fun G' b H' s R1 r => i a S G' b H' rfl s R1 h r
  | exn c S => exact h
  | bad => exact h
theorem Post.bind {α β γ δ : Type} {R1 : Gh → Hp → α → β → Prop} {R2 : Gh → Hp → γ → δ → Prop} {G : Gh} {H : Hp} {Q1 : β → Hp → Prop} {Q : δ → Hp → Prop} {m : Res α} {k : α → Store → Res γ} (h : Post d W σ R2 G H Q (m.bind k))
    (hk : ∀ a S1 G1 b H1, Step G G1 H H1 → RepS d G1 S1 H1 → R1 G1 H1 a b → Post d W σ R2 G1 H1 Q (k a S1) → Q1 b H1) : Post d W σ R1 G H Q1 m := by
  cases m with
  | ok a S1 => exact fun G1 b H1 s RS r => hk a S1 G1 b H1 s RS r (Post.later h s)
  | exn c S => exact h
  | bad => exact h
theorem Post.bind0 {α β γ δ : Type} {R1 : Gh → Hp → α → β → Prop} {R2 : Gh → Hp → γ → δ → Prop} {G : Gh} {H : Hp} {Q1 : β → Hp → Prop} {Q : δ → Hp → Prop} {m : Res α} {k : α → Store → Res γ} (h : Post d W σ R2 G H Q (m.bind k))
    (hk : ∀ a S1, m = .ok a S1 → Post d W σ R2 G H Q (k a S1) → ∀ G1 b H1, Step G G1 H H1 → RepS d G1 S1 H1 → R1 G1 H1 a b → Q1 b H1) : Post d W σ R1 G H Q1 m := by
  cases m with
  | ok a S1 => exact hk a S1 rfl h
  | exn c S => exact h
  | bad => exact h
/-- from a result's own words -/
theorem Post.ofO {α β : Type} {R : Gh → Hp → α → β → Prop} {G : Gh} {H : Hp} {Q : β → Hp → Prop} {o : Option α} {S : Store} (h : Post d W σ R G H Q (Res.of o S)) : ∃ a, o = some a ∧ ∀ G' b H', Step G G' H H' → RepS d G' S H' → R G' H' a b → Q b H' := by
  cases o with
  | none => exact h.elim
  | some a => exact ⟨a, rfl, h⟩
end
theorem RepE.get {d : D} {G : Gh} {r : Env} {σ : L2.St} {H : Hp} (E : RepE d G r σ H) {i : Nat} {t : T} (h : r[i]? = some (.val t)) : ∃ v, σ[i]? = some (some v) ∧ RepV d G t v := E.slot i t h

section
variable {X : Cx} {d : D} {W : WX}
/-! ### names -/
theorem s_var {i : Nat} {x : PySem.Str} {pos : Pos} (hN : X.N[i]? = some x) (hv : Vis X.env.scope x) (hd : (x == ("__debug__" : PySem.Str)) = false) (hc : (x == ("__classdict__" : PySem.Str)) = false) :
    PE X (.Name x pos) (tE d W fun r S => match r[i]? with
      | some (.val t) => .ok t S
      | _ => .bad) := by
  refine PE_imp (pe_var hN hv hd hc) fun σ H Q ⟨G, r, S, RS, RE, h⟩ => ?_
  cases e : r[i]? with
  | none => simp only [e] at h; exact h.elim
  | some sl =>
    cases sl with
    | val t =>
      simp only [e] at h
      obtain ⟨v, h1, h2⟩ := RE.slot i t e
      exact ⟨v, h1, h G v H (Step.refl G H) RS h2⟩
    | _ => simp only [e] at h; exact h.elim
/-- .. looked at -/
theorem s_varW {i : Nat} {x : PySem.Str} {pos : Pos} {m : Env → Store → Res T} (hN : X.N[i]? = some x) (hv : Vis X.env.scope x) (hd : (x == ("__debug__" : PySem.Str)) = false) (hc : (x == ("__classdict__" : PySem.Str)) = false) :
    PE X (.Name x pos) (tW d W fun r S => view r (.v i) S (m r S)) := by
  refine PE_imp (pe_var hN hv hd hc) fun σ H Q ⟨G, r, S, RS, RE, h⟩ => ?_
  unfold view at h
  cases e : r[i]? with
  | none => simp only [e] at h; exact h.elim
  | some sl =>
    cases sl with
    | val t =>
      simp only [e] at h
      obtain ⟨v, h1, h2⟩ := RE.slot i t e
      exact ⟨v, h1, h G v H (Step.refl G H) RS (.inl h2)⟩
    | own xs =>
      simp only [e] at h
      obtain ⟨a, vs, h1, h2, _⟩ := RE.own i xs e
      exact ⟨_, h1, h G _ H (Step.refl G H) RS (.inr ⟨i, h1, .inl ⟨xs, e, rfl⟩⟩)⟩
    | inst c fs =>
      simp only [e] at h
      obtain ⟨a, C, dx, ws, h1, _⟩ := RE.inst i c fs e
      exact ⟨_, h1, h G _ H (Step.refl G H) RS (.inr ⟨i, h1, .inr ⟨c, fs, e, rfl⟩⟩)⟩
    | _ => simp only [e] at h; exact h.elim
theorem s_toW {e : Expr} {m : Env → Store → Res T} (h : PE X e (tE d W m)) : PE X e (tW d W m) :=
  PE_imp h fun σ H Q ⟨G, r, S, RS, RE, q⟩ => ⟨G, r, S, RS, RE, q.imp fun a S G' b H' _ s R1 k r => k G' b H' s R1 (.inl r)⟩
/-! ### constants -/
theorem s_const {e : Expr} {v : V} {t : T} (h : PE X e (tC v)) (hr : ∀ G, RepV d G t v) : PE X e (tE d W fun _ S => .ok t S) :=
  PE_imp h fun σ H Q ⟨G, r, S, RS, RE, q⟩ => q G v H (Step.refl G H) RS (hr G)
/-! ### argument lists -/
theorem s_nil : PA X [] (tAs d W fun _ S => .ok [] S) := PA_imp pa_nil fun σ H Q ⟨G, r, S, RS, RE, q⟩ => q G [] H (Step.refl G H) RS True.intro
theorem s_cons {e : Expr} {es : List Expr} {m : Env → Store → Res T} {k : Env → Store → Res (List T)} (he : PE X e (tE d W m)) (hs : PA X es (tAs d W k)) (hst : starEach (e :: es) X.env = (false, eval e X.env) :: starEach es X.env) :
    PA X (e :: es) (tAs d W fun r S => (m r S).bind fun x S => (k r S).bind fun xs S => .ok (x :: xs) S) := by
  refine PA_imp (pa_cons he hs hst) fun σ H Q ⟨G, r, S, RS, RE, q⟩ => ?_
  exact ⟨G, r, S, RS, RE, q.bind fun x S1 G1 v H1 s1 R1 rv h1 => ⟨G1, r, S1, R1, RE.step s1, h1.bind fun xs S2 G2 vs H2 s2 R2 rvs h2 => h2 G2 (v :: vs) H2 (Step.refl _ _) R2 ⟨RepV.le s2.le x rv, rvs⟩⟩⟩
theorem s_nilW : PA X [] (tWs d W fun _ S => .ok [] S) := PA_imp pa_nil fun σ H Q ⟨G, r, S, RS, RE, q⟩ => q G [] H (Step.refl G H) RS True.intro
theorem s_consW {e : Expr} {es : List Expr} {m : Env → Store → Res T} {k : Env → Store → Res (List T)} (he : PE X e (tW d W m)) (hs : PA X es (tWs d W k)) (hst : starEach (e :: es) X.env = (false, eval e X.env) :: starEach es X.env) :
    PA X (e :: es) (tWs d W fun r S => (m r S).bind fun x S => (k r S).bind fun xs S => .ok (x :: xs) S) := by
  refine PA_imp (pa_cons he hs hst) fun σ H Q ⟨G, r, S, RS, RE, q⟩ => ?_
  exact ⟨G, r, S, RS, RE, q.bind fun x S1 G1 v H1 s1 R1 rv h1 => ⟨G1, r, S1, R1, RE.step s1, h1.bind fun xs S2 G2 vs H2 s2 R2 rvs h2 => h2 G2 (v :: vs) H2 (Step.refl _ _) R2 ⟨RepW.le s2.le rv, rvs⟩⟩⟩
/-! ### new things -/
/-- a new tuple's place -/
theorem new_tup {G : Gh} {S : Store} {H : Hp} {xs : List T} {vs : List V} (R : RepS d G S H) (z : vs.length ≤ sizeLine) (r : RepAll d G xs vs) {p : Addr} (hp : H p = none) :
    Step G (G.add p (.tup vs)) H (upd H p (.tup vs)) ∧ RepS d (G.add p (.tup vs)) S (upd H p (.tup vs)) ∧ RepV d (G.add p (.tup vs)) (.tup xs) (.ref p) := by
  have st : Step G (G.add p (.tup vs)) H (upd H p (.tup vs)) := Step.add R hp
  exact ⟨st, R.add hp, p, vs, rfl, SqT.of upd_same, z, RepAll.le st.le xs r⟩
theorem new_lst {G : Gh} {S : Store} {H : Hp} {xs : List T} {vs : List V} (R : RepS d G S H) (z : vs.length ≤ sizeLine) (r : RepAll d G xs vs) {p : Addr} (hp : H p = none) :
    Step G G H (upd H p (.lst vs)) ∧ RepS d G S (upd H p (.lst vs)) ∧ NewL d G H (upd H p (.lst vs)) xs (.ref p) := by
  refine ⟨Step.lay hp, R.lay hp, p, vs, rfl, upd_same, z, r, ?_, fun q => ?_, hp⟩
  · cases q : G.I p with
    | none => rfl
    | some o =>
      have := R.imm _ _ q
      rw [hp] at this; cases this
  · obtain ⟨vs, e⟩ := R.le_cell q
    rw [hp] at e; cases e
theorem Step.none {G G' : Gh} {H H' : Hp} (s : Step G G' H H') {p : Addr} (h : H' p = none) : H p = none := by
  cases q : H p with
  | none => rfl
  | some o => exact absurd h (s.there p (by rw [q]; simp))
theorem NewL.from {G G1 : Gh} {H H1 H2 : Hp} {xs : List T} {v : V} (s : Step G G1 H H1) (n : NewL d G1 H1 H2 xs v) : NewL d G1 H H2 xs v := by
  obtain ⟨a, vs, e, h1, z, r, h2, h3, h4⟩ := n
  exact ⟨a, vs, e, h1, z, r, h2, h3, s.none h4⟩
/-- a list of one's own is frozen -/
theorem freeze {G G' : Gh} {S : Store} {H H' : Hp} {a : Addr} {vs : List V} {xs : List T} (s : Step G G' H H') (R : RepS d G' S H') (h : H' a = some (.lst vs)) (z : vs.length ≤ sizeLine) (r : RepAll d G' xs vs) (hI : G'.I a = none) (hm : a ∉ G'.mu) (h0 : H a = none) :
    Step G (G'.add a (.lst vs)) H H' ∧ RepS d (G'.add a (.lst vs)) S H' ∧ RepV d (G'.add a (.lst vs)) (.lst xs) (.ref a) := by
  have le : Le G' (G'.add a (.lst vs)) := ⟨fun b o e => by
    show upd G'.I a _ b = _
    rw [upd_ne (fun q => by rw [q, hI] at e; cases e)]; exact e, [], by simp [Gh.add]⟩
  refine ⟨⟨s.le.trans le, fun b hb k => ?_, s.mu, s.keep, s.there⟩, ⟨fun b o e => ?_, R.len, fun n ys e => ?_, R.inj, fun b hb => ?_⟩, a, vs, rfl, .inl upd_same, z, RepAll.le le xs r⟩
  · by_cases q : b = a
    · rw [q]; exact h0
    · refine s.new b hb fun e => k ?_
      show upd G'.I a _ b = none
      rw [upd_ne q]; exact e
  · have e' : upd G'.I a (.lst vs) b = some o := e
    by_cases q : b = a
    · rw [q, upd_same] at e'
      rw [q, h, ← Option.some.inj e']
    · rw [upd_ne q] at e'; exact R.imm b o e'
  · obtain ⟨b, ws, h1, h2, z2, h3⟩ := R.cell n ys e
    exact ⟨b, ws, h1, h2, z2, RepAll.le le ys h3⟩
  · show upd G'.I a _ b = none
    rw [upd_ne (fun q => by rw [q] at hb; exact hm hb)]; exact R.off b hb
theorem s_ofNew {e : Expr} {m : Env → Store → Res T} (h : PE X e (tN d W m)) : PE X e (tE d W m) :=
  PE_imp h fun σ H Q ⟨G, r, S, RS, RE, q⟩ => ⟨G, r, S, RS, RE, q.imp fun t S G' b H' _ s R1 k ⟨xs, e, a, vs, e2, h1, z, r, h2, h3, h4⟩ => by
    subst e e2
    obtain ⟨s', R', v'⟩ := freeze s R1 h1 z r h2 h3 h4
    exact k _ _ _ s' R' v'⟩
/-! ### displays -/
theorem s_tup {es : List Expr} {k : Env → Store → Res (List T)} {x1 : Nat} {pos : Pos} (h : PA X es (tAs d W k)) (hl : es.length ≤ sizeLine) (hk : ∀ r S xs S', k r S = .ok xs S' → xs.length = es.length) :
    PE X (.Tuple es x1 pos) (tE d W fun r S => (k r S).bind fun xs S => .ok (.tup xs) S) := by
  refine PE_imp (pe_tup h) fun σ H Q ⟨G, r, S, RS, RE, q⟩ => ⟨G, r, S, RS, RE, q.bind0 fun xs S1 e q1 G1 vs H1 s1 R1 rv => ?_⟩
  have z : vs.length ≤ sizeLine := by rw [← rv.length, hk r S xs S1 e]; exact hl
  refine ⟨z, fun p hp => ?_⟩
  obtain ⟨s2, R2, v2⟩ := new_tup R1 z rv hp
  exact q1 _ _ _ (s1.trans s2) R2 v2
theorem s_disp {es : List Expr} {k : Env → Store → Res (List T)} {pos : Pos} (h : PA X es (tAs d W k)) (hl : es.length ≤ sizeLine) (hk : ∀ r S xs S', k r S = .ok xs S' → xs.length = es.length) :
    PE X (.List es pos) (tN d W fun r S => (k r S).bind fun xs S => .ok (.lst xs) S) := by
  refine PE_imp (pe_lst h) fun σ H Q ⟨G, r, S, RS, RE, q⟩ => ⟨G, r, S, RS, RE, q.bind0 fun xs S1 e q1 G1 vs H1 s1 R1 rv => ?_⟩
  have z : vs.length ≤ sizeLine := by rw [← rv.length, hk r S xs S1 e]; exact hl
  refine ⟨z, fun p hp => ?_⟩
  obtain ⟨s2, R2, v2⟩ := new_lst R1 z rv hp
  exact q1 _ _ _ (s1.trans s2) R2 ⟨xs, rfl, v2.from s1⟩
/-- a new list as a cell -/
theorem s_cell {e : Expr} {m : Env → Store → Res T} (h : PE X e (tN d W m)) : PE X e (tE d W fun r S => (m r S).bind fun x S => match x with
    | .lst xs => .ok (.ref S.length) (S ++ [.lst xs])
    | _ => .bad) := by
  refine PE_imp h fun σ H Q ⟨G, r, S, RS, RE, q⟩ => ⟨G, r, S, RS, RE, q.bind0 fun t S1 _ q1 G1 v H1 s1 R1 ⟨xs, e, a, vs, e2, h1, z, ra, h2, h3, h4⟩ => ?_⟩
  subst e e2
  have le : Le G1 ⟨G1.I, G1.mu ++ [a]⟩ := ⟨fun _ _ e => e, [a], rfl⟩
  refine q1 ⟨G1.I, G1.mu ++ [a]⟩ (.ref a) H1 ⟨s1.le.trans le, s1.new, fun b hb k => ?_, s1.keep, s1.there⟩ ⟨R1.imm, ?_, fun n ys e => ?_, ?_, fun b hb => ?_⟩ ⟨a, rfl, ?_⟩
  · rcases List.mem_append.mp hb with q | q
    · exact s1.mu b q k
    · rw [List.mem_singleton.mp q]; exact h4
  · show (S1 ++ [Cell.lst xs]).length = (G1.mu ++ [a]).length
    rw [List.length_append, List.length_append, R1.len]; rfl
  · by_cases q : n < S1.length
    · rw [List.getElem?_append_left q] at e
      obtain ⟨b, ws, k1, k2, z2, k3⟩ := R1.cell n ys e
      refine ⟨b, ws, ?_, k2, z2, RepAll.le le ys k3⟩
      rw [List.getElem?_append_left (by rw [← R1.len]; exact q)]; exact k1
    · rw [List.getElem?_append_right (Nat.le_of_not_lt q)] at e
      have n0 : n - S1.length = 0 := by
        cases q2 : n - S1.length with
        | zero => rfl
        | succ m => rw [q2] at e; simp at e
      rw [n0] at e
      have e' : xs = ys := by simpa using e
      subst e'
      have en : n = S1.length := by omega
      refine ⟨a, vs, ?_, h1, z, RepAll.le le xs ra⟩
      rw [en, R1.len, List.getElem?_append_right (Nat.le_refl _)]; simp
  · show (G1.mu ++ [a]).Nodup
    rw [List.nodup_append]
    exact ⟨R1.inj, by simp, fun b hb c hc => by rw [List.mem_singleton.mp hc]; exact fun q => h3 (q ▸ hb)⟩
  · rcases List.mem_append.mp hb with q | q
    · exact R1.off b q
    · rw [List.mem_singleton.mp q]; exact h2
  · show (G1.mu ++ [a])[S1.length]? = some a
    rw [R1.len, List.getElem?_append_right (Nat.le_refl _)]; simp
end
end Hf
end

section
set_option Elab.async false
set_option linter.all false
set_option maxRecDepth 100000
/-! HfS1: operators, comparisons, tests. -/
namespace Hf
open PySem PySem.Spec PyProof.Rows L2

theorem pys_map : ∀ xs : List T, T.pys xs = xs.map T.py
  | [] => rfl
  | x :: xs => by rw [T.pys, pys_map xs]; rfl
mutual
theorem py_depth : ∀ t : T, t.data = true → t.py.depth = t.depth
  | .non, _ => rfl
  | .bl _, _ => rfl
  | .int _, _ => rfl
  | .str _, _ => rfl
  | .tup xs, h => by
    have h' : T.dataAll xs = true := h
    simp only [T.py, PyData.depth, T.depth, pys_depth xs h']
  | .lst xs, h => by
    have h' : T.dataAll xs = true := h
    simp only [T.py, PyData.depth, T.depth, pys_depth xs h']
  | .dic _, h => by cases h
  | .ref _, h => by cases h
  | .fn _, h => by cases h
  | .ins _ _, h => by cases h
theorem pys_depth : ∀ xs : List T, T.dataAll xs = true → PyData.depthAll (T.pys xs) = T.depthAll xs
  | [], _ => rfl
  | x :: xs, h => by
    have h' : x.data = true ∧ T.dataAll xs = true := by simpa [T.dataAll] using h
    simp only [T.pys, PyData.depthAll, T.depthAll, py_depth x h'.1, pys_depth xs h'.2]
end
theorem sk_inj {a b : List Nat} : (sk a == sk b) = (a == b) := SX.S_beq a b
mutual
theorem py_eqv : ∀ s t : T, s.data = true → t.data = true → PyData.eqv s.py t.py = T.eqv s t
  | .non, t, _, h => by cases t <;> first | rfl | cases h | simp [T.py, PyData.eqv, T.eqv]
  | .bl _, t, _, h => by cases t <;> first | rfl | cases h | simp [T.py, PyData.eqv, T.eqv, b2i]
  | .int _, t, _, h => by cases t <;> first | rfl | cases h | simp [T.py, PyData.eqv, T.eqv, b2i]
  | .str a, t, _, h => by
    cases t <;> first | rfl | cases h | skip
    simp only [T.py, PyData.eqv, T.eqv, sk_inj]
  | .tup xs, t, h1, h => by
    cases t <;> first | rfl | cases h | skip
    simp only [T.py, PyData.eqv, T.eqv]
    exact pys_eqv xs _ (by simpa [T.data] using h1) (by simpa [T.data] using h)
  | .lst xs, t, h1, h => by
    cases t <;> first | rfl | cases h | skip
    simp only [T.py, PyData.eqv, T.eqv]
    exact pys_eqv xs _ (by simpa [T.data] using h1) (by simpa [T.data] using h)
  | .dic _, _, h, _ => by cases h
  | .ref _, _, h, _ => by cases h
  | .fn _, _, h, _ => by cases h
  | .ins _ _, _, h, _ => by cases h
theorem pys_eqv : ∀ xs ys : List T, T.dataAll xs = true → T.dataAll ys = true → PyData.eqvAll (T.pys xs) (T.pys ys) = T.eqvAll xs ys
  | [], [], _, _ => rfl
  | [], _ :: _, _, _ => rfl
  | _ :: _, [], _, _ => rfl
  | x :: xs, y :: ys, h1, h2 => by
    have h1' : x.data = true ∧ T.dataAll xs = true := by simpa [T.dataAll] using h1
    have h2' : y.data = true ∧ T.dataAll ys = true := by simpa [T.dataAll] using h2
    simp only [T.pys, PyData.eqvAll, T.eqvAll, py_eqv x y h1'.1 h2'.1, pys_eqv xs ys h1'.2 h2'.2]
end
section
variable {d : D} {G : Gh} {S : Store} {H : Hp}
mutual
theorem rep_dp (R : RepS d G S H) : ∀ (t : T) {v : V}, t.data = true → RepV d G t v → Dp d.K H v t.py
  | .non, _, _, r => by cases r; exact .non
  | .bl b, _, _, r => by cases r; exact .bl b
  | .int i, _, _, r => by cases r; exact .int i
  | .str s, _, _, r => by obtain ⟨rfl, _⟩ := r; exact .str _
  | .tup xs, _, h, r => by
    obtain ⟨a, vs, rfl, q, _, r⟩ := r
    exact .tup (R.sqT q) (rep_dps R xs (by simpa [T.data] using h) r)
  | .lst xs, _, h, r => by
    obtain ⟨a, vs, rfl, q, _, r⟩ := r
    exact .lst (.inl (Rd.imm R q)) (rep_dps R xs (by simpa [T.data] using h) r)
  | .dic _, _, h, _ => by cases h
  | .ref _, _, h, _ => by cases h
  | .fn _, _, h, _ => by cases h
  | .ins _ _, _, h, _ => by cases h
theorem rep_dps (R : RepS d G S H) : ∀ (xs : List T) {vs : List V}, T.dataAll xs = true → RepAll d G xs vs → DpAll d.K H vs (T.pys xs)
  | [], [], _, _ => .nil
  | [], _ :: _, _, r => r.elim
  | _ :: _, [], _, r => r.elim
  | x :: xs, v :: vs, h, r => by
    have h' : x.data = true ∧ T.dataAll xs = true := by simpa [T.dataAll] using h
    exact .cons (rep_dp R x h'.1 r.1) (rep_dps R xs h'.2 r.2)
end
theorem rd_dp (R : RepS d G S H) {t : T} {v : V} (h : t.data = true) (r : RdV d G H t v) : Dp d.K H v t.py := by
  cases t with
  | lst xs =>
    obtain ⟨a, vs, rfl, q, _, r⟩ := r
    exact .lst (.inl q) (rep_dps R xs (by simpa [T.data] using h) r)
  | ins _ _ => cases h
  | _ => exact rep_dp R _ h r
mutual
theorem rep_lay : ∀ (t : T) {v : V}, RepV d G t v → t.data = true → t.py.canLay0 = true
  | .non, _, _, _ => rfl
  | .bl _, _, _, _ => rfl
  | .int _, _, _, _ => rfl
  | .str s, _, r, _ => by
    obtain ⟨_, _, h⟩ := r
    show (sk s).cps.all (· < 0x110000) = true
    simpa using h
  | .tup xs, _, r, h => by
    obtain ⟨a, vs, _, _, _, r⟩ := r
    simp only [T.py, PyData.canLay0]
    exact reps_lay xs r (by simpa [T.data] using h)
  | .lst xs, _, r, h => by
    obtain ⟨a, vs, _, _, _, r⟩ := r
    simp only [T.py, PyData.canLay0]
    exact reps_lay xs r (by simpa [T.data] using h)
  | .dic _, _, _, h => by cases h
  | .ref _, _, _, h => by cases h
  | .fn _, _, _, h => by cases h
  | .ins _ _, _, _, h => by cases h
theorem reps_lay : ∀ (xs : List T) {vs : List V}, RepAll d G xs vs → T.dataAll xs = true → PyData.canLayAll0 (T.pys xs) = true
  | [], [], _, _ => rfl
  | [], _ :: _, r, _ => r.elim
  | _ :: _, [], r, _ => r.elim
  | x :: xs, v :: vs, r, h => by
    have h' : x.data = true ∧ T.dataAll xs = true := by simpa [T.dataAll] using h
    simp only [T.pys, PyData.canLayAll0, rep_lay x r.1 h'.1, reps_lay xs r.2 h'.2, Bool.and_self]
end
theorem rd_lay {t : T} {v : V} (r : RdV d G H t v) (h : t.data = true) : t.py.canLay0 = true := by
  cases t with
  | lst xs =>
    obtain ⟨a, vs, _, _, _, r⟩ := r
    simp only [T.py, PyData.canLay0]
    exact reps_lay xs r (by simpa [T.data] using h)
  | ins _ _ => cases h
  | _ => exact rep_lay (d := d) (G := G) _ r h
end

/-! ### == -/
section
variable {X : Cx}
def rEqR (K : PySem.W.Frag) (neg : Bool) : R2 := fun x y H Q => ∃ d e, Dp K H x d ∧ Dp K H y e ∧ d.canLay0 = true ∧ e.canLay0 = true ∧ min d.depth e.depth ≤ 60 ∧ Q (.bl (PyData.eqv d e != neg)) H
theorem op_eqR (hu : X.A.units + 64 < cLine) : OpR X (compareOp .Eq) (rEqR X.K false) := by
  intro pins s σ H x y v u Q I rx ry h
  obtain ⟨d, e, hd, he, ld, le, hm, q⟩ := h
  obtain ⟨as, r1⟩ := Dp.reads I d x v hd rx
  obtain ⟨bs, r2⟩ := Dp.reads I e y u he ry
  exact SeqAt.compareEq_reads r1 r2 ld le (by omega) ⟨.bl _, H, I, rfl, by simpa using q⟩
theorem op_neR (hu : X.A.units + 64 < cLine) : OpR X (compareOp .NotEq) (rEqR X.K true) := by
  intro pins s σ H x y v u Q I rx ry h
  obtain ⟨d, e, hd, he, ld, le, hm, q⟩ := h
  obtain ⟨as, r1⟩ := Dp.reads I d x v hd rx
  obtain ⟨bs, r2⟩ := Dp.reads I e y u he ry
  exact SeqAt.compareNe_reads r1 r2 ld le (by omega) ⟨.bl _, H, I, rfl, by simpa using q⟩
def rInR (K : PySem.W.Frag) (neg : Bool) : R2 := fun x y H Q => ∃ d ds, Dp K H x d ∧ (Dp K H y (.list ds) ∨ Dp K H y (.tuple ds)) ∧ d.canLay0 = true ∧ PyData.canLayAll0 ds = true ∧ min (PyData.depthAll ds) d.depth ≤ 60 ∧ Q (.bl ((ds.any fun z => PyData.eqv z d) != neg)) H
theorem op_inR (hu : X.A.units + 64 < cLine) : OpR X (compareOp .In) (rInR X.K false) := by
  intro pins s σ H x y v u Q I rx ry h
  obtain ⟨d, ds, hd, he, ld, le, hm, q⟩ := h
  obtain ⟨as, r1⟩ := Dp.reads I d x v hd rx
  rcases he with he | he
  · obtain ⟨bs, r2⟩ := Dp.reads I (.list ds) y u he ry
    exact SeqAt.in_list_reads r2 r1 le ld (by omega) ⟨.bl _, H, I, rfl, by simpa using q⟩
  · obtain ⟨bs, r2⟩ := Dp.reads I (.tuple ds) y u he ry
    exact SeqAt.in_tuple_reads r2 r1 le ld (by omega) ⟨.bl _, H, I, rfl, by simpa using q⟩
theorem op_notInR (hu : X.A.units + 64 < cLine) : OpR X (compareOp .NotIn) (rInR X.K true) := by
  intro pins s σ H x y v u Q I rx ry h
  obtain ⟨d, ds, hd, he, ld, le, hm, q⟩ := h
  obtain ⟨as, r1⟩ := Dp.reads I d x v hd rx
  rcases he with he | he
  · obtain ⟨bs, r2⟩ := Dp.reads I (.list ds) y u he ry
    exact SeqAt.notIn_list_reads r2 r1 le ld (by omega) ⟨.bl _, H, I, rfl, by simpa using q⟩
  · obtain ⟨bs, r2⟩ := Dp.reads I (.tuple ds) y u he ry
    exact SeqAt.notIn_tuple_reads r2 r1 le ld (by omega) ⟨.bl _, H, I, rfl, by simpa using q⟩
end
end Hf
end

section
set_option Elab.async false
set_option linter.all false
set_option maxRecDepth 100000
/-! HfS2: operators, comparisons, tests, by trees. -/
namespace Hf
open PySem PySem.Spec PyProof.Rows L2
theorem lim_eq : sizeLim = sizeLine := by rw [sizeLine_eq]; rfl
section
variable {X : Cx} {d : D} {W : WX} {a b c : Expr} {pos : Pos} {ma mb mc : Env → Store → Res T}
theorem s_bin {op : Operator} {r2 : R2} (ho : OpR X (binaryOp op) r2) (f : T → T → Option T)
    (hf : ∀ {G S H x y v w t Q}, RepS d G S H → RepV d G x v → RepV d G y w → f x y = some t → (∀ G' b H', Step G G' H H' → RepS d G' S H' → RepV d G' t b → Q b H') → r2 v w H Q)
    (ha : PE X a (tE d W ma)) (hb : PE X b (tE d W mb)) : PE X (.BinOp a op b pos) (tE d W fun r S => (ma r S).bind fun x S => (mb r S).bind fun y S => Res.of (f x y) S) := by
  refine PE_imp (pe_op ho ha hb) fun σ H Q ⟨G, r, S, RS, RE, q⟩ => ?_
  refine ⟨G, r, S, RS, RE, q.bind fun x S1 G1 v H1 s1 R1 rv h1 => ⟨G1, r, S1, R1, RE.step s1, h1.bind fun y S2 G2 w H2 s2 R2 rw h2 => ?_⟩⟩
  obtain ⟨t, e, k⟩ := h2.ofO
  exact hf R2 (RepV.le s2.le x rv) rw e k
def rAdd (K : PySem.W.Frag) : R2 := fun x y H Q => (∃ i j, x = .int i ∧ y = .int j ∧ Q (.int (i + j)) H) ∨ ((∃ i j, x = .str i ∧ y = .str j ∧ i.length + j.length ≤ sizeLine ∧ Q (.str (i ++ j)) H) ∨ rCatA K x y H Q)
theorem op_addR : OpR X (binaryOp .Add) (rAdd X.K) := OpR.or op_add (OpR.or op_add_str op_catA)
theorem sk_len (s : List Nat) : (sk s).length = s.length := by simp [Str.length]
theorem sk_app (s t : List Nat) : sk s ++ sk t = sk (s ++ t) := SX.S_cat s t
theorem s_add (hK : d.K = X.K) (ha : PE X a (tE d W ma)) (hb : PE X b (tE d W mb)) : PE X (.BinOp a .Add b pos) (tE d W fun r S => (ma r S).bind fun x S => (mb r S).bind fun y S => Res.of (Op2.add.ev x y) S) := by
  refine s_bin op_addR Op2.add.ev (fun {G S H x y v w t Q} R rv rw' e k => ?_) ha hb
  unfold Op2.ev at e
  split at e <;> try contradiction
  · cases e; cases rv; cases rw'
    exact .inl ⟨_, _, rfl, rfl, k G _ H (Step.refl _ _) R rfl⟩
  · split at e <;> try contradiction
    rename_i hl
    cases e
    obtain ⟨rfl, z1, o1⟩ := rv
    obtain ⟨rfl, z2, o2⟩ := rw'
    rw [lim_eq] at hl
    refine .inr (.inl ⟨_, _, rfl, rfl, by rw [sk_len, sk_len]; exact hl, ?_⟩)
    rw [sk_app]
    exact k G _ H (Step.refl _ _) R ⟨rfl, by rw [List.length_append]; exact hl, by rw [List.all_append, o1, o2]; rfl⟩
  · split at e <;> try contradiction
    rename_i xs ys _ hl
    cases e
    obtain ⟨p, vs, rfl, q1, z1, r1⟩ := rv
    obtain ⟨p2, ws, rfl, q2, z2, r2⟩ := rw'
    rw [lim_eq] at hl
    have l1 := r1.length
    have l2 := r2.length
    have hl2 : vs.length + ws.length ≤ sizeLine := by omega
    refine .inr (.inr ⟨p, p2, vs, ws, rfl, rfl, hK ▸ R.sqT q1, hK ▸ R.sqT q2, hl2, fun e => ?_, fun _ e => ?_, fun _ _ n hn => ?_⟩)
    · subst e
      have : xs = [] := List.length_eq_zero_iff.mp (by simpa using l1)
      subst this
      exact k G _ H (Step.refl _ _) R ⟨p2, ws, rfl, q2, z2, r2⟩
    · subst e
      have : ys = [] := List.length_eq_zero_iff.mp (by simpa using l2)
      subst this
      exact k G _ H (Step.refl _ _) R ⟨p, vs, rfl, q1, z1, by rw [List.append_nil]; exact r1⟩
    · obtain ⟨s2, R2, v2⟩ := new_tup (xs := xs ++ ys) R (by rw [List.length_append]; exact hl2) (r1.append r2) hn
      exact k _ _ _ s2 R2 v2
theorem s_sub2 (ha : PE X a (tE d W ma)) (hb : PE X b (tE d W mb)) : PE X (.BinOp a .Sub b pos) (tE d W fun r S => (ma r S).bind fun x S => (mb r S).bind fun y S => Res.of (Op2.sub.ev x y) S) := by
  refine s_bin op_sub Op2.sub.ev (fun {G S H x y v w t Q} R rv rw' e k => ?_) ha hb
  unfold Op2.ev at e
  split at e <;> try contradiction
  cases e; cases rv; cases rw'
  exact ⟨_, _, rfl, rfl, k G _ H (Step.refl _ _) R rfl⟩
theorem s_mod (ha : PE X a (tE d W ma)) (hb : PE X b (tE d W mb)) : PE X (.BinOp a .Mod b pos) (tE d W fun r S => (ma r S).bind fun x S => (mb r S).bind fun y S => Res.of (Op2.mod.ev x y) S) := by
  refine s_bin op_mod Op2.mod.ev (fun {G S H x y v w t Q} R rv rw' e k => ?_) ha hb
  unfold Op2.ev at e
  split at e <;> try contradiction
  split at e <;> try contradiction
  rename_i h
  cases e; cases rv; cases rw'
  exact ⟨_, _, rfl, rfl, h, k G _ H (Step.refl _ _) R rfl⟩
theorem s_fdiv (ha : PE X a (tE d W ma)) (hb : PE X b (tE d W mb)) : PE X (.BinOp a .FloorDiv b pos) (tE d W fun r S => (ma r S).bind fun x S => (mb r S).bind fun y S => Res.of (Op2.fdiv.ev x y) S) := by
  refine s_bin op_fdiv Op2.fdiv.ev (fun {G S H x y v w t Q} R rv rw' e k => ?_) ha hb
  unfold Op2.ev at e
  split at e <;> try contradiction
  split at e <;> try contradiction
  rename_i h
  cases e; cases rv; cases rw'
  exact ⟨_, _, rfl, rfl, h, k G _ H (Step.refl _ _) R rfl⟩
theorem s_mul (hK : d.K = X.K) (ha : PE X a (tE d W ma)) (hb : PE X b (tE d W mb)) : PE X (.BinOp a .Mult b pos) (tE d W fun r S => (ma r S).bind fun x S => (mb r S).bind fun y S => Res.of (Op2.mul.ev x y) S) := by
  refine s_bin (OpR.or op_mul op_repT) Op2.mul.ev (fun {G S H x y v w t Q} R rv rw' e k => ?_) ha hb
  unfold Op2.ev at e
  split at e <;> try contradiction
  · split at e <;> try contradiction
    rename_i h
    cases e; cases rv; cases rw'
    exact .inl ⟨_, _, rfl, rfl, h.elim (fun q => .inr q) fun q => .inl q, k G _ H (Step.refl _ _) R rfl⟩
  · split at e <;> try contradiction
    rename_i xs n _ h
    cases e; cases rw'
    obtain ⟨p, vs, rfl, q1, z1, r1⟩ := rv
    have l1 := r1.length
    obtain ⟨h1, h2, h3, h4⟩ := h
    refine .inr ⟨p, n, vs, rfl, rfl, hK ▸ R.sqT q1, fun e => h1 (List.length_eq_zero_iff.mp (by rw [l1, e]; rfl)), h2, h3, by omega, fun q hq => ?_⟩
    have hz : (List.replicate n.toNat vs).flatten.length ≤ sizeLine := by
      rw [List.length_flatten, List.map_replicate, List.sum_replicate_nat, sizeLine_eq]
      have : n.toNat ≤ 1000 := by omega
      calc n.toNat * vs.length ≤ 1000 * 1000 := Nat.mul_le_mul this (by omega)
        _ ≤ _ := by decide
    obtain ⟨s2, R2, v2⟩ := new_tup (xs := (List.replicate n.toNat xs).flatten) R hz (r1.replicate _) hq
    exact k _ _ _ s2 R2 v2
theorem s_neg (ha : PE X a (tE d W ma)) : PE X (.UnaryOp .USub a pos) (tE d W fun r S => (ma r S).bind fun x S => asI x S fun i S => .ok (.int (-i)) S) := by
  refine PE_imp (pe_un un_neg ha) fun σ H Q ⟨G, r, S, RS, RE, q⟩ => ?_
  refine ⟨G, r, S, RS, RE, q.bind fun x S1 G1 v H1 s1 R1 rv h1 => ?_⟩
  cases x <;> try exact h1.elim
  cases rv
  exact ⟨_, rfl, h1 G1 _ H1 (Step.refl _ _) R1 rfl⟩

/-! ### comparisons -/
theorem isin_flat {xs : List T} {x : T} : T.pys xs = xs.map T.py := pys_map xs
theorem any_py : ∀ {xs : List T} {x : T}, T.dataAll xs = true → x.data = true → ((T.pys xs).any fun z => PyData.eqv z x.py) = xs.any fun y => T.eqv y x
  | [], _, _, _ => rfl
  | y :: xs, x, h, hx => by
    have h' : y.data = true ∧ T.dataAll xs = true := by simpa [T.dataAll] using h
    rw [T.pys, List.any_cons, List.any_cons, py_eqv y x h'.1 hx, any_py h'.2 hx]
theorem op_in_signR : OpR X (compareOp .In) (fun x y H Q => ∃ (i : Nat) (j : List Nat), x = .str (sk [i]) ∧ y = .str (sk j) ∧ Q (.bl (j.contains i)) H) := by
  intro pins s σ H x y v u Q I rx ry h
  obtain ⟨i, j, rfl, rfl, q⟩ := h
  refine op_in_str pins s σ H _ _ v u Q I rx ry ⟨_, _, rfl, rfl, ?_⟩
  rw [SX.in_one]
  simpa using q
theorem op_notin_signR : OpR X (compareOp .NotIn) (fun x y H Q => ∃ (i : Nat) (j : List Nat), x = .str (sk [i]) ∧ y = .str (sk j) ∧ Q (.bl (!j.contains i)) H) := by
  intro pins s σ H x y v u Q I rx ry h
  obtain ⟨i, j, rfl, rfl, q⟩ := h
  refine op_notin_str pins s σ H _ _ v u Q I rx ry ⟨_, _, rfl, rfl, ?_⟩
  rw [SX.in_one]
  simpa using q
end
end Hf
end

section
set_option Elab.async false
set_option linter.all false
set_option maxRecDepth 100000
/-! HfS3: comparisons and tests by trees. -/
namespace Hf
open PySem PySem.Spec PyProof.Rows L2
section
variable {X : Cx}
/-! ### rules -/
def rInD2 (K : PySem.W.Frag) (w : World) (neg : Bool) : R2 := fun x y H Q => ∃ z a o, x = .str z ∧ y = .ref a ∧ ((∃ kvs, H a = some (.dK kvs) ∧ o = (valV kvs (Sum.inr z : Key)).isSome) ∨ ∃ es n r, KDict K w a es n ∧ PySem.W.nsIn K a z = some r ∧ o = r.isSome) ∧ Q (.bl (o != neg)) H
theorem op_inDic (hu : X.A.units + 1 < cLine) : OpR X (compareOp .In) (rInD2 X.K X.w false) := by
  intro pins s σ H x y v u Q I rx ry h
  obtain ⟨z, a, o, rfl, rfl, h, q⟩ := h
  cases ry
  rcases h with ⟨kvs, hd, rfl⟩ | ⟨es, n, r, D, e, rfl⟩
  · exact d_in hu I (DGet.k (k := Sum.inr z) hd) rx fun s3 I3 => ⟨.bl _, H, I3, rfl, by simpa using q⟩
  · exact op_in_kd D pins s σ H (.str z) (.ref a) v _ Q I rx rfl ⟨z, r, rfl, rfl, e, by simpa using q⟩
theorem op_notInDic (hu : X.A.units + 1 < cLine) : OpR X (compareOp .NotIn) (rInD2 X.K X.w true) := by
  intro pins s σ H x y v u Q I rx ry h
  obtain ⟨z, a, o, rfl, rfl, h, q⟩ := h
  cases ry
  rcases h with ⟨kvs, hd, rfl⟩ | ⟨es, n, r, D, e, rfl⟩
  · exact d_notIn hu I (DGet.k (k := Sum.inr z) hd) rx fun s3 I3 => ⟨.bl _, H, I3, rfl, by simpa using q⟩
  · exact op_notIn_kd D pins s σ H (.str z) (.ref a) v _ Q I rx rfl ⟨z, r, rfl, rfl, e, by simpa using q⟩
/-- x is k, k None, True or False -/
theorem plain_of {x k : V} {v u : Value} (hk : k = .non ∨ ∃ b, k = .bl b) (rx : RelV x v) (rk : RelV k u) : plainIs v u = true := by
  rcases hk with rfl | ⟨b, rfl⟩
  · cases rk
    cases x with
    | non => cases rx; rfl
    | bl _ => cases rx; rfl
    | int _ => obtain ⟨t, rfl⟩ := rx; rfl
    | str _ => obtain ⟨t, rfl⟩ := rx; rfl
    | byt _ => obtain ⟨t, rfl⟩ := rx; rfl
    | flt _ => obtain ⟨t, rfl⟩ := rx; rfl
    | ref _ => cases rx; rfl
    | ty _ => cases rx; rfl
  · cases rk
    cases x with
    | non => cases rx; rfl
    | bl _ => cases rx; rfl
    | int _ => obtain ⟨t, rfl⟩ := rx; rfl
    | str _ => obtain ⟨t, rfl⟩ := rx; rfl
    | byt _ => obtain ⟨t, rfl⟩ := rx; rfl
    | flt _ => obtain ⟨t, rfl⟩ := rx; rfl
    | ref _ => cases rx; rfl
    | ty _ => cases rx; rfl
theorem is_dec {x k : V} {v u : Value} (hk : k = .non ∨ ∃ b, k = .bl b) (rx : RelV x v) (rk : RelV k u) : (v == u) = decide (x = k) := by
  by_cases e : x = k
  · subst e
    have : v = u := by
      rcases hk with rfl | ⟨b, rfl⟩ <;> (cases rx; cases rk; rfl)
    rw [this, beq_self_eq_true, decide_eq_true rfl]
  · rw [decide_eq_false e]
    refine beq_eq_false_iff_ne.mpr fun z => e ?_
    subst z
    exact rx.inj rk
def rIs (neg : Bool) : R2 := fun x y H Q => (y = .non ∨ ∃ b, y = .bl b) ∧ Q (.bl (decide (x = y) != neg)) H
theorem op_isR : OpR X (compareOp .Is) (rIs false) := by
  intro pins s σ H x y v u Q I rx ry h
  exact wpAny_is_plain (plain_of h.1 rx ry) ⟨.bl _, H, I, by rw [is_dec h.1 rx ry]; rfl, by simpa using h.2⟩
theorem op_isNotR : OpR X (compareOp .IsNot) (rIs true) := by
  intro pins s σ H x y v u Q I rx ry h
  exact wpAny_isNot_plain (plain_of h.1 rx ry) ⟨.bl _, H, I, by rw [is_dec h.1 rx ry]; rfl, by simpa using h.2⟩
end
def Cmp.ast : Cmp → CmpOp
  | .eq => .Eq | .ne => .NotEq | .lt => .Lt | .le => .LtE | .gt => .Gt | .ge => .GtE | .isin => .In | .notin => .NotIn
/-- what a comparison's rule asks -/
def CmpR (X : Cx) (d : D) (c : Cmp) (r : R2) : Prop := OpR X (compareOp c.ast) r ∧ ∀ {G S H x y v w b Q}, RepS d G S H → RdV d G H x v → RdV d G H y w → c.ev x y = some b → Q (.bl b) H → r v w H Q
section
variable {X : Cx} {d : D}
theorem eqs_some {a b : T} {k : Bool} (h : T.eqs a b = some k) : a.data = true ∧ b.data = true ∧ min a.depth b.depth ≤ 60 ∧ k = T.eqv a b := by
  unfold T.eqs at h
  split at h <;> try contradiction
  rename_i e
  simp only [Bool.and_eq_true, decide_eq_true_eq] at e
  exact ⟨e.1.1, e.1.2, e.2, (Option.some.inj h).symm⟩
theorem rd_nodata {G : Gh} {H : Hp} {t : T} {v : V} : True := True.intro
theorem c_eq (hK : d.K = X.K) (hu : X.A.units + 64 < cLine) : CmpR X d .eq (rEqR X.K false) := by
  refine ⟨op_eqR hu, fun {G S H x y v w b Q} R rx ry e q => ?_⟩
  obtain ⟨d1, d2, dm, rfl⟩ := eqs_some (show T.eqs x y = some b from e)
  refine ⟨x.py, y.py, hK ▸ rd_dp R d1 rx, hK ▸ rd_dp R d2 ry, rd_lay rx d1, rd_lay ry d2, by rw [py_depth x d1, py_depth y d2]; exact dm, ?_⟩
  rw [py_eqv x y d1 d2]
  simpa using q
theorem c_ne (hK : d.K = X.K) (hu : X.A.units + 64 < cLine) : CmpR X d .ne (rEqR X.K true) := by
  refine ⟨op_neR hu, fun {G S H x y v w b Q} R rx ry e q => ?_⟩
  have e : (T.eqs x y).map (!·) = some b := e
  obtain ⟨k, e1, e2⟩ := Option.map_eq_some_iff.mp e
  obtain ⟨d1, d2, dm, rfl⟩ := eqs_some e1
  refine ⟨x.py, y.py, hK ▸ rd_dp R d1 rx, hK ▸ rd_dp R d2 ry, rd_lay rx d1, rd_lay ry d2, by rw [py_depth x d1, py_depth y d2]; exact dm, ?_⟩
  rw [py_eqv x y d1 d2]
  subst e2
  simpa using q
theorem c_lt : CmpR X d .lt (rI0 fun i j => .bl (decide (i < j))) := by
  refine ⟨op_lt, fun {G S H x y v w b Q} R rx ry e q => ?_⟩
  cases x <;> cases y <;> simp only [Cmp.ev] at e <;> try contradiction
  cases e; cases rx; cases ry
  exact ⟨_, _, rfl, rfl, q⟩
theorem c_gt : CmpR X d .gt (rI0 fun i j => .bl (decide (j < i))) := by
  refine ⟨op_gt, fun {G S H x y v w b Q} R rx ry e q => ?_⟩
  cases x <;> cases y <;> simp only [Cmp.ev] at e <;> try contradiction
  cases e; cases rx; cases ry
  exact ⟨_, _, rfl, rfl, q⟩
theorem c_ge : CmpR X d .ge (rI0 fun i j => .bl (decide (j ≤ i))) := by
  refine ⟨op_ge, fun {G S H x y v w b Q} R rx ry e q => ?_⟩
  cases x <;> cases y <;> simp only [Cmp.ev] at e <;> try contradiction
  cases e; cases rx; cases ry
  exact ⟨_, _, rfl, rfl, q⟩
theorem lexLt_iff : ∀ a b : List Nat, lexLt a b = decide (a < b)
  | [], [] => by simp [lexLt]
  | [], _ :: _ => by simp [lexLt]
  | _ :: _, [] => by simp [lexLt]
  | a :: r, b :: s => by
    unfold lexLt
    rw [lexLt_iff r s]
    by_cases h : a < b
    · simp [h, List.cons_lt_cons_iff]
    · by_cases h2 : a = b
      · subst h2; simp [List.cons_lt_cons_iff]
      · simp [h, h2, List.cons_lt_cons_iff]
theorem op_le_strR : OpR X (compareOp .LtE) (fun x y H Q => ∃ i j, x = .str (sk i) ∧ y = .str (sk j) ∧ Q (.bl (!lexLt j i)) H) := by
  intro pins s σ H x y v u Q I rx ry h
  obtain ⟨i, j, rfl, rfl, q⟩ := h
  obtain ⟨t, rfl⟩ := rx
  obtain ⟨t', rfl⟩ := ry
  refine PySem.P.le_str (fin_bl I q ?_)
  rw [lexLt_iff]
theorem c_le : CmpR X d .le (fun x y H Q => rI0 (fun i j => .bl (decide (i ≤ j))) x y H Q ∨ ∃ i j, x = .str (sk i) ∧ y = .str (sk j) ∧ Q (.bl (!lexLt j i)) H) := by
  refine ⟨OpR.or op_le op_le_strR, fun {G S H x y v w b Q} R rx ry e q => ?_⟩
  cases x <;> cases y <;> simp only [Cmp.ev] at e <;> try contradiction
  · cases e; cases rx; cases ry
    exact .inl ⟨_, _, rfl, rfl, q⟩
  · cases e
    obtain ⟨rfl, _⟩ := rx
    obtain ⟨rfl, _⟩ := ry
    exact .inr ⟨_, _, rfl, rfl, q⟩
theorem inItems_some {x : T} {xs : List T} {k : Bool} (h : inItems x xs = some k) : x.data = true ∧ T.dataAll xs = true ∧ min (T.depthAll xs) x.depth ≤ 60 ∧ k = xs.any fun y => T.eqv y x := by
  unfold inItems at h
  split at h <;> try contradiction
  rename_i e
  simp only [Bool.and_eq_true, decide_eq_true_eq] at e
  exact ⟨e.1.1, e.1.2, e.2, (Option.some.inj h).symm⟩
def rInAll (K : PySem.W.Frag) (w : World) (neg : Bool) : R2 := fun x y H Q => rInR K neg x y H Q ∨ ((∃ (i : Nat) (j : List Nat), x = .str (sk [i]) ∧ y = .str (sk j) ∧ Q (.bl (j.contains i != neg)) H) ∨ rInD2 K w neg x y H Q)
theorem op_sgn : OpR X (compareOp .In) (fun x y H Q => ∃ (i : Nat) (j : List Nat), x = .str (sk [i]) ∧ y = .str (sk j) ∧ Q (.bl (j.contains i != false)) H) := fun pins s σ H x y v u Q I rx ry ⟨i, j, e1, e2, q⟩ =>
  op_in_signR pins s σ H x y v u Q I rx ry ⟨i, j, e1, e2, by simpa using q⟩
theorem op_nsgn : OpR X (compareOp .NotIn) (fun x y H Q => ∃ (i : Nat) (j : List Nat), x = .str (sk [i]) ∧ y = .str (sk j) ∧ Q (.bl (j.contains i != true)) H) := fun pins s σ H x y v u Q I rx ry ⟨i, j, e1, e2, q⟩ =>
  op_notin_signR pins s σ H x y v u Q I rx ry ⟨i, j, e1, e2, by simpa using q⟩
theorem dlookV_some : ∀ {kvs : List (T × T)} {vs : List V} {G : Gh}, RepKs d G kvs vs → ∀ z : List Nat, (dlookV (kvs.map (·.1)) vs z).isSome = (dlook kvs z).isSome
  | [], [], _, _, _ => rfl
  | [], _ :: _, _, r, _ => r.elim
  | _ :: _, [], _, r, _ => r.elim
  | (k, x) :: kvs, v :: vs, G, r, z => by
    have ih := dlookV_some r.2 z
    cases k <;> first | exact ih | skip
    rename_i s
    show (if s = z then some v else dlookV (kvs.map (·.1)) vs z).isSome = (if s = z then some x else dlook kvs z).isSome
    split
    · rfl
    · exact ih
theorem isin_ok (hK : d.K = X.K) (hw : d.w = X.w) {neg : Bool} {G : Gh} {S : Store} {H : Hp} {x y : T} {v w : V} {b : Bool} {Q : VK} (R : RepS d G S H) (rx : RdV d G H x v) (ry : RdV d G H y w) (e : T.isin x y = some b) (q : Q (.bl (b != neg)) H) : rInAll X.K X.w neg v w H Q := by
  have lists : ∀ xs, (y = .lst xs ∨ y = .tup xs) → inItems x xs = some b → rInAll X.K X.w neg v w H Q := fun xs hy e => by
    obtain ⟨d1, d2, dm, rfl⟩ := inItems_some e
    refine .inl ⟨x.py, T.pys xs, hK ▸ rd_dp R d1 rx, ?_, rd_lay rx d1, ?_, by rw [pys_depth xs d2, py_depth x d1]; exact dm, ?_⟩
    · rcases hy with rfl | rfl
      · have : Dp d.K H w (T.lst xs).py := rd_dp R (by simpa [T.data] using d2) ry
        rw [hK] at this
        exact .inl this
      · have : Dp d.K H w (T.tup xs).py := rd_dp R (by simpa [T.data] using d2) ry
        rw [hK] at this
        exact .inr this
    · rcases hy with rfl | rfl
      · have := rd_lay ry (by simpa [T.data] using d2)
        simpa [T.py, PyData.canLay0] using this
      · have := rd_lay ry (by simpa [T.data] using d2)
        simpa [T.py, PyData.canLay0] using this
    · rw [any_py d2 d1]; exact q
  unfold T.isin at e
  split at e
  · exact lists _ (.inl rfl) e
  · exact lists _ (.inr rfl) e
  · split at e <;> try contradiction
    split at e <;> try contradiction
    cases e
    obtain ⟨rfl, _⟩ := rx
    obtain ⟨rfl, _⟩ := ry
    exact .inr (.inl ⟨_, _, rfl, rfl, q⟩)
  · split at e <;> try contradiction
    cases e
    obtain ⟨rfl, _⟩ := rx
    obtain ⟨a, vs, rfl, hd, rk⟩ := ry
    refine .inr (.inr ⟨_, a, _, rfl, rfl, ?_, q⟩)
    rw [← dlookV_some rk]
    rcases hd with ⟨kvs, h1, h2⟩ | ⟨es, n, kd, h2⟩
    · exact .inl ⟨kvs, R.imm _ _ h1, by rw [h2]⟩
    · obtain ⟨r, h3, h4⟩ := h2 (by assumption)
      refine .inr ⟨es, n, r, hK ▸ hw ▸ kd, hK ▸ h3, ?_⟩
      revert h4
      generalize dlookV _ _ _ = o
      intro h4
      cases o <;> cases r <;> first | rfl | exact h4.elim
  · cases e
theorem c_in (hK : d.K = X.K) (hw : d.w = X.w) (hu : X.A.units + 64 < cLine) : CmpR X d .isin (rInAll X.K X.w false) :=
  ⟨OpR.or (op_inR hu) (OpR.or op_sgn (op_inDic (by omega))), fun {G S H x y v w b Q} R rx ry e q => isin_ok hK hw R rx ry e (by simpa using q)⟩
theorem c_notin (hK : d.K = X.K) (hw : d.w = X.w) (hu : X.A.units + 64 < cLine) : CmpR X d .notin (rInAll X.K X.w true) := by
  refine ⟨OpR.or (op_notInR hu) (OpR.or op_nsgn (op_notInDic (by omega))), fun {G S H x y v w b Q} R rx ry e q => ?_⟩
  have e : (T.isin x y).map (!·) = some b := e
  obtain ⟨k, e1, e2⟩ := Option.map_eq_some_iff.mp e
  exact isin_ok hK hw R rx ry e1 (by subst e2; simpa using q)
theorem c_all (hK : d.K = X.K) (hw : d.w = X.w) (hu : X.A.units + 64 < cLine) : ∀ c : Cmp, ∃ r, CmpR X d c r
  | .eq => ⟨_, c_eq hK hu⟩
  | .ne => ⟨_, c_ne hK hu⟩
  | .lt => ⟨_, c_lt⟩
  | .le => ⟨_, c_le⟩
  | .gt => ⟨_, c_gt⟩
  | .ge => ⟨_, c_ge⟩
  | .isin => ⟨_, c_in hK hw hu⟩
  | .notin => ⟨_, c_notin hK hw hu⟩
end
end Hf
end

section
set_option Elab.async false
set_option linter.all false
set_option maxRecDepth 100000
/-! HfS4: comparisons, and, or, not, if-expressions: as values and as tests. -/
namespace Hf
open PySem PySem.Spec PyProof.Rows L2
section
variable {X : Cx} {d : D} {W : WX} {a b e : Expr} {pos : Pos} {ma mb mc : Env → Store → Res T}
/-- what a compared pair tells -/
theorem cmp_fin {c : Cmp} {r2 : R2} (hc : CmpR X d c r2) {G : Gh} {r : Env} {S : Store} {σ : L2.St} {H : Hp} {x y : T} {v w : V} {Q : VK} (R : RepS d G S H) (E : RepE d G r σ H) (rx : RepW d G r σ x v) (ry : RepW d G r σ y w)
    (h : Post d W σ (RV d r σ H) G H Q (Res.of ((c.ev (look S x) (look S y)).map .bl) S)) : r2 v w H Q := by
  obtain ⟨t, e, k⟩ := h.ofO
  obtain ⟨b, e1, rfl⟩ := Option.map_eq_some_iff.mp e
  exact hc.2 R (rx.rd R E) (ry.rd R E) e1 (k G _ H (Step.refl _ _) R rfl)
def cmpM (c : Cmp) (ma mb : Env → Store → Res T) : Env → Store → Res T := fun r S => (ma r S).bind fun x S => (mb r S).bind fun y S => Res.of ((c.ev (look S x) (look S y)).map .bl) S
theorem s_cmp {c : Cmp} {r2 : R2} (hc : CmpR X d c r2) (hm : behindInMarks c.ast b = false) (ha : PE X a (tW d W ma)) (hb : PE X b (tW d W mb)) :
    PE X (.Compare a [c.ast] [b] pos) (tE d W (cmpM c ma mb)) := by
  refine PE_imp (pe_cmpR hc.1 ha hb hm) fun σ H Q ⟨G, r, S, RS, RE, q⟩ => ?_
  exact ⟨G, r, S, RS, RE, q.bind fun x S1 G1 v H1 s1 R1 rv h1 => ⟨G1, r, S1, R1, RE.step s1, h1.bind fun y S2 G2 w H2 s2 R2 rw h2 => cmp_fin hc R2 ((RE.step s1).step s2) (RepW.le s2.le rv) rw h2⟩⟩
theorem s_cmpT {c : Cmp} {r2 : R2} (hc : CmpR X d c r2) (hm : behindInMarks c.ast b = false) (ha : PE X a (tW d W ma)) (hb : PE X b (tW d W mb)) :
    PT X (.Compare a [c.ast] [b] pos) (tBo d W (cmpM c ma mb)) := by
  refine PT_imp (pt_cmpR hc.1 ha hb hm) fun σ H Q ⟨G, r, S, RS, RE, q⟩ => ?_
  unfold toB cmpM at q
  refine ⟨G, r, S, RS, RE, ?_⟩
  cases em : ma r S with
  | exn c S1 => rw [em] at q; exact q
  | bad => rw [em] at q; exact q
  | ok x S1 =>
    rw [em] at q
    intro G1 v H1 s1 R1 rv
    refine ⟨G1, r, S1, R1, RE.step s1, ?_⟩
    have q1 := Post.later q s1
    cases em2 : mb r S1 with
    | exn c S1 => simp only [Res.bind, em2] at q1; exact q1
    | bad => simp only [Res.bind, em2] at q1; exact q1
    | ok y S2 =>
      simp only [Res.bind, em2] at q1
      intro G2 w H2 s2 R2 rw
      have q2 := Post.later q1 s2
      cases e : c.ev (look S2 x) (look S2 y) with
      | none => simp only [e, Option.map, Res.of] at q2; exact q2.elim
      | some k =>
        simp only [e, Option.map, Res.of] at q2
        exact hc.2 R2 ((RepW.le s2.le rv).rd R2 ((RE.step s1).step s2)) (rw.rd R2 ((RE.step s1).step s2)) e ⟨k, rfl, q2 G2 k H2 (Step.refl _ _) R2 rfl⟩
def chainM (c c' : Cmp) (ma mb mc : Env → Store → Res T) : Env → Store → Res T := fun r S => (ma r S).bind fun x S => (mb r S).bind fun y S => match c.ev x y with
    | some true => (mc r S).bind fun z S => Res.of ((c'.ev y z).map .bl) S
    | some false => .ok (.bl false) S
    | none => .bad
theorem s_chain {c c' : Cmp} {r2 r2' : R2} (hc : CmpR X d c r2) (hc' : CmpR X d c' r2') (hm : lastMarks [c.ast, c'.ast] [b, e] = false) (ha : PE X a (tE d W ma)) (hb : PE X b (tE d W mb)) (he : PE X e (tE d W mc)) :
    PE X (.Compare a [c.ast, c'.ast] [b, e] pos) (tE d W (chainM c c' ma mb mc)) := by
  refine PE_imp (pe_chain hc.1 hc'.1 ha hb he hm) fun σ H Q ⟨G, r, S, RS, RE, q⟩ => ?_
  refine ⟨G, r, S, RS, RE, q.bind fun x S1 G1 v H1 s1 R1 rv h1 => ⟨G1, r, S1, R1, RE.step s1, h1.bind fun y S2 G2 w H2 s2 R2 rw h2 => ?_⟩⟩
  cases ec : c.ev x y with
  | none => rw [ec] at h2; exact h2.elim
  | some k =>
    rw [ec] at h2
    refine hc.2 R2 (RdV.of R2 x (RepV.le s2.le x rv)) (RdV.of R2 y rw) ec ⟨k, rfl, ?_⟩
    cases k with
    | false => exact iteF (h2 G2 _ H2 (Step.refl _ _) R2 rfl)
    | true =>
      refine iteT ⟨G2, r, S2, R2, (RE.step s1).step s2, h2.bind fun z S3 G3 u H3 s3 R3 ru h3 => ?_⟩
      obtain ⟨t, e1, k⟩ := h3.ofO
      obtain ⟨b', e2, rfl⟩ := Option.map_eq_some_iff.mp e1
      exact hc'.2 R3 (RdV.of R3 y (RepV.le s3.le y rw)) (RdV.of R3 z ru) e2 (k G3 _ H3 (Step.refl _ _) R3 rfl)
theorem s_chainT {c c' : Cmp} {r2 r2' : R2} (hc : CmpR X d c r2) (hc' : CmpR X d c' r2') (hm : lastMarks [c.ast, c'.ast] [b, e] = false) (ha : PE X a (tE d W ma)) (hb : PE X b (tE d W mb)) (he : PE X e (tE d W mc)) :
    PT X (.Compare a [c.ast, c'.ast] [b, e] pos) (tBo d W (chainM c c' ma mb mc)) := by
  refine PT_imp (pt_chain hc.1 hc'.1 ha hb he hm) fun σ H Q ⟨G, r, S, RS, RE, q⟩ => ?_
  unfold toB chainM at q
  refine ⟨G, r, S, RS, RE, ?_⟩
  cases em : ma r S with
  | exn c S1 => rw [em] at q; exact q
  | bad => rw [em] at q; exact q
  | ok x S1 =>
    rw [em] at q
    intro G1 v H1 s1 R1 rv
    refine ⟨G1, r, S1, R1, RE.step s1, ?_⟩
    have q1 := Post.later q s1
    cases em2 : mb r S1 with
    | exn c S1 => simp only [Res.bind, em2] at q1; exact q1
    | bad => simp only [Res.bind, em2] at q1; exact q1
    | ok y S2 =>
      simp only [Res.bind, em2] at q1
      intro G2 w H2 s2 R2 rw
      have q2 := Post.later q1 s2
      cases ec : c.ev x y with
      | none => simp only [ec] at q2; exact q2.elim
      | some k =>
        simp only [ec] at q2
        refine hc.2 R2 (RdV.of R2 x (RepV.le s2.le x rv)) (RdV.of R2 y rw) ec ⟨k, rfl, ?_⟩
        cases k with
        | false => exact iteF ⟨false, rfl, q2 G2 _ H2 (Step.refl _ _) R2 rfl⟩
        | true =>
          refine iteT ⟨G2, r, S2, R2, (RE.step s1).step s2, ?_⟩
          cases em3 : mc r S2 with
          | exn c S1 => simp only [em3] at q2; exact q2
          | bad => simp only [em3] at q2; exact q2
          | ok z S3 =>
            simp only [em3] at q2
            intro G3 u H3 s3 R3 ru
            have q3 := Post.later q2 s3
            cases ec' : c'.ev y z with
            | none => simp only [ec', Option.map, Res.of] at q3; exact q3.elim
            | some k' =>
              simp only [ec', Option.map, Res.of] at q3
              exact hc'.2 R3 (RdV.of R3 y (RepV.le s3.le y rw)) (RdV.of R3 z ru) ec' ⟨k', rfl, q3 G3 _ H3 (Step.refl _ _) R3 rfl⟩
/-! ### is -/
def kV' : T → Option V
  | .non => some .non
  | .bl b => some (.bl b)
  | _ => none
theorem isK_ok {G : Gh} {S : Store} {H : Hp} {x k : T} {v w : V} {c : Bool} (e : x.isK k = some c) (hk : kV' k = some w) (rv : RepV d G x v) : c = decide (v = w) ∧ (w = .non ∨ ∃ b, w = .bl b) := by
  cases k <;> simp only [T.isK] at e <;> try contradiction
  · cases hk; cases e
    refine ⟨?_, .inl rfl⟩
    cases x <;> simp only [RepV] at rv <;> first | (subst rv; rfl) | (obtain ⟨rfl, _⟩ := rv; rfl) | (obtain ⟨_, _, rfl, _⟩ := rv; rfl) | (obtain ⟨_, rfl, _⟩ := rv; rfl) | (obtain ⟨_, _, _, _, rfl, _⟩ := rv; rfl)
  · cases hk; cases e
    refine ⟨?_, .inr ⟨_, rfl⟩⟩
    cases x <;> simp only [RepV] at rv <;> first | (subst rv; first | rfl | (rename_i b c; cases b <;> cases c <;> rfl)) | (obtain ⟨rfl, _⟩ := rv; rfl) | (obtain ⟨_, _, rfl, _⟩ := rv; rfl) | (obtain ⟨_, rfl, _⟩ := rv; rfl) | (obtain ⟨_, _, _, _, rfl, _⟩ := rv; rfl)
def isM (n : Bool) (ma : Env → Store → Res T) (t : T) : Env → Store → Res T := fun r S => (ma r S).bind fun x S => Res.of ((x.isK t).map fun b => .bl (b != n)) S
def isAst (n : Bool) : CmpOp := if n then .IsNot else .Is
theorem s_isK {n : Bool} {t : T} {w : V} (hk : kV' t = some w) (hb : PE X b (tC w)) (ha : PE X a (tE d W ma)) : PE X (.Compare a [isAst n] [b] pos) (tE d W (isM n ma t)) := by
  have ho : OpR X (compareOp (isAst n)) (rIs n) := by cases n; exact op_isR; exact op_isNotR
  refine PE_imp (pe_cmpR ho ha hb (by cases n <;> exact nomark b)) fun σ H Q ⟨G, r, S, RS, RE, q⟩ => ?_
  refine ⟨G, r, S, RS, RE, q.bind fun x S1 G1 v H1 s1 R1 rv h1 => ?_⟩
  obtain ⟨u, e1, k⟩ := h1.ofO
  obtain ⟨c, e2, rfl⟩ := Option.map_eq_some_iff.mp e1
  obtain ⟨rfl, e4⟩ := isK_ok (d := d) (S := S1) (H := H1) e2 hk rv
  exact ⟨e4, k G1 _ H1 (Step.refl _ _) R1 rfl⟩
theorem s_isKT {n : Bool} {t : T} {w : V} (hk : kV' t = some w) (hb : PE X b (tC w)) (ha : PE X a (tE d W ma)) : PT X (.Compare a [isAst n] [b] pos) (tBo d W (isM n ma t)) := by
  have ho : OpR X (compareOp (isAst n)) (rIs n) := by cases n; exact op_isR; exact op_isNotR
  refine PT_imp (pt_cmpR ho ha hb (by cases n <;> exact nomark b)) fun σ H Q ⟨G, r, S, RS, RE, q⟩ => ?_
  unfold toB isM at q
  refine ⟨G, r, S, RS, RE, ?_⟩
  cases em : ma r S with
  | exn c S1 => rw [em] at q; exact q
  | bad => rw [em] at q; exact q
  | ok x S1 =>
    rw [em] at q
    intro G1 v H1 s1 R1 rv
    have q1 := Post.later q s1
    cases ek : x.isK t with
    | none => simp only [Res.bind, ek, Option.map, Res.of] at q1; exact q1.elim
    | some c =>
      simp only [Res.bind, ek, Option.map, Res.of] at q1
      obtain ⟨rfl, e4⟩ := isK_ok (d := d) (S := S1) (H := H1) ek hk rv
      exact ⟨e4, _, rfl, q1 G1 _ H1 (Step.refl _ _) R1 rfl⟩
/-! ### and, or, not -/
def andM (ma mb : Env → Store → Res T) : Env → Store → Res T := fun r S => (ma r S).bind fun x S => asB x S fun c S => if c = true then (mb r S).bind fun y S => asB y S fun d S => .ok (.bl d) S else .ok (.bl false) S
def orM (ma mb : Env → Store → Res T) : Env → Store → Res T := fun r S => (ma r S).bind fun x S => asB x S fun c S => if c = true then .ok (.bl true) S else (mb r S).bind fun y S => asB y S fun d S => .ok (.bl d) S
def notM (ma : Env → Store → Res T) : Env → Store → Res T := fun r S => (ma r S).bind fun x S => asB x S fun c S => .ok (.bl (!c)) S
def ifeM (mc ma mb : Env → Store → Res T) : Env → Store → Res T := fun r S => (mc r S).bind fun x S => asB x S fun c S => if c = true then ma r S else mb r S
theorem boolify {r : Env} {σ : L2.St} {H0 G : _} {H : Hp} {Q : VK} {m : Res T} (h : Post d W σ (RV d r σ H0) G H Q (m.bind fun y S => asB y S fun c S => .ok (.bl c) S)) : Post d W σ (RV d r σ H0) G H Q m := by
  cases m with
  | ok t S => cases t <;> first | exact h | exact h.elim
  | _ => exact h
theorem s_and {rest : List Expr} {tr : Env → Store → Res T} (ha : PE X a (tE d W ma)) (hb : PE X (.BoolOp .And (b :: rest) pos) (tE d W tr)) : PE X (.BoolOp .And (a :: b :: rest) pos) (tE d W (andM ma tr)) := by
  refine PE_imp (pe_and ha hb) fun σ H Q ⟨G, r, S, RS, RE, q⟩ => ?_
  refine ⟨G, r, S, RS, RE, q.bind fun x S1 G1 v H1 s1 R1 rv h1 => ?_⟩
  cases x <;> try exact h1.elim
  rename_i c
  cases rv
  refine ⟨c, rfl, ?_⟩
  cases c with
  | false => exact iteF (h1 G1 _ H1 (Step.refl _ _) R1 rfl)
  | true => exact iteT ⟨G1, r, S1, R1, RE.step s1, boolify h1⟩
theorem s_or {rest : List Expr} {tr : Env → Store → Res T} (ha : PE X a (tE d W ma)) (hb : PE X (.BoolOp .Or (b :: rest) pos) (tE d W tr)) : PE X (.BoolOp .Or (a :: b :: rest) pos) (tE d W (orM ma tr)) := by
  refine PE_imp (pe_or ha hb) fun σ H Q ⟨G, r, S, RS, RE, q⟩ => ?_
  refine ⟨G, r, S, RS, RE, q.bind fun x S1 G1 v H1 s1 R1 rv h1 => ?_⟩
  cases x <;> try exact h1.elim
  rename_i c
  cases rv
  refine ⟨c, rfl, ?_⟩
  cases c with
  | true => exact iteT (h1 G1 _ H1 (Step.refl _ _) R1 rfl)
  | false => exact iteF ⟨G1, r, S1, R1, RE.step s1, boolify h1⟩
theorem s_not (ha : PE X a (tE d W ma)) : PE X (.UnaryOp .Not a pos) (tE d W (notM ma)) := by
  refine PE_imp (pe_not ha) fun σ H Q ⟨G, r, S, RS, RE, q⟩ => ?_
  refine ⟨G, r, S, RS, RE, q.bind fun x S1 G1 v H1 s1 R1 rv h1 => ?_⟩
  cases x <;> try exact h1.elim
  cases rv
  exact ⟨_, rfl, h1 G1 _ H1 (Step.refl _ _) R1 rfl⟩
theorem s_ife (hc : PT X e (tBo d W mc)) (ha : PE X a (tE d W ma)) (hb : PE X b (tE d W mb)) : PE X (.IfExp e a b pos) (tE d W (ifeM mc ma mb)) := by
  refine PE_imp (pe_ifExp hc ha hb) fun σ H Q ⟨G, r, S, RS, RE, q⟩ => ?_
  unfold ifeM at q
  rw [asB_eq] at q
  refine ⟨G, r, S, RS, RE, q.bind fun c S1 G1 v H1 s1 R1 rv h1 => ?_⟩
  subst rv
  cases v with
  | true => exact iteT ⟨G1, r, S1, R1, RE.step s1, h1⟩
  | false => exact iteF ⟨G1, r, S1, R1, RE.step s1, h1⟩
/-- .. as tests -/
theorem toB_and {r : Env} {S : Store} : toB (andM ma mb) r S = (toB ma r S).bind fun c S => if c = true then toB mb r S else .ok false S := by
  unfold toB andM
  cases ma r S with
  | ok t S => cases t <;> try rfl
              rename_i c
              cases c with
              | false => rfl
              | true =>
                show ((mb r S).bind _).bind _ = (mb r S).bind _
                cases mb r S with
                | ok t S => cases t <;> rfl
                | _ => rfl
  | _ => rfl
theorem toB_or {r : Env} {S : Store} : toB (orM ma mb) r S = (toB ma r S).bind fun c S => if c = true then .ok true S else toB mb r S := by
  unfold toB orM
  cases ma r S with
  | ok t S => cases t <;> try rfl
              rename_i c
              cases c with
              | true => rfl
              | false =>
                show ((mb r S).bind _).bind _ = (mb r S).bind _
                cases mb r S with
                | ok t S => cases t <;> rfl
                | _ => rfl
  | _ => rfl
theorem toB_not {r : Env} {S : Store} : toB (notM ma) r S = (toB ma r S).bind fun c S => .ok (!c) S := by
  unfold toB notM
  cases ma r S with
  | ok t S => cases t <;> rfl
  | _ => rfl
theorem s_andT {rest : List Expr} {tr : Env → Store → Res T} (ha : PT X a (tBo d W ma)) (hb : PW X (.BoolOp .And (b :: rest) pos) (tBo d W tr)) : PW X (.BoolOp .And (a :: b :: rest) pos) (tBo d W (andM ma tr)) := by
  refine PW_imp (pw_and ha hb) fun σ H Q ⟨G, r, S, RS, RE, q⟩ => ?_
  rw [toB_and] at q
  refine ⟨G, r, S, RS, RE, q.bind fun c S1 G1 v H1 s1 R1 rv h1 => ?_⟩
  subst rv
  cases v with
  | true => exact iteT ⟨G1, r, S1, R1, RE.step s1, h1⟩
  | false => exact iteF (h1 G1 _ H1 (Step.refl _ _) R1 rfl)
theorem s_orT {rest : List Expr} {tr : Env → Store → Res T} (ha : PT X a (tBo d W ma)) (hb : PW X (.BoolOp .Or (b :: rest) pos) (tBo d W tr)) : PW X (.BoolOp .Or (a :: b :: rest) pos) (tBo d W (orM ma tr)) := by
  refine PW_imp (pw_or ha hb) fun σ H Q ⟨G, r, S, RS, RE, q⟩ => ?_
  rw [toB_or] at q
  refine ⟨G, r, S, RS, RE, q.bind fun c S1 G1 v H1 s1 R1 rv h1 => ?_⟩
  subst rv
  cases v with
  | true => exact iteT (h1 G1 _ H1 (Step.refl _ _) R1 rfl)
  | false => exact iteF ⟨G1, r, S1, R1, RE.step s1, h1⟩
theorem s_notT (ha : PT X a (tBo d W ma)) : PT X (.UnaryOp .Not a pos) (tBo d W (notM ma)) := by
  refine PT_imp (pt_not ha) fun σ H Q ⟨G, r, S, RS, RE, q⟩ => ?_
  rw [toB_not] at q
  refine ⟨G, r, S, RS, RE, q.bind fun c S1 G1 v H1 s1 R1 rv h1 => ?_⟩
  subst rv
  exact h1 G1 _ H1 (Step.refl _ _) R1 rfl
/-- a value as a test -/
theorem s_valT (h : PE X a (tE d W ma)) (he : ∀ whole, isTrue a X.env whole = (do let v ← whole; standAt a.pos; holding [v] (truthy v))) : PT X a (tBo d W ma) := by
  refine PT_imp (pt_val h he) fun σ H Q ⟨G, r, S, RS, RE, q⟩ => ?_
  refine ⟨G, r, S, RS, RE, q.bind fun t S1 G1 v H1 s1 R1 rv h1 => ?_⟩
  cases t <;> try exact h1.elim
  cases rv
  exact ⟨_, rfl, h1 G1 _ H1 (Step.refl _ _) R1 rfl⟩
end
end Hf
end

section
set_option Elab.async false
set_option linter.all false
set_option maxRecDepth 100000
/-! HfS5: subscripts, slices, built-ins by trees. -/
namespace Hf
open PySem PySem.Spec PyProof.Rows L2
theorem ixN_eq : Hf.ixN = L2.ixN := rfl
theorem atI_eq {α : Type} (xs : List α) (i : Int) : Hf.atI xs i = L2.atI xs i := rfl
section
variable {d : D} {G : Gh}
theorem RepAll.atI {xs : List T} {vs : List V} {i : Int} {t : T} (r : RepAll d G xs vs) (e : Hf.atI xs i = some t) : ∃ v, L2.atI vs i = some v ∧ RepV d G t v := by
  unfold Hf.atI at e
  unfold L2.atI
  rw [← r.length, ← ixN_eq]
  cases h : Hf.ixN xs.length i with
  | none => rw [h] at e; cases e
  | some j =>
    rw [h] at e
    exact r.get e
theorem sIx_eq (n k : Nat) (o : Option Int) : Hf.sIx n k o = HT.sIx n k o := by cases o <;> rfl
theorem RepAll.cut {xs : List T} {vs : List V} (r : RepAll d G xs vs) (lo hi : Option Int) : RepAll d G (cutL xs lo hi) (cutV vs lo hi) := by
  unfold cutL cutV
  rw [sIx_eq, sIx_eq, r.length]
  exact (r.drop _).take _
theorem cutV_le (vs : List V) (lo hi : Option Int) : (cutV vs lo hi).length ≤ vs.length := by
  unfold cutV
  rw [List.length_take, List.length_drop]
  omega
end
section
variable {X : Cx} {d : D} {W : WX} {a b e : Expr} {pos p2 : Pos} {ma mb mc : Env → Store → Res T}
/-! ### subscripts -/
theorem ix_or {r r' : R2} (h : IxR X r) (h' : IxR X r') : IxR X (fun x y H Q => r x y H Q ∨ r' x y H Q) := h.or h'
def rIxDk : R2 := fun x y H Q => ∃ z a kvs v, x = .ref a ∧ y = .str z ∧ H a = some (.dK kvs) ∧ valV kvs (Sum.inr z : Key) = some v ∧ Q v H
theorem ix_dk (hu : X.A.units + 1 < cLine) : IxR X rIxDk := by
  intro value slice pins s σ H x y v u Q I rx ry h hs
  obtain ⟨z, p, kvs, v0, rfl, rfl, hd, hv, q⟩ := h
  obtain rfl : v = Value.ref p := rx
  have g : DGet H p (kV (Sum.inr z)) (some v0) := by rw [← hv]; exact DGet.k hd
  exact tail_any (dict_typeIs I g) PySem.F.slot_dict_getitem.lookup (d_getItem hu I g ry fun w' s3 I3 rw' => ⟨v0, H, I3, rw', q⟩) hs
def rIxAll (K : PySem.W.Frag) (w : World) : R2 := fun x y H Q => rIx K x y H Q ∨ (rIxD K w x y H Q ∨ rIxDk x y H Q)
theorem ix_all (hu : X.A.units + 64 < cLine) : IxR X (rIxAll X.K X.w) := ix_seq.or (ix_kdict.or (ix_dk (by omega)))
theorem dlookV_get : ∀ {kvs : List (T × T)} {vs : List V} {z : List Nat} {t : T}, RepKs d G kvs vs → dlook kvs z = some t → ∃ v, dlookV (kvs.map (·.1)) vs z = some v ∧ RepV d G t v
  | [], [], _, _, _, e => by cases e
  | [], _ :: _, _, _, r, _ => r.elim
  | _ :: _, [], _, _, r, _ => r.elim
  | (k, x) :: kvs, v :: vs, z, t, r, e => by
    have ih := fun e => dlookV_get (z := z) (t := t) r.2 e
    cases k <;> first | exact ih e | skip
    rename_i s
    have e' : (if s = z then some x else dlook kvs z) = some t := e
    show ∃ u, (if s = z then some v else dlookV (kvs.map (·.1)) vs z) = some u ∧ _
    split at e'
    · rename_i h
      cases e'
      rw [if_pos h]
      exact ⟨v, rfl, r.1⟩
    · rename_i h
      rw [if_neg h]
      exact ih e'
theorem subI_ok (hK : d.K = X.K) (hw : d.w = X.w) {G : Gh} {S : Store} {H : Hp} {x y t : T} {v w : V} {Q : VK} (R : RepS d G S H) (rx : RdV d G H x v) (ry : RepV d G y w) (e : x.subI y = some t) (k : ∀ b, RepV d G t b → Q b H) : rIxAll X.K X.w v w H Q := by
  unfold T.subI at e
  split at e
  · obtain ⟨p, vs, rfl, q, z, r⟩ := rx
    cases ry
    obtain ⟨u, e1, r1⟩ := r.atI e
    exact .inl (.inl ⟨p, vs, _, u, rfl, rfl, .inl q, e1, k u r1⟩)
  · obtain ⟨p, vs, rfl, q, z, r⟩ := rx
    cases ry
    obtain ⟨u, e1, r1⟩ := r.atI e
    exact .inl (.inr (.inl ⟨p, vs, _, u, rfl, rfl, hK ▸ R.sqT q, e1, k u r1⟩))
  · obtain ⟨rfl, z, o⟩ := rx
    cases ry
    obtain ⟨c, e1, rfl⟩ := Option.map_eq_some_iff.mp e
    refine .inl (.inr (.inr ⟨_, _, c, rfl, rfl, by rw [sk_len]; exact z, e1, k _ ⟨rfl, by rw [sizeLine_eq, List.length_singleton]; decide, ?_⟩⟩))
    unfold Hf.atI at e1
    obtain ⟨j, _, h⟩ := Option.bind_eq_some_iff.mp e1
    simpa using List.all_eq_true.mp o c (List.mem_of_getElem? h)
  · obtain ⟨p, vs, rfl, hd, rk⟩ := rx
    obtain ⟨rfl, z, o⟩ := ry
    obtain ⟨u, e1, r1⟩ := dlookV_get rk e
    rcases hd with ⟨kvs, h1, h2⟩ | ⟨es, n, kd, h2⟩
    · exact .inr (.inr ⟨_, p, kvs, u, rfl, rfl, R.imm _ _ h1, by rw [h2, e1], k u r1⟩)
    · obtain ⟨o, h3, h4⟩ := h2 (by assumption)
      rw [e1] at h4
      cases o with
      | none => exact h4.elim
      | some u0 =>
        exact .inr (.inl ⟨p, _, u, rfl, rfl, ⟨es, n, u0, hK ▸ kd.at_, hw ▸ kd.lit, hK ▸ h3, h4⟩, k u r1⟩)
  · cases e
def subM (ma mb : Env → Store → Res T) : Env → Store → Res T := fun r S => (ma r S).bind fun x S => (mb r S).bind fun y S => Res.of ((look S x).subI y) S
theorem s_sub (hK : d.K = X.K) (hw : d.w = X.w) (hu : X.A.units + 64 < cLine) (hs : PlainIx b) (ha : PE X a (tW d W ma)) (hb : PE X b (tE d W mb)) : PE X (.Subscript a b pos) (tE d W (subM ma mb)) := by
  refine PE_imp (pe_ix (ix_all hu) ha hb hs) fun σ H Q ⟨G, r, S, RS, RE, q⟩ => ?_
  refine ⟨G, r, S, RS, RE, q.bind fun x S1 G1 v H1 s1 R1 rv h1 => ⟨G1, r, S1, R1, RE.step s1, h1.bind fun y S2 G2 w H2 s2 R2 rw h2 => ?_⟩⟩
  obtain ⟨t, e, k⟩ := h2.ofO
  exact subI_ok hK hw R2 ((RepW.le s2.le rv).rd R2 ((RE.step s1).step s2)) rw e fun b rb => k G2 b H2 (Step.refl _ _) R2 rb
/-! ### slices -/
def rSlAll (K : PySem.W.Frag) : V → Option Int → Option Int → Hp → VK → Prop := fun x lo hi H Q => rSlL K x lo hi H Q ∨ (rSlA K x lo hi H Q ∨ rSlS x lo hi H Q)
theorem sl_all : SlR X (rSlAll X.K) := sl_list.or (sl_tupA.or sl_str)
theorem cutS_sk (s : List Nat) (lo hi : Option Int) : cutS (sk s) lo hi = sk (cutL s lo hi) := by
  unfold cutS cutL
  rw [sk_len, sIx_eq, sIx_eq]
theorem cut_ok (hK : d.K = X.K) {G : Gh} {S : Store} {H : Hp} {x t : T} {v : V} {lo hi : Option Int} {Q : VK} (R : RepS d G S H) (rx : RdV d G H x v) (e : x.cut lo hi = some t) (k : ∀ G' b H', Step G G' H H' → RepS d G' S H' → RepV d G' t b → Q b H') : rSlAll X.K v lo hi H Q := by
  cases x <;> simp only [T.cut] at e <;> try contradiction
  · cases e
    obtain ⟨rfl, z, o⟩ := rx
    refine .inr (.inr ⟨_, rfl, by rw [sk_len]; exact z, ?_⟩)
    rw [cutS_sk]
    refine k G _ H (Step.refl _ _) R ⟨rfl, ?_, ?_⟩
    · unfold cutL
      rw [List.length_take, List.length_drop]
      omega
    · rw [List.all_eq_true] at o ⊢
      intro c hc
      exact o c (List.mem_of_mem_drop (List.mem_of_mem_take hc))
  · cases e
    obtain ⟨p, vs, rfl, q, z, r⟩ := rx
    refine .inr (.inl ⟨p, vs, rfl, hK ▸ R.sqT q, fun ⟨h1, h2⟩ => ?_, fun _ n hn => ?_⟩)
    · refine k G _ H (Step.refl _ _) R ⟨p, vs, rfl, q, z, ?_⟩
      have := r.cut lo hi
      rw [show cutV vs lo hi = vs by unfold cutV; rw [h1, h2]; simp] at this
      exact this
    · obtain ⟨s2, R2, v2⟩ := new_tup (xs := cutL _ lo hi) R (Nat.le_trans (cutV_le vs lo hi) z) (r.cut lo hi) hn
      exact k _ _ _ s2 R2 v2
  · cases e
    obtain ⟨p, vs, rfl, q, z, r⟩ := rx
    refine .inl ⟨p, vs, rfl, .inl q, fun n hn => ?_⟩
    obtain ⟨s2, R2, a, ws, e2, h1, z2, ra, h2, h3, h4⟩ := new_lst (xs := cutL _ lo hi) R (Nat.le_trans (cutV_le vs lo hi) z) (r.cut lo hi) hn
    cases e2
    obtain ⟨s3, R3, v3⟩ := freeze s2 R2 h1 z2 ra h2 h3 hn
    exact k _ _ _ s3 R3 v3
def sliceM (ma mb mc : Env → Store → Res T) : Env → Store → Res T := fun r S => (ma r S).bind fun x S => (mb r S).bind fun l S => asI l S fun l S => (mc r S).bind fun h S => asI h S fun h S => Res.of ((look S x).cut (some l) (some h)) S
def sliceLM (ma mb : Env → Store → Res T) : Env → Store → Res T := fun r S => (ma r S).bind fun x S => (mb r S).bind fun l S => asI l S fun l S => Res.of ((look S x).cut (some l) none) S
def sliceRM (ma mb : Env → Store → Res T) : Env → Store → Res T := fun r S => (ma r S).bind fun x S => (mb r S).bind fun l S => asI l S fun l S => Res.of ((look S x).cut none (some l)) S
theorem s_slice (hK : d.K = X.K) (ha : PE X a (tW d W ma)) (hb : PE X b (tE d W mb)) (hc : PE X e (tE d W mc)) : PE X (.Subscript a (.Slice (some b) (some e) none p2) pos) (tE d W (sliceM ma mb mc)) := by
  refine PE_imp (pe_slice sl_all ha (po_some hb) (po_some hc)) fun σ H Q ⟨G, r, S, RS, RE, q⟩ => ?_
  refine ⟨G, r, S, RS, RE, q.bind fun x S1 G1 v H1 s1 R1 rv h1 => ⟨G1, r, S1, R1, RE.step s1, h1.bind fun y S2 G2 w H2 s2 R2 rw h2 => ?_⟩⟩
  cases y <;> try exact h2.elim
  cases rw
  refine ⟨_, rfl, G2, r, S2, R2, (RE.step s1).step s2, Post.bind (show Post d W σ (RV d r σ H) G2 H2 Q ((mc r S2).bind fun h S => asI h S fun h S => Res.of ((look S x).cut (some _) (some h)) S) from h2) fun z S3 G3 u H3 s3 R3 ru h3 => ?_⟩
  cases z <;> try exact h3.elim
  cases ru
  obtain ⟨t, e, k⟩ := Post.ofO (show Post d W σ (RV d r σ H) G3 H3 Q (Res.of ((look S3 x).cut (some _) (some _)) S3) from h3)
  exact ⟨_, rfl, cut_ok hK R3 ((RepW.le (s2.trans s3).le rv).rd R3 (((RE.step s1).step s2).step s3)) e k⟩
theorem s_sliceL (hK : d.K = X.K) (ha : PE X a (tW d W ma)) (hb : PE X b (tE d W mb)) : PE X (.Subscript a (.Slice (some b) none none p2) pos) (tE d W (sliceLM ma mb)) := by
  refine PE_imp (pe_slice sl_all ha (po_some hb) po_none) fun σ H Q ⟨G, r, S, RS, RE, q⟩ => ?_
  refine ⟨G, r, S, RS, RE, q.bind fun x S1 G1 v H1 s1 R1 rv h1 => ⟨G1, r, S1, R1, RE.step s1, h1.bind fun y S2 G2 w H2 s2 R2 rw h2 => ?_⟩⟩
  cases y <;> try exact h2.elim
  cases rw
  obtain ⟨t, e, k⟩ := Post.ofO (show Post d W σ (RV d r σ H) G2 H2 Q (Res.of ((look S2 x).cut (some _) none) S2) from h2)
  exact ⟨_, rfl, cut_ok hK R2 ((RepW.le s2.le rv).rd R2 ((RE.step s1).step s2)) e k⟩
theorem s_sliceR (hK : d.K = X.K) (ha : PE X a (tW d W ma)) (hb : PE X b (tE d W mb)) : PE X (.Subscript a (.Slice none (some b) none p2) pos) (tE d W (sliceRM ma mb)) := by
  refine PE_imp (pe_slice sl_all ha po_none (po_some hb)) fun σ H Q ⟨G, r, S, RS, RE, q⟩ => ?_
  refine ⟨G, r, S, RS, RE, q.bind fun x S1 G1 v H1 s1 R1 rv h1 => ⟨G1, r, S1, R1, RE.step s1, h1.bind fun y S2 G2 w H2 s2 R2 rw h2 => ?_⟩⟩
  cases y <;> try exact h2.elim
  cases rw
  obtain ⟨t, e, k⟩ := Post.ofO (show Post d W σ (RV d r σ H) G2 H2 Q (Res.of ((look S2 x).cut none (some _)) S2) from h2)
  exact ⟨_, rfl, cut_ok hK R2 ((RepW.le s2.le rv).rd R2 ((RE.step s1).step s2)) e k⟩
end
end Hf
end

section
set_option Elab.async false
set_option linter.all false
set_option maxRecDepth 100000
/-! HfS6: built-ins by trees. -/
namespace Hf
open PySem PySem.Spec PyProof.Rows L2
section
variable {d : D} {G : Gh}
def RdVs (d : D) (G : Gh) (H : Hp) : List T → List V → Prop
  | [], [] => True
  | x :: xs, v :: vs => RdV d G H x v ∧ RdVs d G H xs vs
  | _, _ => False
theorem RepWs.rd {r : Env} {S : Store} {σ : L2.St} {H : Hp} (R : RepS d G S H) (E : RepE d G r σ H) : ∀ {xs : List T} {vs : List V}, RepWs d G r σ xs vs → RdVs d G H (xs.map (look S)) vs
  | [], [], _ => True.intro
  | [], _ :: _, h => h.elim
  | _ :: _, [], h => h.elim
  | _ :: _, _ :: _, h => ⟨h.1.rd R E, RepWs.rd R E h.2⟩
theorem reps_ints : ∀ {xs : List T} {vs : List V} {is : List Int}, RepAll d G xs vs → intsOf xs = some is → vs = is.map V.int
  | [], [], is, _, e => by cases e; rfl
  | [], _ :: _, _, r, _ => r.elim
  | _ :: _, [], _, r, _ => r.elim
  | x :: xs, v :: vs, is, r, e => by
    cases x <;> simp only [intsOf] at e <;> try contradiction
    obtain ⟨js, e1, rfl⟩ := Option.map_eq_some_iff.mp e
    obtain ⟨rv, r⟩ := r
    cases rv
    rw [reps_ints r e1]; rfl
theorem reps_bools : ∀ {xs : List T} {vs : List V} {is : List Bool}, RepAll d G xs vs → boolsOf xs = some is → vs = is.map V.bl
  | [], [], is, _, e => by cases e; rfl
  | [], _ :: _, _, r, _ => r.elim
  | _ :: _, [], _, r, _ => r.elim
  | x :: xs, v :: vs, is, r, e => by
    cases x <;> simp only [boolsOf] at e <;> try contradiction
    obtain ⟨js, e1, rfl⟩ := Option.map_eq_some_iff.mp e
    obtain ⟨rv, r⟩ := r
    cases rv
    rw [reps_bools r e1]; rfl
end
section
variable {X : Cx} {d : D} {W : WX} {a b e : Expr} {es : List Expr} {pos p2 p : Pos} {ma mb mc : Env → Store → Res T} {k : Env → Store → Res (List T)}
/-- a built-in's call, by values -/
theorem s_biB {x : PySem.Str} {id : String} {r : List V → Hp → VK → Prop} (hc : CallR X (.builtin id) r) (f : List T → Option T)
    (hf : ∀ {G S H xs vs t Q}, RepS d G S H → RdVs d G H xs vs → f xs = some t → (∀ G' b H', Step G G' H H' → RepS d G' S H' → RepV d G' t b → Q b H') → r vs H Q)
    (hg : Gl X x) (hm : X.mg x = none) (hv : bootBuiltins x = some (.builtin id)) (hn : x ≠ "__name__") (hd : (x == ("__debug__" : PySem.Str)) = false) (ha : PA X (e :: es) (tWs d W k))
    (he : starEach (e :: es) X.env = (false, eval e X.env) :: starEach es X.env) (hpl : (backTo pos (starEach es X.env)).any (·.1) = false) : PE X (.Call (.Name x p) (e :: es) [] pos) (tE d W fun r S => (k r S).bind fun xs S => Res.of (f (xs.map (look S))) S) := by
  refine PE_imp (pe_callB hc hg hm hv ha hn hd he hpl) fun σ H Q ⟨G, r, S, RS, RE, q⟩ => ?_
  refine ⟨G, r, S, RS, RE, q.bind fun xs S1 G1 vs H1 s1 R1 rv h1 => ?_⟩
  obtain ⟨t, e, k⟩ := h1.ofO
  exact hf R1 (rv.rd R1 (RE.step s1)) e k
theorem s_biT {x : PySem.Str} {ty : String} {r : List V → Hp → VK → Prop} (hc : CallR X (.type ty) r) (f : List T → Option T)
    (hf : ∀ {G S H xs vs t Q}, RepS d G S H → RdVs d G H xs vs → f xs = some t → (∀ G' b H', Step G G' H H' → RepS d G' S H' → RepV d G' t b → Q b H') → r vs H Q)
    (hg : Gl X x) (hm : X.mg x = none) (hv : bootBuiltins x = some (.type ty)) (hn : x ≠ "__name__") (hd : (x == ("__debug__" : PySem.Str)) = false) (ha : PA X (e :: es) (tWs d W k))
    (he : starEach (e :: es) X.env = (false, eval e X.env) :: starEach es X.env) (hpl : (backTo pos (starEach es X.env)).any (·.1) = false) : PE X (.Call (.Name x p) (e :: es) [] pos) (tE d W fun r S => (k r S).bind fun xs S => Res.of (f (xs.map (look S))) S) := by
  refine PE_imp (pe_callTy hc hg hm hv ha hn hd he hpl) fun σ H Q ⟨G, r, S, RS, RE, q⟩ => ?_
  refine ⟨G, r, S, RS, RE, q.bind fun xs S1 G1 vs H1 s1 R1 rv h1 => ?_⟩
  obtain ⟨t, e, k⟩ := h1.ofO
  exact hf R1 (rv.rd R1 (RE.step s1)) e k
theorem rd1 {G : Gh} {H : Hp} {xs : List T} {x : T} {vs : List V} (e : xs = [x]) (r : RdVs d G H xs vs) : ∃ v, vs = [v] ∧ RdV d G H x v := by
  subst e
  match vs, r with
  | [v], r => exact ⟨v, rfl, r.1⟩
theorem rd2 {G : Gh} {H : Hp} {x y : T} {vs : List V} (r : RdVs d G H [x, y] vs) : ∃ v w, vs = [v, w] ∧ RdV d G H x v ∧ RdV d G H y w := by
  match vs, r with
  | [v, w], r => exact ⟨v, w, rfl, r.1, r.2.1⟩
/-- the rule of each -/
def BiOk (X : Cx) (d : D) (b : Bi) (r : List V → Hp → VK → Prop) : Prop := ∀ {G S H xs vs t Q}, RepS d G S H → RdVs d G H xs vs → b.ev xs = some t → (∀ G' b H', Step G G' H H' → RepS d G' S H' → RepV d G' t b → Q b H') → r vs H Q
theorem bi_len (hK : d.K = X.K) : BiOk X d .len (fun xs H Q => ∃ x n, xs = [x] ∧ LenV X.K x H n ∧ Q (.int n) H) := by
  intro G S H xs vs t Q R rv e k
  unfold Bi.ev at e
  split at e <;> try contradiction
  · cases e
    obtain ⟨v, rfl, r⟩ := rd1 rfl rv
    obtain ⟨rfl, z, _⟩ := r
    exact ⟨_, _, rfl, ⟨by rw [sk_len]; exact z, (sk_len _).symm⟩, k G _ H (Step.refl _ _) R rfl⟩
  · cases e
    obtain ⟨v, rfl, r⟩ := rd1 rfl rv
    obtain ⟨p, ws, rfl, q, z, ra⟩ := r
    exact ⟨_, _, rfl, .inr ⟨ws, hK ▸ R.sqT q, ra.length⟩, k G _ H (Step.refl _ _) R rfl⟩
  · cases e
    obtain ⟨v, rfl, r⟩ := rd1 rfl rv
    obtain ⟨p, ws, rfl, q, z, ra⟩ := r
    exact ⟨_, _, rfl, .inl ⟨ws, .inl q, ra.length⟩, k G _ H (Step.refl _ _) R rfl⟩
theorem bi_abs : BiOk X d .abs (fun xs H Q => ∃ i, xs = [.int i] ∧ Q (.int (if i < 0 then -i else i)) H) := by
  intro G S H xs vs t Q R rv e k
  unfold Bi.ev at e
  split at e <;> try contradiction
  cases e
  obtain ⟨v, rfl, r⟩ := rd1 rfl rv
  cases r
  exact ⟨_, rfl, k G _ H (Step.refl _ _) R rfl⟩
theorem bi_int : BiOk X d .int (fun xs H Q => (∃ i, xs = [.int i] ∧ Q (.int i) H) ∨ ∃ k, xs = [.bl k] ∧ Q (.int (if k then 1 else 0)) H) := by
  intro G S H xs vs t Q R rv e k
  unfold Bi.ev at e
  split at e <;> try contradiction
  · cases e
    obtain ⟨v, rfl, r⟩ := rd1 rfl rv
    cases r
    exact .inl ⟨_, rfl, k G _ H (Step.refl _ _) R rfl⟩
  · cases e
    obtain ⟨v, rfl, r⟩ := rd1 rfl rv
    cases r
    exact .inr ⟨_, rfl, k G _ H (Step.refl _ _) R (by simp [RepV, b2i])⟩
theorem bi_all : BiOk X d .all (rAll X.K) := by
  intro G S H xs vs t Q R rv e k
  unfold Bi.ev at e
  split at e <;> try contradiction
  obtain ⟨bs, e1, rfl⟩ := Option.map_eq_some_iff.mp e
  obtain ⟨v, rfl, r⟩ := rd1 rfl rv
  obtain ⟨p, ws, rfl, q, z, ra⟩ := r
  exact ⟨p, bs, rfl, by rw [← reps_bools ra e1]; exact .inl q, k G _ H (Step.refl _ _) R rfl⟩
theorem bi_any : BiOk X d .any (rAny X.K) := by
  intro G S H xs vs t Q R rv e k
  unfold Bi.ev at e
  split at e <;> try contradiction
  obtain ⟨bs, e1, rfl⟩ := Option.map_eq_some_iff.mp e
  obtain ⟨v, rfl, r⟩ := rd1 rfl rv
  obtain ⟨p, ws, rfl, q, z, ra⟩ := r
  exact ⟨p, bs, rfl, by rw [← reps_bools ra e1]; exact .inl q, k G _ H (Step.refl _ _) R rfl⟩
theorem bi_sum : BiOk X d .sum (rSum X.K) := by
  intro G S H xs vs t Q R rv e k
  unfold Bi.ev at e
  split at e <;> try contradiction
  obtain ⟨is, e1, rfl⟩ := Option.map_eq_some_iff.mp e
  obtain ⟨v, rfl, r⟩ := rd1 rfl rv
  obtain ⟨p, ws, rfl, q, z, ra⟩ := r
  exact ⟨p, is, rfl, by rw [← reps_ints ra e1]; exact .inl q, k G _ H (Step.refl _ _) R rfl⟩
theorem bi_max : BiOk X d .max (rMax X.K) := by
  intro G S H xs vs t Q R rv e k
  unfold Bi.ev at e
  split at e <;> try contradiction
  obtain ⟨is, e1, e2⟩ := Option.bind_eq_some_iff.mp e
  obtain ⟨m, e3, rfl⟩ := Option.map_eq_some_iff.mp e2
  obtain ⟨v, rfl, r⟩ := rd1 rfl rv
  obtain ⟨p, ws, rfl, q, z, ra⟩ := r
  obtain ⟨m1, m2⟩ := List.max?_eq_some_iff.mp e3
  refine ⟨p, is, rfl, by rw [← reps_ints ra e1]; exact .inl q, List.length_pos_of_mem m1, fun n hn hle => ?_⟩
  have : n = m := Int.le_antisymm (m2 n hn) (hle m m1)
  subst this
  exact k G _ H (Step.refl _ _) R rfl
theorem bi_max2 : BiOk X d .max2 (fun xs H Q => ∃ i j, xs = [.int i, .int j] ∧ Q (.int (if j > i then j else i)) H) := by
  intro G S H xs vs t Q R rv e k
  unfold Bi.ev at e
  split at e <;> try contradiction
  cases e
  obtain ⟨v, w, rfl, r1, r2⟩ := rd2 rv
  cases r1; cases r2
  exact ⟨_, _, rfl, k G _ H (Step.refl _ _) R rfl⟩
theorem bi_min2 : BiOk X d .min2 (fun xs H Q => ∃ i j, xs = [.int i, .int j] ∧ Q (.int (if j < i then j else i)) H) := by
  intro G S H xs vs t Q R rv e k
  unfold Bi.ev at e
  split at e <;> try contradiction
  cases e
  obtain ⟨v, w, rfl, r1, r2⟩ := rd2 rv
  cases r1; cases r2
  exact ⟨_, _, rfl, k G _ H (Step.refl _ _) R rfl⟩
/-! ### isinstance -/
def Ty.nm : Ty → String
  | .int => "int" | .str => "str" | .tup => "tuple" | .lst => "list" | .bool => "bool"
def tyOf : T → Option String
  | .non => some "NoneType"
  | .bl _ => some "bool"
  | .int _ => some "int"
  | .str _ => some "str"
  | .tup _ => some "tuple"
  | .lst _ => some "list"
  | _ => none
theorem ty_ev (ty : Ty) (x : T) {c : Bool} (e : ty.ev x = some c) : ∃ s, tyOf x = some s ∧ kitB s ty.nm = some c := by
  cases ty <;> cases x <;> simp only [Ty.ev] at e <;> first | contradiction | (cases e; refine ⟨_, rfl, ?_⟩; with_unfolding_all decide +kernel)
theorem rd_ty (hK : d.K = X.K) {G : Gh} {S : Store} {H : Hp} {x : T} {v : V} {s : String} (R : RepS d G S H) (r : RdV d G H x v) (e : tyOf x = some s) : TyX X.K H v (.type s) := by
  cases x <;> simp only [tyOf] at e <;> try contradiction
  · cases e; cases r; exact .base .non
  · cases e; cases r; exact .base (.bl _)
  · cases e; cases r; exact .base (.int _)
  · cases e
    obtain ⟨rfl, _⟩ := r
    exact .base (.str _)
  · cases e
    obtain ⟨p, ws, rfl, q, z, ra⟩ := r
    rcases hK ▸ R.sqT q with (q | ⟨o, q⟩) | ⟨o, its, n, q, c, _⟩
    · exact .base (.tup q)
    · exact .fTuple q
    · exact .kTuple q c
  · cases e
    obtain ⟨p, ws, rfl, q, z, ra⟩ := r
    rcases q with q | ⟨o, q⟩
    · exact .base (.lst q)
    · exact .base (.frz q)
def isiM (ty : Ty) (ma : Env → Store → Res T) : Env → Store → Res T := fun r S => (ma r S).bind fun x S => Res.of ((ty.ev (look S x)).map .bl) S
def isi2M (ty ty2 : Ty) (ma : Env → Store → Res T) : Env → Store → Res T := fun r S => (ma r S).bind fun x S => Res.of ((ty.ev (look S x)).bind fun a => (ty2.ev (look S x)).map fun b => .bl (a || b)) S
theorem boot_ty (ty : Ty) : bootBuiltins (PySem.Str.ofString ty.nm) = some (.type ty.nm) := by cases ty <;> decide +kernel
theorem ty_nn (ty : Ty) : PySem.Str.ofString ty.nm ≠ "__name__" := by cases ty <;> decide +kernel
theorem ty_nd (ty : Ty) : (PySem.Str.ofString ty.nm == ("__debug__" : PySem.Str)) = false := by cases ty <;> decide +kernel
theorem pe_ty {q : Pos} (ty : Ty) (hg : Gl X (PySem.Str.ofString ty.nm)) (hm : X.mg (PySem.Str.ofString ty.nm) = none) : PE X (.Name (PySem.Str.ofString ty.nm) q) (tC (.ty ty.nm)) := pe_bltn hg hm (boot_ty ty) rfl (ty_nn ty) (ty_nd ty)
theorem s_isi {q : Pos} (ty : Ty) (hK : d.K = X.K) (ha : PE X a (tW d W ma)) (hg : Gl X "isinstance") (hm : X.mg "isinstance" = none) (hgt : Gl X (PySem.Str.ofString ty.nm)) (hmt : X.mg (PySem.Str.ofString ty.nm) = none)
    (hst : starEach [a, .Name (PySem.Str.ofString ty.nm) q] X.env = (false, eval a X.env) :: starEach [.Name (PySem.Str.ofString ty.nm) q] X.env) : PE X (.Call (.Name "isinstance" p) [a, .Name (PySem.Str.ofString ty.nm) q] [] pos) (tE d W (isiM ty ma)) := by
  refine PE_imp (pe_callB call_isi hg hm PyProof.Rows.boot_isinstance (pa_cons ha (pa_cons (pe_ty ty hgt hmt) pa_nil) hst) (by decide) (by decide) hst (by rfl)) fun σ H Q ⟨G, r, S, RS, RE, q⟩ => ?_
  refine ⟨G, r, S, RS, RE, q.bind fun x S1 G1 v H1 s1 R1 rv h1 => ?_⟩
  obtain ⟨t, e, k⟩ := h1.ofO
  obtain ⟨c, e1, rfl⟩ := Option.map_eq_some_iff.mp e
  obtain ⟨s, e2, e3⟩ := ty_ev ty _ e1
  exact ⟨v, _, _, _, c, rfl, .ty _, rd_ty hK R1 (rv.rd R1 (RE.step s1)) e2, kit_ty e3, k G1 _ H1 (Step.refl _ _) R1 rfl⟩
theorem s_isi2 {q q2 tp : Pos} {kk : Nat} (ty ty2 : Ty) (hK : d.K = X.K) (ha : PE X a (tW d W ma)) (hg : Gl X "isinstance") (hm : X.mg "isinstance" = none) (hgt : Gl X (PySem.Str.ofString ty.nm)) (hmt : X.mg (PySem.Str.ofString ty.nm) = none) (hgt2 : Gl X (PySem.Str.ofString ty2.nm)) (hmt2 : X.mg (PySem.Str.ofString ty2.nm) = none)
    (hst : starEach [a, .Tuple [.Name (PySem.Str.ofString ty.nm) q, .Name (PySem.Str.ofString ty2.nm) q2] kk tp] X.env = (false, eval a X.env) :: starEach [.Tuple [.Name (PySem.Str.ofString ty.nm) q, .Name (PySem.Str.ofString ty2.nm) q2] kk tp] X.env) :
    PE X (.Call (.Name "isinstance" p) [a, .Tuple [.Name (PySem.Str.ofString ty.nm) q, .Name (PySem.Str.ofString ty2.nm) q2] kk tp] [] pos) (tE d W (isi2M ty ty2 ma)) := by
  refine PE_imp (pe_callB call_isiT hg hm PyProof.Rows.boot_isinstance (pa_cons ha (pa_cons (pe_tup (pa_cons (pe_ty ty hgt hmt) (pa_cons (pe_ty ty2 hgt2 hmt2) pa_nil))) pa_nil) hst) (by decide) (by decide) hst (by rfl)) fun σ H Q ⟨G, r, S, RS, RE, q⟩ => ?_
  refine ⟨G, r, S, RS, RE, q.bind fun x S1 G1 v H1 s1 R1 rv h1 => ?_⟩
  obtain ⟨t, e, k⟩ := h1.ofO
  obtain ⟨c, e1, e4⟩ := Option.bind_eq_some_iff.mp e
  obtain ⟨c2, e5, rfl⟩ := Option.map_eq_some_iff.mp e4
  obtain ⟨s, e2, e3⟩ := ty_ev ty _ e1
  obtain ⟨s', e2', e3'⟩ := ty_ev ty2 _ e5
  rw [e2] at e2'; cases e2'
  refine ⟨by rw [sizeLine_eq]; show 2 ≤ 16777216; decide, fun n hn => ?_⟩
  have R2 : RepS d G1 S1 (upd H1 n (.tup [.ty ty.nm, .ty ty2.nm])) := R1.lay hn
  have s2 : Step G1 G1 H1 (upd H1 n (.tup [.ty ty.nm, .ty ty2.nm])) := Step.lay hn
  refine ⟨v, n, _, _, [.type ty.nm, .type ty2.nm], (c || c2), rfl, upd_same, .cons (.ty _) (.cons (.ty _) .nil), rd_ty hK R2 (rv.rd R2 ((RE.step s1).step s2)) e2, ?_, k G1 _ _ s2 R2 rfl⟩
  refine kitAny_cons (kit_ty e3) (fun h => ?_) (fun h => by rw [h]; rfl)
  subst h
  exact kitAny_cons (kit_ty e3') (fun h => by subst h; rfl) (fun h => by rw [h]; rfl)
end
end Hf
end

section
set_option Elab.async false
set_option linter.all false
set_option maxRecDepth 100000
/-! HfS7: lists and tuples made, attributes, dicts by trees. -/
namespace Hf
open PySem PySem.Spec PyProof.Rows L2
/-! ### sorted ints -/
theorem insI_perm (i : Int) : ∀ l : List Int, (insI i l).Perm (i :: l)
  | [] => List.Perm.refl _
  | j :: r => by
    unfold insI
    split
    · exact List.Perm.refl _
    · exact ((insI_perm i r).cons j).trans (List.Perm.swap i j r)
theorem sortI_perm : ∀ l : List Int, (sortI l).Perm l
  | [] => List.Perm.refl _
  | i :: l => (insI_perm i (sortI l)).trans ((sortI_perm l).cons i)
theorem insI_sorted (i : Int) : ∀ {l : List Int}, l.Pairwise (· ≤ ·) → (insI i l).Pairwise (· ≤ ·)
  | [], _ => by simp [insI]
  | j :: r, h => by
    have h1 := List.pairwise_cons.mp h
    unfold insI
    split
    · rename_i hij
      refine List.pairwise_cons.mpr ⟨fun k hk => ?_, h⟩
      rcases List.mem_cons.mp hk with rfl | hk
      · exact hij
      · exact Int.le_trans hij (h1.1 k hk)
    · rename_i hij
      refine List.pairwise_cons.mpr ⟨fun k hk => ?_, insI_sorted i h1.2⟩
      rcases List.mem_cons.mp ((insI_perm i r).mem_iff.mp hk) with rfl | hk
      · omega
      · exact h1.1 k hk
theorem sortI_sorted : ∀ l : List Int, (sortI l).Pairwise (· ≤ ·)
  | [] => List.Pairwise.nil
  | i :: l => insI_sorted i (sortI_sorted l)
theorem sorted_one : ∀ {a b : List Int}, a.Perm b → a.Pairwise (· ≤ ·) → b.Pairwise (· ≤ ·) → a = b
  | [], b, p, _, _ => (List.nil_perm.mp p).symm
  | x :: a, [], p, _, _ => by have := p.length_eq; simp at this
  | x :: a, y :: b, p, h1, h2 => by
    have h1' := List.pairwise_cons.mp h1
    have h2' := List.pairwise_cons.mp h2
    have e : x = y := by
      have m1 : y ∈ x :: a := p.mem_iff.mpr List.mem_cons_self
      have m2 : x ∈ y :: b := p.mem_iff.mp List.mem_cons_self
      rcases List.mem_cons.mp m1 with e | m1
      · exact e.symm
      · rcases List.mem_cons.mp m2 with e | m2
        · exact e
        · exact Int.le_antisymm (h1'.1 y m1) (h2'.1 x m2)
    subst e
    rw [sorted_one (List.Perm.cons_inv p) h1'.2 h2'.2]
section
variable {d : D} {G : Gh}
theorem ints_reps : ∀ is : List Int, RepAll d G (is.map T.int) (is.map V.int)
  | [] => True.intro
  | i :: is => ⟨rfl, ints_reps is⟩
theorem range_reps (lo hi : Int) : RepAll d G (rangeL lo hi) (rgV lo hi) := by
  have key : ∀ l : List Nat, RepAll d G (l.map fun (k : Nat) => T.int (lo + (k : Int))) (l.map fun i => V.int (lo + (i : Nat))) := by
    intro l
    induction l with
    | nil => exact True.intro
    | cons k l ih => exact ⟨rfl, ih⟩
  exact key _
/-- a thing laid at p is filled and never changes any more -/
theorem place {S : Store} {G' : Gh} {H H' : Hp} {p : Addr} {o : HO} (s : Step G G' H H') (R : RepS d G' S H') (hI : G'.I p = none) (hm : p ∉ G'.mu) (h0 : H p = none) :
    Step G (G'.add p o) H (upd H' p o) ∧ RepS d (G'.add p o) S (upd H' p o) := by
  have le : Le G' (G'.add p o) := ⟨fun b u e => by
    show upd G'.I p _ b = _
    rw [upd_ne (fun q => by rw [q, hI] at e; cases e)]; exact e, [], by simp [Gh.add]⟩
  refine ⟨⟨s.le.trans le, fun b hb k => ?_, s.mu, fun b u e hb => ?_, fun b hb => ?_⟩, ⟨fun b u e => ?_, R.len, fun n ys e => ?_, R.inj, fun b hb => ?_⟩⟩
  · by_cases q : b = p
    · rw [q]; exact h0
    · refine s.new b hb fun e => k ?_
      show upd G'.I p _ b = none
      rw [upd_ne q]; exact e
  · rw [upd_ne (fun q => by rw [q, h0] at e; cases e)]; exact s.keep b u e hb
  · by_cases q : b = p
    · rw [q, upd_same]; simp
    · rw [upd_ne q]; exact s.there b hb
  · have e' : upd G'.I p o b = some u := e
    by_cases q : b = p
    · rw [q, upd_same] at e'
      rw [q, upd_same]; exact e'
    · rw [upd_ne q] at e'
      rw [upd_ne q]; exact R.imm b u e'
  · obtain ⟨b, ws, h1, h2, z2, h3⟩ := R.cell n ys e
    refine ⟨b, ws, h1, ?_, z2, RepAll.le le ys h3⟩
    rw [upd_ne (fun q => by rw [q] at h1; exact hm (List.mem_of_getElem? h1))]; exact h2
  · show upd G'.I p _ b = none
    rw [upd_ne (fun q => by rw [q] at hb; exact hm hb)]; exact R.off b hb
theorem RepFs.get (inj : ∀ a b, a ∈ d.as → b ∈ d.as → d.an a = d.an b → a = b) {a : Nat} (ha : a ∈ d.as) : ∀ {fs : List (Nat × T)} {ws : List (PySem.Str × V)} {t : T}, RepFs d G fs ws → fs.lookup a = some t → ∃ v, ws.lookup (d.an a) = some v ∧ RepV d G t v
  | [], _, _, _, e => by cases e
  | _ :: _, [], _, r, _ => r.elim
  | (n, x) :: fs, (f, v) :: ws, t, r, e => by
    obtain ⟨⟨rfl, hn⟩, rv, r⟩ := r
    rw [List.lookup_cons] at e
    rw [List.lookup_cons]
    by_cases h : a = n
    · subst h
      simp only [beq_self_eq_true] at e ⊢
      cases e
      exact ⟨v, rfl, rv⟩
    · have h1 : (a == n) = false := beq_eq_false_iff_ne.mpr h
      have h2 : (d.an a == d.an n) = false := beq_eq_false_iff_ne.mpr fun q => h (inj a n ha hn q)
      rw [h1] at e
      rw [h2]
      exact RepFs.get inj ha r e
end
section
variable {X : Cx} {d : D} {W : WX} {a b e : Expr} {es : List Expr} {pos p2 p : Pos} {ma mb mc : Env → Store → Res T} {k : Env → Store → Res (List T)}
def lofM (ma : Env → Store → Res T) : Env → Store → Res T := fun r S => (ma r S).bind fun c S => match look S c with
    | .lst xs => .ok (.lst xs) S
    | .tup xs => .ok (.lst xs) S
    | _ => .bad
def tofM (ma : Env → Store → Res T) : Env → Store → Res T := fun r S => (ma r S).bind fun c S => match look S c with
    | .lst xs => .ok (.tup xs) S
    | .tup xs => .ok (.tup xs) S
    | _ => .bad
theorem s_lof (hK : d.K = X.K) (hg : Gl X "list") (hm : X.mg "list" = none) (ha : PE X a (tW d W ma)) (hst : starEach [a] X.env = (false, eval a X.env) :: starEach [] X.env) : PE X (.Call (.Name "list" p) [a] [] pos) (tN d W (lofM ma)) := by
  refine PE_imp (pe_callTy call_list_of hg hm PyProof.Rows.boot_list (pa_cons ha pa_nil hst) (by decide) (by decide) hst rfl) fun σ H Q ⟨G, r, S, RS, RE, q⟩ => ?_
  refine ⟨G, r, S, RS, RE, q.bind0 fun x S1 _ q1 G1 v H1 s1 R1 rv => ?_⟩
  have rd := rv.rd R1 (RE.step s1)
  revert q1 rd
  cases look S1 x <;> intro q1 rd <;> try exact q1.elim
  · rename_i xs
    obtain ⟨p, vs, rfl, q, z, ra⟩ := rd
    refine ⟨p, vs, rfl, .inr (hK ▸ R1.sqT q), fun l hl => ?_⟩
    obtain ⟨s2, R2, v2⟩ := new_lst (xs := xs) R1 z ra hl
    exact q1 _ _ _ (s1.trans s2) R2 ⟨_, rfl, v2.from s1⟩
  · rename_i xs
    obtain ⟨p, vs, rfl, q, z, ra⟩ := rd
    refine ⟨p, vs, rfl, .inl (.inl q), fun l hl => ?_⟩
    obtain ⟨s2, R2, v2⟩ := new_lst (xs := xs) R1 z ra hl
    exact q1 _ _ _ (s1.trans s2) R2 ⟨_, rfl, v2.from s1⟩
theorem s_tof (hK : d.K = X.K) (hg : Gl X "tuple") (hm : X.mg "tuple" = none) (ha : PE X a (tW d W ma)) (hst : starEach [a] X.env = (false, eval a X.env) :: starEach [] X.env) : PE X (.Call (.Name "tuple" p) [a] [] pos) (tE d W (tofM ma)) := by
  refine PE_imp (pe_callTy call_tuple_of hg hm PyProof.Rows.boot_tuple (pa_cons ha pa_nil hst) (by decide) (by decide) hst rfl) fun σ H Q ⟨G, r, S, RS, RE, q⟩ => ?_
  refine ⟨G, r, S, RS, RE, q.bind fun x S1 G1 v H1 s1 R1 rv q1 => ?_⟩
  have rd := rv.rd R1 (RE.step s1)
  revert q1 rd
  cases look S1 x <;> intro q1 rd <;> try exact q1.elim
  · obtain ⟨p, vs, rfl, q, z, ra⟩ := rd
    exact ⟨p, vs, rfl, .inr ⟨hK ▸ R1.sqT q, q1 G1 _ H1 (Step.refl _ _) R1 ⟨p, vs, rfl, q, z, ra⟩⟩⟩
  · rename_i xs
    obtain ⟨p, vs, rfl, q, z, ra⟩ := rd
    refine ⟨p, vs, rfl, .inl ⟨.inl q, fun l hl => ?_⟩⟩
    obtain ⟨s2, R2, v2⟩ := new_tup (xs := xs) R1 z ra hl
    exact q1 _ _ _ s2 R2 v2
theorem rg24 {i : Int} (h : i ≤ 16777216 ∧ -16777216 ≤ i) : RgOk 0 i := by
  have e : (2 : Nat) ^ 24 = 16777216 := by decide
  refine ⟨by omega, by omega, by omega, by omega, ?_⟩
  rw [e]; omega
def rngLM (ma : Env → Store → Res T) : Env → Store → Res T := fun r S => (ma r S).bind fun x S => asI x S fun i S => if i ≤ 16777216 ∧ -16777216 ≤ i then .ok (.lst (rangeL 0 i)) S else .bad
def rngTM (ma : Env → Store → Res T) : Env → Store → Res T := fun r S => (ma r S).bind fun x S => asI x S fun i S => if i ≤ 16777216 ∧ -16777216 ≤ i then .ok (.tup (rangeL 0 i)) S else .bad
theorem rgV_le {i : Int} (h : i ≤ 16777216 ∧ -16777216 ≤ i) : (rgV 0 i).length ≤ sizeLine := by
  rw [rgV_length, sizeLine_eq]; omega
theorem s_lrng {q p' : Pos} (hc : X.calm = true) (hg : Gl X "list") (hm : X.mg "list" = none) (hgr : Gl X "range") (hmr : X.mg "range" = none) (ha : PE X a (tE d W ma)) (hst : starEach [a] X.env = (false, eval a X.env) :: starEach [] X.env) :
    PE X (.Call (.Name "list" p) [.Call (.Name "range" p') [a] [] q] [] pos) (tN d W (rngLM ma)) := by
  refine PE_imp (pe_listRg hc hg hm (prg_1 hgr hmr ha hst)) fun σ H Q ⟨G, r, S, RS, RE, q⟩ => ?_
  refine ⟨G, r, S, RS, RE, q.bind0 fun x S1 _ q1 G1 v H1 s1 R1 rv => ?_⟩
  cases x <;> try exact q1.elim
  cases rv
  rename_i i _
  have q1 : Post d W σ (RN d r σ H) G H Q (if i ≤ 16777216 ∧ -16777216 ≤ i then .ok (.lst (rangeL 0 i)) S1 else .bad) := q1
  split at q1 <;> try exact q1.elim
  rename_i h
  refine ⟨i, rfl, rg24 h, fun l hl => ?_⟩
  obtain ⟨s2, R2, v2⟩ := new_lst R1 (rgV_le h) (range_reps 0 i) hl
  exact q1 _ _ _ (s1.trans s2) R2 ⟨_, rfl, v2.from s1⟩
theorem s_trng {q p' : Pos} (hc : X.calm = true) (hg : Gl X "tuple") (hm : X.mg "tuple" = none) (hgr : Gl X "range") (hmr : X.mg "range" = none) (ha : PE X a (tE d W ma)) (hst : starEach [a] X.env = (false, eval a X.env) :: starEach [] X.env) :
    PE X (.Call (.Name "tuple" p) [.Call (.Name "range" p') [a] [] q] [] pos) (tE d W (rngTM ma)) := by
  refine PE_imp (pe_tupRg hc hg hm (prg_1 hgr hmr ha hst)) fun σ H Q ⟨G, r, S, RS, RE, q⟩ => ?_
  refine ⟨G, r, S, RS, RE, q.bind fun x S1 G1 v H1 s1 R1 rv q1 => ?_⟩
  cases x <;> try exact q1.elim
  cases rv
  rename_i i
  have q1 : Post d W σ (RV d r σ H) G1 H1 Q (if i ≤ 16777216 ∧ -16777216 ≤ i then .ok (.tup (rangeL 0 i)) S1 else .bad) := q1
  split at q1 <;> try exact q1.elim
  rename_i h
  refine ⟨i, rfl, rg24 h, fun l hl => ?_⟩
  obtain ⟨s2, R2, v2⟩ := new_tup R1 (rgV_le h) (range_reps 0 i) hl
  exact q1 _ _ _ s2 R2 v2
/-! ### + and * of lists -/
def rCatR : R2 := fun x y H Q => ∃ l b xs zs, x = .ref l ∧ y = .ref b ∧ L2.Rd H l (.lst xs) ∧ L2.Rd H b (.lst zs) ∧ xs.length + zs.length ≤ sizeLine ∧ ∀ p, H p = none → Q (.ref p) (upd H p (.lst (xs ++ zs)))
theorem op_catR : OpR X (binaryOp .Add) rCatR := by
  intro pins s σ H x y v u Q I rx ry h
  obtain ⟨l, b, xs, zs, rfl, rfl, hH, hB, hz, q⟩ := h
  cases rx
  cases ry
  obtain ⟨z, its, n, r, e⟩ := hH.ok I.hok
  obtain ⟨z2, its2, n2, r2, e2⟩ := hB.ok I.hok
  have hl := r.length
  have hl2 := r2.length
  refine PySem.P.add_list e e2 ?_ (by rw [List.size_toArray, List.size_toArray]; omega)
  have ea : its.toArray ++ its2.toArray = (its ++ its2).toArray := by simp
  rw [ea]
  exact ⟨.ref _, _, I.lnew (t' := s.toks) (r.append r2) (by rw [List.length_append]; omega), rfl, q _ I.fresh⟩
def catM (ma mb : Env → Store → Res T) : Env → Store → Res T := fun r S => (ma r S).bind fun x S => (mb r S).bind fun y S => match look S x, look S y with
    | .lst xs, .lst ys => if xs.length + ys.length ≤ sizeLim then .ok (.lst (xs ++ ys)) S else .bad
    | _, _ => .bad
theorem s_cat (ha : PE X a (tW d W ma)) (hb : PE X b (tW d W mb)) : PE X (.BinOp a .Add b pos) (tN d W (catM ma mb)) := by
  refine PE_imp (pe_op op_catR ha hb) fun σ H Q ⟨G, r, S, RS, RE, q⟩ => ?_
  refine ⟨G, r, S, RS, RE, q.bind0 fun x S1 e1 q1 G1 v H1 s1 R1 rv => ⟨G1, r, S1, R1, RE.step s1, ?_⟩⟩
  have q1' := Post.later q1 s1
  cases e2 : mb r S1 with
  | bad => rw [e2] at q1; exact q1.elim
  | exn c S2 => rw [e2] at q1'; exact q1'
  | ok y S2 =>
    rw [e2] at q1
    intro G2 w H2 s2 R2 rw'
    have E2 := (RE.step s1).step s2
    have rx := (RepW.le s2.le rv).rd R2 E2
    have ry := rw'.rd R2 E2
    have q2 : Post d W σ (RN d r σ H) G H Q (match look S2 x, look S2 y with
      | .lst xs, .lst ys => if xs.length + ys.length ≤ sizeLim then .ok (.lst (xs ++ ys)) S2 else .bad
      | _, _ => .bad) := q1
    revert q2 rx ry
    cases look S2 x <;> intro rx ry q2 <;> try exact q2.elim
    revert ry q2
    cases look S2 y <;> intro ry q2 <;> try exact q2.elim
    rename_i xs ys
    have q3 : Post d W σ (RN d r σ H) G H Q (if xs.length + ys.length ≤ sizeLim then .ok (.lst (xs ++ ys)) S2 else .bad) := q2
    split at q3 <;> try exact q3.elim
    rename_i hl
    rw [lim_eq] at hl
    obtain ⟨p1, vs, rfl, k1, z1, r1⟩ := rx
    obtain ⟨p2, ws, rfl, k2, z2, r2⟩ := ry
    have l1 := r1.length
    have l2 := r2.length
    have hl' : vs.length + ws.length ≤ sizeLine := by omega
    refine ⟨p1, p2, vs, ws, rfl, rfl, k1, k2, hl', fun n hn => ?_⟩
    obtain ⟨s3, R3, v3⟩ := new_lst (xs := xs ++ ys) R2 (by rw [List.length_append]; exact hl') (r1.append r2) hn
    exact q3 _ _ _ ((s1.trans s2).trans s3) R3 ⟨_, rfl, v3.from (s1.trans s2)⟩
end
end Hf
end

section
set_option Elab.async false
set_option linter.all false
set_option maxRecDepth 100000
/-! HfS8: list * int, sorted, index, join, attributes by trees. -/
namespace Hf
open PySem PySem.Spec PyProof.Rows L2
section
variable {X : Cx} {d : D} {W : WX} {a b e : Expr} {es : List Expr} {pos p2 p : Pos} {ma mb mc : Env → Store → Res T} {k : Env → Store → Res (List T)}
def rRepR : R2 := fun x y H Q => ∃ l k xs, x = .ref l ∧ y = .int k ∧ L2.Rd H l (.lst xs) ∧ -(2 ^ 63) ≤ k ∧ k < 2 ^ 63 ∧ xs.length * k.toNat ≤ sizeLine ∧ ∀ p, H p = none → Q (.ref p) (upd H p (.lst (List.replicate k.toNat xs).flatten))
theorem op_repR : OpR X (binaryOp .Mult) rRepR := by
  intro pins s σ H x y v u Q I rx ry h
  obtain ⟨l, k, xs, rfl, rfl, hH, h1, h2, hz, q⟩ := h
  cases rx
  obtain ⟨t, rfl⟩ := ry
  obtain ⟨z, its, n, r, e⟩ := hH.ok I.hok
  have hl := r.length
  have hlen : its.toArray.size * k.toNat ≤ sizeLine := by rw [List.size_toArray, ← hl]; exact hz
  have hcap : ¬ its.toArray.size * k.toNat > (2 ^ 63 - 1) / 8 := by
    have : (sizeLine : Nat) ≤ (2 ^ 63 - 1) / 8 := by decide
    omega
  have hfit : ¬ (!Builtin.List.listFitsIndex k) = true := by
    rw [fitsIndex_both h1 h2]
    exact Bool.false_ne_true
  have hlong : ¬ Builtin.List.listTooLong (its.toArray.size * k.toNat) = true := by
    rw [notLongL hlen]
    exact Bool.false_ne_true
  have hnew : List.foldl (fun x1 x2 => x1 ++ x2) #[] (List.replicate (if its.toArray.isEmpty = true then 0 else k.toNat) its.toArray) = (List.replicate k.toNat its).flatten.toArray := by
    have f0 : ∀ m : Nat, List.foldl (fun x1 x2 => x1 ++ x2) #[] (List.replicate m its.toArray) = (List.replicate m its).flatten.toArray := fun m => by
      have := foldl_rep its m []
      rw [List.nil_append] at this
      exact this
    rw [f0]
    cases its with
    | nil => simp
    | cons a r' => rw [if_neg (by simp)]
  refine wpAny_binaryOp_repeat_ref (T := "list") (U := "int") (by decide) ⟨_, e, rfl⟩ (fun s' => typeIs_int s' k t) noFill_list_mul F.fills_int_mul F.slot_int_rmul repeat_list F.slot_int_index.lookup
    (call_meets F.slot_int_rmul (typeIs_int s k t) F.entry_int_rmul (F.args_int_rmul_2 _ _) (int___rmul___int_list k t l its.toArray n)
      ⟨e, rfl, ⟨_, e, rfl⟩, call_meets F.slot_list_mul ⟨_, e, rfl⟩ F.entry_list_mul (F.args_list_mul_2 _ _) (AutoListH.list___mul___list_int_3 l its.toArray n k t hfit hcap hlong) ⟨e, ?_⟩⟩)
  rw [hnew]
  exact ⟨.ref _, _, I.lnew (t' := s.toks) (r.rep k.toNat) (by rw [PyProof.Rows.lm_len_rep_flat, Nat.mul_comm]; exact hz), rfl, q _ I.fresh⟩
def repK (x y : T) (S : Store) : Res T := match x, y with
    | .lst xs, .int k => if -(2 ^ 63) ≤ k ∧ k < 2 ^ 63 ∧ xs.length * k.toNat ≤ sizeLim then .ok (.lst (List.replicate k.toNat xs).flatten) S else .bad
    | _, _ => .bad
def repM (ma mb : Env → Store → Res T) : Env → Store → Res T := fun r S => (ma r S).bind fun x S => (mb r S).bind fun y S => repK (look S x) y S
theorem s_rep (ha : PE X a (tW d W ma)) (hb : PE X b (tE d W mb)) : PE X (.BinOp a .Mult b pos) (tN d W (repM ma mb)) := by
  refine PE_imp (pe_op op_repR ha hb) fun σ H Q ⟨G, r, S, RS, RE, q⟩ => ?_
  refine ⟨G, r, S, RS, RE, q.bind0 fun x S1 e1 q1 G1 v H1 s1 R1 rv => ⟨G1, r, S1, R1, RE.step s1, ?_⟩⟩
  have q1' := Post.later q1 s1
  cases e2 : mb r S1 with
  | bad => rw [e2] at q1; exact q1.elim
  | exn c S2 => rw [e2] at q1'; exact q1'
  | ok y S2 =>
    rw [e2] at q1
    intro G2 w H2 s2 R2 rw'
    have E2 := (RE.step s1).step s2
    have rx := (RepW.le s2.le rv).rd R2 E2
    have q2 : Post d W σ (RN d r σ H) G H Q (repK (look S2 x) y S2) := q1
    clear q1 q1' e2
    revert q2 rx
    cases look S2 x <;> intro rx q2 <;> try exact q2.elim
    cases y <;> try exact q2.elim
    cases rw'
    rename_i xs k
    have q3 : Post d W σ (RN d r σ H) G H Q (if -(2 ^ 63) ≤ k ∧ k < 2 ^ 63 ∧ xs.length * k.toNat ≤ sizeLim then .ok (.lst (List.replicate k.toNat xs).flatten) S2 else .bad) := q2
    split at q3 <;> try exact q3.elim
    rename_i hl
    rw [lim_eq] at hl
    obtain ⟨p1, vs, rfl, k1, z1, r1⟩ := rx
    have l1 := r1.length
    have hz : vs.length * k.toNat ≤ sizeLine := by rw [← l1]; exact hl.2.2
    refine ⟨p1, k, vs, rfl, rfl, k1, hl.1, hl.2.1, hz, fun n hn => ?_⟩
    obtain ⟨s3, R3, v3⟩ := new_lst (xs := (List.replicate k.toNat xs).flatten) R2 (by rw [PyProof.Rows.lm_len_rep_flat, Nat.mul_comm]; exact hz) (r1.replicate _) hn
    exact q3 _ _ _ ((s1.trans s2).trans s3) R3 ⟨_, rfl, v3.from (s1.trans s2)⟩
/-! ### sorted -/
def sortedM (ma : Env → Store → Res T) : Env → Store → Res T := fun r S => (ma r S).bind fun c S => Res.of (look S c).sorted S
theorem boot_sorted' : bootBuiltins "sorted" = some (.builtin "sorted") := PyProof.Rows.boot_sorted
theorem s_sorted (hg : Gl X "sorted") (hm : X.mg "sorted" = none) (ha : PE X a (tW d W ma)) (hst : starEach [a] X.env = (false, eval a X.env) :: starEach [] X.env) : PE X (.Call (.Name "sorted" p) [a] [] pos) (tN d W (sortedM ma)) := by
  refine PE_imp (pe_callB cr_sortedI hg hm boot_sorted' (pa_cons ha pa_nil hst) (by decide) (by decide) hst rfl) fun σ H Q ⟨G, r, S, RS, RE, q⟩ => ?_
  refine ⟨G, r, S, RS, RE, q.bind0 fun x S1 _ q1 G1 v H1 s1 R1 rv => ?_⟩
  have rd := rv.rd R1 (RE.step s1)
  obtain ⟨t, e, k⟩ := q1.ofO
  revert e rd
  cases look S1 x <;> intro rd e <;> simp only [T.sorted] at e <;> try contradiction
  obtain ⟨is, e1, rfl⟩ := Option.map_eq_some_iff.mp e
  obtain ⟨p1, vs, rfl, q, z, ra⟩ := rd
  have ev := reps_ints ra e1
  refine ⟨p1, is, rfl, by rw [← ev]; exact .inl q, fun ns' n hp hs hn => ?_⟩
  have en : ns' = sortI is := sorted_one (hp.trans (sortI_perm is).symm) hs (sortI_sorted is)
  subst en
  have hz : ((sortI is).map V.int).length ≤ sizeLine := by
    rw [List.length_map, (sortI_perm is).length_eq, ← List.length_map (f := V.int), ← ev]; exact z
  obtain ⟨s2, R2, v2⟩ := new_lst R1 hz (ints_reps (sortI is)) hn
  exact k _ _ _ (s1.trans s2) R2 ⟨_, rfl, v2.from s1⟩
/-! ### attributes -/
def attrM (ma : Env → Store → Res T) (f : Nat) : Env → Store → Res T := fun r S => (ma r S).bind fun x S => Res.of (x.attr f) S
theorem s_attr {f : Nat} (hb : attributeBase a (d.an f) X.env (eval a X.env) = eval a X.env) (hf : f ∈ d.as) (inj : ∀ a b, a ∈ d.as → b ∈ d.as → d.an a = d.an b → a = b) (hC : ∀ c C, d.ca c = some C → Cls X.K C ∧ NoAttr X.K C (d.an f)) (ha : PE X a (tW d W ma)) :
    PE X (.Attribute a (d.an f) pos) (tE d W (attrM ma f)) := by
  refine PE_imp (pe_fld ha hb) fun σ H Q ⟨G, r, S, RS, RE, q⟩ => ?_
  refine ⟨G, r, S, RS, RE, q.bind fun x S1 G1 v H1 s1 R1 rv h1 => ?_⟩
  obtain ⟨t, e, k⟩ := h1.ofO
  cases x <;> simp only [T.attr] at e <;> try contradiction
  have rd := rv.rd R1 (RE.step s1)
  obtain ⟨p1, C, dx, ws, rfl, hc, hh, rf⟩ := rd
  obtain ⟨v1, e1, r1⟩ := rf.get inj hf e
  exact ⟨p1, C, dx, ws, v1, rfl, hh, (hC _ C hc).1, (hC _ C hc).2, e1, k G1 _ H1 (Step.refl _ _) R1 r1⟩
end
end Hf
end

section
set_option Elab.async false
set_option linter.all false
set_option maxRecDepth 100000
/-! HfEn: enumerate over a tuple, walked. -/
namespace Hf
open PySem PySem.Spec PyProof.Rows L2
open AutoSeq1 (wpAny_loadPart')

theorem meets_enumerate_newT (l : Addr) (items : Array Value) (n : Nat) (dct : Option Addr) (sl : Array (Option Value)) :
    Meets (Builtin.«enumerate.__new__» ⟨[.type "enumerate", .ref l], []⟩) (fun _ R s => s.heap.get? l = some { cls := .type "tuple", dict := dct, data := .seq items n, slots := sl } ∧
      R (.ok (.ret (.ref (s.heap.push { cls := .type "tuple_iterator", data := .fields #[.ref l, .int 0 0] }).objs.size)))
        { s with heap := (s.heap.push { cls := .type "tuple_iterator", data := .fields #[.ref l, .int 0 0] }).push { cls := .type "enumerate", data := .fields #[.none, .bool false, .ref s.heap.objs.size, rawInt 0, .none, .none] } }) :=
  .of_wp fun prog w A R s h => by
    obtain ⟨hp, g, d, tk, os⟩ := s; obtain ⟨hl, h⟩ := h
    have hsub := sub_enumerate
    have hL : Heap.IsTuple (Shared.heap ⟨hp, g, d, tk, os⟩) l items := ⟨_, hl, rfl, n, rfl⟩
    wp_walk using wpAny_loadPart' hl
    refine wpAny_stack_any fun st => wpAny_pure ?_
    split
    · rename_i c _ _ _ _ _
      cases (c == Value.type "enumerate")
      · wp_walk using wpAny_loadPart' hl, wpAny_pyIter_tuple hL
        exact ⟨_, rfl, h⟩
      · wp_walk using wpAny_loadPart' hl, wpAny_pyIter_tuple hL
        exact ⟨_, rfl, h⟩
    · wp_walk using wpAny_loadPart' hl, wpAny_pyIter_tuple hL
      exact ⟨_, rfl, h⟩
section
variable {prog : Program} {w : World} {A : Around} {E : Value → Shared → Prop} {s : Shared}
theorem call_enumerate_tuple {l : Addr} {items : Array Value} {Q : Value → Shared → Prop} (hL : s.heap.IsTuple l items)
    (h : ∀ h', IsEnum h' (s.heap.objs.size + 1) s.heap.objs.size 0 .none → h'.IsTupleIter s.heap.objs.size l 0 → h'.objs.size = s.heap.objs.size + 2 →
      (∀ b o, s.heap.get? b = some o → h'.get? b = some o) → Q (.ref (s.heap.objs.size + 1)) { s with heap := h' }) :
    wpAny (model prog w) A (PySem.call (.type "enumerate") [.ref l]) Q E s := by
  obtain ⟨⟨c, dct, dt, sl⟩, hl, hc, n, hd⟩ := hL
  replace hc : c = .type "tuple" := hc
  replace hd : dt = .seq items n := hd
  subst hc hd
  refine callType_new F.called_enumerate (by decide) (F.typeCall_enumerate_1 _) (F.newCall_enumerate_1 _) (fun obj => F.args_object_init_2 obj _) F.entry_enumerate_new
    (meets_enumerate_newT l items n dct sl) ⟨hl, ?_⟩
  have hz : (s.heap.push { cls := .type "tuple_iterator", data := .fields #[.ref l, .int 0 0] }).objs.size = s.heap.objs.size + 1 := Heap.size_push ..
  show _ ∧ _
  rw [hz]
  have he : IsEnum ((s.heap.push { cls := .type "tuple_iterator", data := .fields #[.ref l, .int 0 0] }).push
      { cls := .type "enumerate", data := .fields #[.none, .bool false, .ref s.heap.objs.size, rawInt 0, .none, .none] }) (s.heap.objs.size + 1) s.heap.objs.size 0 .none := by
    have := Heap.get?_push_size (s.heap.push { cls := .type "tuple_iterator", data := .fields #[.ref l, .int 0 0] })
      (o := { cls := .type "enumerate", data := .fields #[.none, .bool false, .ref s.heap.objs.size, rawInt 0, .none, .none] }) rfl
    rw [hz] at this; exact this
  refine ⟨⟨_, he, rfl⟩, h _ he ⟨_, Heap.get?_push_of_some _ (Heap.get?_push_size _ rfl), rfl, rfl⟩ (by rw [Heap.size_push, hz]) fun b o x => Heap.get?_push_of_some _ (Heap.get?_push_of_some _ x)⟩
end
/-- the tuple at a, each item in a new pair -/
def Itet (K : PySem.W.Frag) (a : Addr) : It :=
  ⟨fun i H => ∃ (xs : List V) (x : V), SqT K H a xs ∧ xs[i]? = some x, fun i H v H' => ∃ T x, v = .ref T ∧ H T = none ∧ H' = upd H T (.tup [.int (i : Nat), x]) ∧ ∀ xs, SqT K H a xs → xs[i]? = some x, fun i H => ∃ xs : List V, SqT K H a xs ∧ xs.length = i⟩
theorem turn_enumT {P : Program} {w : World} {K : PySem.W.Frag} {elts : List Expr} {kk : Nat} {tpos : Pos} (a e it : Addr) :
    Turn P w K (.Tuple elts kk tpos) (Itet K a) [e, it] e (fun i h => (∃ old, IsEnum h e it ((i : Nat) : Int) old) ∧ h.IsTupleIter it a i ∧ e ≠ it) where
  mem := by simp
  obj := fun i h st b hb => by
    obtain ⟨⟨old, he⟩, ⟨o, ho, hc, hd⟩, _⟩ := st
    have e' : b = e ∨ b = it := by simpa using hb
    rcases e' with z | z
    · rw [z]; exact ⟨_, he, fun v q => nomatch q⟩
    · rw [z]; exact ⟨o, ho, fun v q => by rw [hd] at q; cases q⟩
  keep := fun i h h' st k => let ⟨⟨old, he⟩, hi, hne⟩ := st; ⟨⟨old, k e (by simp) _ he⟩, hi.at fun o q => k it (by simp) o q, hne⟩
  item := by
    intro X hP hw hK hc i pins s σ H E I hf st hg
    subst hP hw hK
    obtain ⟨⟨old, he⟩, hit, hne⟩ := st
    obtain ⟨xs, x, hq, hx⟩ := hg
    obtain ⟨its, rv, p, hz⟩ := I.tuple hq
    obtain ⟨u, hu, ru⟩ := rv.get hx
    have hel : e < s.heap.objs.size := Heap.lt_size he
    have hil : it < s.heap.objs.size := by obtain ⟨_, q, _⟩ := hit; exact Heap.lt_size q
    have pT : s.heap.IsTuple a its.toArray := p
    have hai : a ≠ it := by
      rintro rfl
      obtain ⟨o, ho, hc', hd⟩ := hit
      obtain ⟨o2, ho2, hc2, _⟩ := pT
      rw [ho] at ho2; cases ho2
      rw [hc'] at hc2
      exact absurd hc2 (by decide)
    have hae : a ≠ e := by
      rintro rfl
      obtain ⟨o2, ho2, hc2, _⟩ := pT
      have he2 : s.heap.get? a = _ := he
      rw [he2] at ho2; cases ho2
      have hc3 : Value.type "enumerate" = Value.type "tuple" := hc2
      exact absurd hc3 (by decide)
    have hlt : i < its.toArray.size := by
      have := (List.getElem?_eq_some_iff.mp hu).1
      simpa using this
    refine wpAny_pyNext_enum_itemD (Draws.tuple (A := X.A.in1) (I.ok.hd hc) it a hai its.toArray) he ⟨hit, pT⟩ hlt hne (by simp [hne, Ne.symm hae]) fun z h' tk hz' ho hst hT hsz hk => ?_
    have ez : z = u := by
      have : its.toArray[i]? = some u := by simpa using hu
      rw [this] at hz'; exact (Option.some.inj hz').symm
    subst ez
    have ho' : IsEnumOut h' e it ((i : Int) + 1) z s.heap.objs.size := ho
    refine ⟨_, rfl, wpAny_letOwnedTupleGo_enum (s := { s with heap := h', toks := tk + 1 }) ho' fun h'' he' sb => ?_⟩
    have hT2 : h''.get? s.heap.objs.size = some { cls := .type "tuple", data := .seq #[.int i tk, z] } := (sb.2 _ (Nat.ne_of_gt hel)).trans hT
    have new : ObjOk X.prog X.w (upd H s.heap.objs.size (.tup [.int (i : Nat), x])) h'' s.heap.objs.size (.tup [.int (i : Nat), x]) :=
      ⟨by show 2 ≤ sizeLine; decide, [.int i tk, z], .cons ⟨_, rfl⟩ (.cons ru .nil), ⟨_, hT2, rfl, _, rfl⟩⟩
    have I1 : Inv X pins σ (upd H s.heap.objs.size (.tup [.int (i : Nat), x])) { s with heap := h'', toks := tk + 1 } :=
      I.turnedNew (ch := [e, it]) (fun b ob hb q => (sb.2 b (fun z => hb (by simp [z]))).trans (hk b ob (fun z => hb (by simp [z])) (fun z => hb (by simp [z])) q)) hf (Nat.le_refl _) new
    refine ⟨.ref s.heap.objs.size, _, I1, rfl, ⟨_, x, rfl, I.hok.fresh (Nat.le_refl _), rfl, fun ys hy => by rw [I.tuple_inj hy hq]; exact hx⟩, ⟨⟨z, ?_⟩, hst.1.at fun o q => (sb.2 it (Ne.symm hne)).trans q, hne⟩, fun b hb => ?_⟩
    · have e1 : ((i + 1 : Nat) : Int) = (i : Int) + 1 := by omega
      rw [e1]; exact he'
    · have hb' : b < s.heap.objs.size := by
        have e' : b = e ∨ b = it := by simpa using hb
        rcases e' with z | z
        · rw [z]; exact hel
        · rw [z]; exact hil
      rw [upd_ne (Nat.ne_of_lt hb')]
      exact (hf b hb).1
  done := by
    intro X hP hw hK hc i pins s σ H E I hf st hg
    subst hP hw hK
    obtain ⟨⟨old, he⟩, hit, hne⟩ := st
    obtain ⟨xs, hq, hx⟩ := hg
    obtain ⟨its, rv, p, hz⟩ := I.tuple hq
    obtain ⟨f0, f1, f2, f3, f4, f5⟩ := hf it (by simp)
    have hl := rv.length
    have pT : s.heap.IsTuple a its.toArray := p
    have hai : a ≠ it := by
      rintro rfl
      obtain ⟨o, ho, hc', hd⟩ := hit
      obtain ⟨o2, ho2, hc2, _⟩ := pT
      rw [ho] at ho2; cases ho2
      rw [hc'] at hc2
      exact absurd hc2 (by decide)
    have hsz : its.toArray.size = i := by simp; omega
    exact wpAny_pyNext_enum_endD (Draws.tuple (A := X.A.in1) (I.ok.hd hc) it a hai its.toArray) he (by rw [hsz]; exact ⟨hit, pT⟩) fun h' eb => ⟨rfl, I.turned (t' := s.toks) (fun b o hb q => eb b o hb q) f0 f1 f3 f4 f5⟩
  self := fun A i s Q E st h => let ⟨⟨_, he⟩, _⟩ := st; wpAny_pyIter_enum he h
def iEnumT (K : PySem.W.Frag) (ta : TA) : TI := fun σ H R => ta σ H fun vs H1 => ∃ a xs, vs = [.ref a] ∧ ((SqL K H1 a xs ∧ R (Ite K a) H1) ∨ (SqT K H1 a xs ∧ R (Itet K a) H1))
theorem pi_enumT {X : Cx} {e : Expr} {ta : TA} {p pos tpos : Pos} {elts : List Expr} {kk : Nat} (hg : Gl X "enumerate") (hm : X.mg "enumerate" = none) (ha : PA X [e] ta) (hs : starEach [e] X.env = (false, eval e X.env) :: starEach [] X.env) :
    PI X (.Tuple elts kk tpos) (.Call (.Name "enumerate" p) [e] [] pos) (iEnumT X.K ta) := by
  refine ⟨fun pins s σ H R I h => ?_⟩
  refine Call_ (ld_blt I hg hm boot_enumerate (PyProof.Rows.callWith_type1 (thn (ha.run pos pins s σ H _ I h) fun us s1 ⟨vs, H1, I1, r1, q1⟩ => ?_) hs rfl))
  obtain ⟨a, xs, ex, ⟨hq, q⟩ | ⟨hq, q⟩⟩ := q1
  · subst ex
    cases r1 with
    | cons r rr =>
      cases rr
      cases r
      obtain ⟨its, rv, p', hz⟩ := I1.list hq
      refine call_enumerate_list p'.isList fun h' he hit hsz hk => wpAny_pyIter_enum he ?_
      have I2 : Inv X pins σ H1 { s1 with heap := h' } := I1.kept (t' := s1.toks) hk
      refine ⟨s1.heap.objs.size + 1, [s1.heap.objs.size + 1, s1.heap.objs.size], _, _, H1, rfl, I2, turn_enum a (s1.heap.objs.size + 1) s1.heap.objs.size, ⟨⟨.none, he⟩, hit, Nat.succ_ne_self _⟩, fun b hb => ?_, q⟩
      have e' : b = s1.heap.objs.size + 1 ∨ b = s1.heap.objs.size := by simpa using hb
      have hle : s1.heap.objs.size ≤ b := by
        rcases e' with z | z
        · rw [z]; exact Nat.le_add_right _ _
        · rw [z]; exact Nat.le_refl _
      exact I1.fpOk hle (I1.hok.fresh hle)
  · subst ex
    cases r1 with
    | cons r rr =>
      cases rr
      cases r
      obtain ⟨its, rv, p', hz⟩ := I1.tuple hq
      refine call_enumerate_tuple (show s1.heap.IsTuple a its.toArray from p') fun h' he hit hsz hk => wpAny_pyIter_enum he ?_
      have I2 : Inv X pins σ H1 { s1 with heap := h' } := I1.kept (t' := s1.toks) hk
      refine ⟨s1.heap.objs.size + 1, [s1.heap.objs.size + 1, s1.heap.objs.size], _, _, H1, rfl, I2, turn_enumT a (s1.heap.objs.size + 1) s1.heap.objs.size, ⟨⟨.none, he⟩, hit, Nat.succ_ne_self _⟩, fun b hb => ?_, q⟩
      have e' : b = s1.heap.objs.size + 1 ∨ b = s1.heap.objs.size := by simpa using hb
      have hle : s1.heap.objs.size ≤ b := by
        rcases e' with z | z
        · rw [z]; exact Nat.le_add_right _ _
        · rw [z]; exact Nat.le_refl _
      exact I1.fpOk hle (I1.hok.fresh hle)
end Hf
end

section
set_option Elab.async false
set_option linter.all false
set_option maxRecDepth 100000
/-! HfS9: what is walked, by trees; targets. -/
namespace Hf
open PySem PySem.Spec PyProof.Rows L2
/-! ### beq is = -/
mutual
theorem T.beq_eq : ∀ {a b : T}, T.beq a b = true → a = b
  | .non, b, h => by cases b <;> simp_all [T.beq]
  | .bl _, b, h => by cases b <;> simp_all [T.beq]
  | .int _, b, h => by cases b <;> simp_all [T.beq]
  | .str _, b, h => by cases b <;> simp_all [T.beq]
  | .lst xs, b, h => by
    cases b <;> simp only [T.beq] at h <;> try contradiction
    rw [T.beqAll_eq h]
  | .tup xs, b, h => by
    cases b <;> simp only [T.beq] at h <;> try contradiction
    rw [T.beqAll_eq h]
  | .ref _, b, h => by cases b <;> simp_all [T.beq]
  | .fn _, b, h => by cases b <;> simp_all [T.beq]
  | .dic xs, b, h => by
    cases b <;> simp only [T.beq] at h <;> try contradiction
    rw [T.beqKs_eq h]
  | .ins _ _, b, h => by cases b <;> simp only [T.beq] at h <;> contradiction
theorem T.beqAll_eq : ∀ {a b : List T}, T.beqAll a b = true → a = b
  | [], [], _ => rfl
  | [], _ :: _, h => by simp [T.beqAll] at h
  | _ :: _, [], h => by simp [T.beqAll] at h
  | x :: xs, y :: ys, h => by
    simp only [T.beqAll, Bool.and_eq_true] at h
    rw [T.beq_eq h.1, T.beqAll_eq h.2]
theorem T.beqKs_eq : ∀ {a b : List (T × T)}, T.beqKs a b = true → a = b
  | [], [], _ => rfl
  | [], _ :: _, h => by simp [T.beqKs] at h
  | _ :: _, [], h => by simp [T.beqKs] at h
  | (k, x) :: xs, (l, y) :: ys, h => by
    simp only [T.beqKs, Bool.and_eq_true] at h
    rw [T.beq_eq h.1.1, T.beq_eq h.1.2, T.beqKs_eq h.2]
end
/-- what is walked stands as it stood -/
def Still (c : T) (xs : List T) (S : Store) : Prop := ∀ n, c = .ref n → S[n]? = some (.lst xs)
theorem still_of {c : T} {xs : List T} {S : Store} (h : still c xs S = true) : Still c xs S := by
  rintro n rfl
  unfold still at h
  cases e : S[n]? with
  | none => simp [e] at h
  | some u =>
    cases u with
    | lst ys =>
      simp only [e] at h
      rw [T.beqAll_eq h]
/-- J gives the trees xs of c, in what Rel tells -/
structure Walked (d : D) (Rel : Gh → Hp → Prop) (p : T × List T) (J : It) : Prop where
  small : p.2.length ≤ sizeLine
  go : ∀ G' S' H', Rel G' H' → RepS d G' S' H' → Still p.1 p.2 S' → ∀ i, i < p.2.length → J.go i H'
  stop : ∀ G' S' H', Rel G' H' → RepS d G' S' H' → Still p.1 p.2 S' → J.stop p.2.length H'
  yld : ∀ G' S' H', Rel G' H' → RepS d G' S' H' → Still p.1 p.2 S' → ∀ i x H'', i < p.2.length → J.yld i H' x H'' → ∃ t G'', p.2[i]? = some t ∧ Step G' G'' H' H'' ∧ RepS d G'' S' H'' ∧ RepV d G'' t x
theorem Walked.weak {d : D} {Rel Rel' : Gh → Hp → Prop} {p : T × List T} {J : It} (w : Walked d Rel p J) (h : ∀ G H, Rel' G H → Rel G H) : Walked d Rel' p J :=
  ⟨w.small, fun G' S' H' t => w.go G' S' H' (h _ _ t), fun G' S' H' t => w.stop G' S' H' (h _ _ t), fun G' S' H' t => w.yld G' S' H' (h _ _ t)⟩
abbrev RI (d : D) : Env → L2.St → Hp → Gh → Hp → T × List T → It → Prop := fun _ _ _ G H p J => Walked d (fun G' H' => Step G G' H H') p J
abbrev RIe (d : D) : Env → L2.St → Hp → Gh → Hp → T × List T → It → Prop := fun _ _ _ G H p J => Walked d (fun G' _ => Le G G') p J
abbrev tItE (d : D) (W : WX) (m : Env → Store → Res (T × List T)) : TI := tG d W (RIe d) m
abbrev tIt (d : D) (W : WX) (m : Env → Store → Res (T × List T)) : TI := tG d W (RI d) m
/-- anything that stays at one place -/
theorem walked_seq {d : D} {Rel : Gh → Hp → Prop} {c : T} {xs : List T} {J : It} {Sq : Hp → Prop} {vs : List V} (hz : vs.length ≤ sizeLine) (hl : xs.length = vs.length)
    (hs : ∀ G' S' H', Rel G' H' → RepS d G' S' H' → Still c xs S' → Sq H' ∧ ∃ ws, ws.length = vs.length ∧ RepAll d G' xs ws ∧ (∀ i, i < xs.length → J.go i H') ∧ J.stop xs.length H' ∧ ∀ i x H'', i < xs.length → J.yld i H' x H'' → H'' = H' ∧ ws[i]? = some x) : Walked d Rel (c, xs) J where
  small := by show xs.length ≤ _; omega
  go := fun G' S' H' s R st i hi => by
    obtain ⟨_, ws, _, _, h, _⟩ := hs G' S' H' s R st
    exact h i hi
  stop := fun G' S' H' s R st => by
    obtain ⟨_, ws, _, _, _, h, _⟩ := hs G' S' H' s R st
    exact h
  yld := fun G' S' H' s R st i x H'' hi y => by
    obtain ⟨_, ws, _, ra, _, _, h⟩ := hs G' S' H' s R st
    obtain ⟨rfl, e⟩ := h i x H'' hi y
    obtain ⟨t, e1, r⟩ := ra.getV e
    exact ⟨t, G', e1, Step.refl _ _, R, r⟩
section
variable {X : Cx} {d : D} {W : WX} {tg it : Expr}
/-- a list, a tuple or a text, as it comes -/
def iAny (K : PySem.W.Frag) (te : TE) : TI := fun σ H R => te σ H fun v H1 => (∃ a xs, v = .ref a ∧ SqL K H1 a xs ∧ R (Itl K a) H1) ∨ (∃ a xs, v = .ref a ∧ SqT K H1 a xs ∧ R (Itt K a) H1) ∨ ∃ x, v = .str x ∧ R (Its x) H1
theorem pi_any {l : Expr} {tl : TE} (hl : PE X l tl) : PI X tg l (iAny X.K tl) := by
  refine ⟨fun pins s σ H R I h => ?_⟩
  refine thn (hl.run pins s σ H _ I h) fun v s1 ⟨x, H1, I1, r1, q1⟩ => ?_
  rcases q1 with ⟨a, xs, e, hq, q⟩ | ⟨a, xs, e, hq, q⟩ | ⟨z, e, q⟩
  · subst e
    cases r1
    obtain ⟨its, rv, p, hz⟩ := I1.list hq
    refine wpAny_pyIter_list p.isList ?_
    refine ⟨s1.heap.objs.size, [s1.heap.objs.size], _, _, H1, rfl, I1.kept (t' := s1.toks) fun b o e => Heap.get?_push_of_some _ e, turn_list a _, ⟨_, Heap.get?_push_size _ rfl, rfl, rfl⟩, fun b hb => ?_, q⟩
    have e : b = s1.heap.objs.size := by simpa using hb
    subst e
    exact I1.fpOk (Nat.le_refl _) (I1.hok.fresh (Nat.le_refl _))
  · subst e
    cases r1
    obtain ⟨its, rv, p, hz⟩ := I1.tuple hq
    refine wpAny_pyIter_tuple (show s1.heap.IsTuple a its.toArray from p) ?_
    refine ⟨s1.heap.objs.size, [s1.heap.objs.size], _, _, H1, rfl, I1.kept (t' := s1.toks) fun b o e => Heap.get?_push_of_some _ e, turn_tuple a _, ⟨_, Heap.get?_push_size _ rfl, rfl, rfl⟩, fun b hb => ?_, q⟩
    have e : b = s1.heap.objs.size := by simpa using hb
    subst e
    exact I1.fpOk (Nat.le_refl _) (I1.hok.fresh (Nat.le_refl _))
  · subst e
    obtain ⟨t, rfl⟩ := r1
    cases ha : z.cps.all (· < 128)
    · exact wpAny_pyIter_wide ha (pi_one (tk := s1.toks) I1 _ (turn_str _ z t "str_iterator" (.inr rfl)) ⟨_, Heap.get?_push_size _ rfl, rfl, rfl⟩ q)
    · exact wpAny_pyIter_ascii ha (pi_one (tk := s1.toks) I1 _ (turn_str _ z t "str_ascii_iterator" (.inl rfl)) ⟨_, Heap.get?_push_size _ rfl, rfl, rfl⟩ q)
/-- where a looked-at list stands, and that it stays -/
theorem lst_stays {G : Gh} {r : Env} {S : Store} {σ : L2.St} {H : Hp} {c : T} {xs : List T} {v : V} (R : RepS d G S H) (E : RepE d G r σ H) (h : RepW d G r σ c v) (e : look S c = .lst xs) :
    ∃ a vs, v = .ref a ∧ vs.length ≤ sizeLine ∧ xs.length = vs.length ∧ L2.Rd H a (.lst vs) ∧ ∀ G' S' H', Step G G' H H' → RepS d G' S' H' → Still c xs S' → ∃ ws, ws.length = vs.length ∧ L2.Rd H' a (.lst ws) ∧ RepAll d G' xs ws := by
  rcases h with h | ⟨i, hi, ⟨ys, hr, rfl⟩ | ⟨c', fs, hr, rfl⟩⟩
  · cases c <;> simp only [look] at e <;> try contradiction
    · rename_i ys
      cases e
      obtain ⟨a, vs, rfl, q, z, ra⟩ := h
      exact ⟨a, vs, rfl, z, ra.length, Rd.imm R q, fun G' S' H' s R' _ => ⟨vs, rfl, Rd.imm R' (Rd.le s.le q), RepAll.le s.le _ ra⟩⟩
    · rename_i n
      obtain ⟨a, rfl, hm⟩ := h
      cases e1 : S[n]? with
      | none => simp [e1] at e
      | some u =>
        cases u with
        | lst ys =>
          simp only [e1] at e
          cases e
          obtain ⟨b, vs, h1, h2, z, h3⟩ := R.cell n xs e1
          rw [hm] at h1; cases h1
          refine ⟨a, vs, rfl, z, h3.length, .inl h2, fun G' S' H' s R' st => ?_⟩
          obtain ⟨b, ws, k1, k2, z2, k3⟩ := R'.cell n xs (st n rfl)
          rw [s.le.mu_get hm] at k1; cases k1
          exact ⟨ws, by rw [← k3.length, h3.length], .inl k2, k3⟩
  · have e' : ys = xs := by simpa [look] using e
    subst e'
    obtain ⟨a, vs, h1, h2, z, h3, h4, h5⟩ := E.own i ys hr
    rw [hi] at h1; cases h1
    exact ⟨a, vs, rfl, z, h3.length, .inl h2, fun G' S' H' s R' _ => ⟨vs, rfl, .inl (s.keep _ _ h2 h5), RepAll.le s.le _ h3⟩⟩
  · simp [look] at e
theorem tup_stays {G : Gh} {r : Env} {S : Store} {σ : L2.St} {c : T} {xs : List T} {v : V} (h : RepW d G r σ c v) (e : look S c = .tup xs) :
    ∃ a vs, v = .ref a ∧ vs.length ≤ sizeLine ∧ RepAll d G xs vs ∧ SqT d.K G.I a vs := by
  rcases h with h | ⟨i, hi, ⟨ys, hr, rfl⟩ | ⟨c', fs, hr, rfl⟩⟩
  · cases c <;> simp only [look] at e <;> try contradiction
    · cases e
      obtain ⟨a, vs, rfl, q, z, ra⟩ := h
      exact ⟨a, vs, rfl, z, ra, q⟩
    · rename_i n
      cases e1 : S[n]? with
      | none => simp [e1] at e
      | some u => cases u with
        | lst ys => simp [e1] at e
  · simp [look] at e
  · simp [look] at e
theorem str_stays {G : Gh} {r : Env} {S : Store} {σ : L2.St} {c : T} {z : List Nat} {v : V} (h : RepW d G r σ c v) (e : look S c = .str z) : RepV d G (.str z) v := by
  rcases h with h | ⟨i, hi, ⟨ys, hr, rfl⟩ | ⟨c', fs, hr, rfl⟩⟩
  · cases c <;> simp only [look] at e <;> try contradiction
    · cases e; exact h
    · rename_i n
      cases e1 : S[n]? with
      | none => simp [e1] at e
      | some u => cases u with
        | lst ys => simp [e1] at e
  · simp [look] at e
  · simp [look] at e
theorem i_any {m : Env → Store → Res T} (hK : d.K = X.K) (h : PE X it (tW d W m)) : PI X tg it (tIt d W fun r S => itM (m r S)) := by
  refine PI_imp (pi_any h) fun σ H R ⟨G, r, S, RS, RE, q⟩ => ⟨G, r, S, RS, RE, ?_⟩
  refine Post.bind0 q fun c S1 _ q1 G1 v H1 s1 R1 rv => ?_
  have E1 := RE.step s1
  cases e : look S1 c <;> simp only [e, T.items] at q1 <;> try exact q1.elim
  · rename_i z
    have rz := str_stays rv e
    obtain ⟨rfl, hz, hall⟩ := rz
    refine .inr (.inr ⟨_, rfl, q1 G1 _ H1 s1 R1 ?_⟩)
    have hsz : (sk z).cps.size = z.length := by simp
    refine ⟨by simp; exact hz, fun G' S' H' _ _ _ i hi => ?_, fun G' S' H' _ _ _ => ?_, fun G' S' H' s R' _ i x H'' hi y => ?_⟩
    · show i < (sk z).cps.size
      rw [hsz]; simpa using hi
    · show (sk z).cps.size ≤ _
      rw [hsz]; simp
    · obtain ⟨rfl, cp, hcp, rfl⟩ := y
      have hcp' : z[i]? = some cp := by simpa using hcp
      refine ⟨.str [cp], G', by simp [hcp'], Step.refl _ _, R', ?_⟩
      have hm : cp ∈ z := List.mem_of_getElem? hcp'
      refine ⟨rfl, by rw [sizeLine_eq]; simp, ?_⟩
      simp only [List.all_eq_true] at hall
      simp only [List.all_cons, List.all_nil, Bool.and_true]
      exact hall cp hm
  · rename_i xs
    obtain ⟨a, vs, rfl, z, ra, q⟩ := tup_stays rv e
    refine .inr (.inl ⟨a, vs, rfl, hK ▸ R1.sqT q, q1 G1 _ H1 s1 R1 ?_⟩)
    refine walked_seq (Sq := fun _ => True) z ra.length fun G' S' H' s R' _ => ?_
    have sq : SqT X.K H' a vs := hK ▸ R'.sqT (SqT.le s.le q)
    have wk := walk_tup (K := X.K) (a := a) (xs := vs)
    exact ⟨trivial, vs, rfl, RepAll.le s.le _ ra, fun i hi => wk.goes i H' (by rw [← ra.length]; exact hi) sq, by rw [ra.length]; exact wk.stops H' sq, fun i x H'' hi y => wk.yields i H' x H'' (by rw [← ra.length]; exact hi) sq y⟩
  · rename_i xs
    obtain ⟨a, vs, rfl, z, hl, q, st⟩ := lst_stays R1 E1 rv e
    refine .inl ⟨a, vs, rfl, .inl q, q1 G1 _ H1 s1 R1 ?_⟩
    refine walked_seq (Sq := fun _ => True) z hl fun G' S' H' s R' sl => ?_
    obtain ⟨ws, lw, rd, ra⟩ := st G' S' H' s R' sl
    have sq : SqL X.K H' a ws := .inl rd
    have wk := walk_list (K := X.K) (a := a) (xs := ws)
    exact ⟨trivial, ws, lw, ra, fun i hi => wk.goes i H' (by rw [lw, ← hl]; exact hi) sq, by rw [hl, ← lw]; exact wk.stops H' sq, fun i x H'' hi y => wk.yields i H' x H'' (by rw [lw, ← hl]; exact hi) sq y⟩
theorem i_weak {m : Env → Store → Res (T × List T)} (h : PI X tg it (tItE d W m)) : PI X tg it (tIt d W m) :=
  PI_imp h fun σ H R ⟨G, r, S, RS, RE, q⟩ => ⟨G, r, S, RS, RE, q.imp fun p S1 G1 J H1 _ s1 R1 k w => k G1 J H1 s1 R1 (w.weak fun _ _ s => s.le)⟩
theorem i_anyE {m : Env → Store → Res T} (hK : d.K = X.K) (h : PE X it (tE d W m)) : PI X tg it (tItE d W fun r S => itM (m r S)) := by
  refine PI_imp (pi_any h) fun σ H R ⟨G, r, S, RS, RE, q⟩ => ⟨G, r, S, RS, RE, ?_⟩
  refine Post.bind0 q fun c S1 e0 q1 G1 v H1 s1 R1 rv => ?_
  cases e : look S1 c <;> simp only [e, T.items] at q1 <;> try exact q1.elim
  · rename_i z
    have rz := str_stays (r := r) (σ := σ) (.inl rv) e
    obtain ⟨rfl, hz, hall⟩ := rz
    refine .inr (.inr ⟨_, rfl, q1 G1 _ H1 s1 R1 ?_⟩)
    have hsz : (sk z).cps.size = z.length := by simp
    refine ⟨by simp; exact hz, fun G' S' H' _ _ _ i hi => ?_, fun G' S' H' _ _ _ => ?_, fun G' S' H' s R' _ i x H'' hi y => ?_⟩
    · show i < (sk z).cps.size
      rw [hsz]; simpa using hi
    · show (sk z).cps.size ≤ _
      rw [hsz]; simp
    · obtain ⟨rfl, cp, hcp, rfl⟩ := y
      have hcp' : z[i]? = some cp := by simpa using hcp
      refine ⟨.str [cp], G', by simp [hcp'], Step.refl _ _, R', ?_⟩
      have hm : cp ∈ z := List.mem_of_getElem? hcp'
      refine ⟨rfl, by rw [sizeLine_eq]; simp, ?_⟩
      simp only [List.all_eq_true] at hall
      simp only [List.all_cons, List.all_nil, Bool.and_true]
      exact hall cp hm
  · rename_i xs
    obtain ⟨a, vs, rfl, z, ra, q⟩ := tup_stays (r := r) (σ := σ) (.inl rv) e
    refine .inr (.inl ⟨a, vs, rfl, hK ▸ R1.sqT q, q1 G1 _ H1 s1 R1 ?_⟩)
    refine walked_seq (Sq := fun _ => True) z ra.length fun G' S' H' s R' _ => ?_
    have sq : SqT X.K H' a vs := hK ▸ R'.sqT (SqT.le s q)
    have wk := walk_tup (K := X.K) (a := a) (xs := vs)
    exact ⟨trivial, vs, rfl, RepAll.le s _ ra, fun i hi => wk.goes i H' (by rw [← ra.length]; exact hi) sq, by rw [ra.length]; exact wk.stops H' sq, fun i x H'' hi y => wk.yields i H' x H'' (by rw [← ra.length]; exact hi) sq y⟩
  · rename_i xs
    have st : ∃ a vs, v = .ref a ∧ vs.length ≤ sizeLine ∧ xs.length = vs.length ∧ L2.Rd H1 a (.lst vs) ∧ ∀ G' S' H', Le G1 G' → RepS d G' S' H' → Still c xs S' → ∃ ws, ws.length = vs.length ∧ L2.Rd H' a (.lst ws) ∧ RepAll d G' xs ws := by
      cases c <;> simp only [look] at e <;> try contradiction
      · rename_i ys
        cases e
        obtain ⟨a, vs, rfl, q, z, ra⟩ := rv
        exact ⟨a, vs, rfl, z, ra.length, Rd.imm R1 q, fun G' S' H' s R' _ => ⟨vs, rfl, Rd.imm R' (Rd.le s q), RepAll.le s _ ra⟩⟩
      · rename_i n
        obtain ⟨a, rfl, hm⟩ := rv
        cases e1 : S1[n]? with
        | none => simp [e1] at e
        | some u =>
          cases u with
          | lst ys =>
            simp only [e1] at e
            cases e
            obtain ⟨b, vs, h1, h2, z, h3⟩ := R1.cell n xs e1
            rw [hm] at h1; cases h1
            refine ⟨a, vs, rfl, z, h3.length, .inl h2, fun G' S' H' s R' st => ?_⟩
            obtain ⟨b, ws, k1, k2, z2, k3⟩ := R'.cell n xs (st n rfl)
            rw [s.mu_get hm] at k1; cases k1
            exact ⟨ws, by rw [← k3.length, h3.length], .inl k2, k3⟩
    obtain ⟨a, vs, rfl, z, hl, q, st⟩ := st
    refine .inl ⟨a, vs, rfl, .inl q, q1 G1 _ H1 s1 R1 ?_⟩
    refine walked_seq (Sq := fun _ => True) z hl fun G' S' H' s R' sl => ?_
    obtain ⟨ws, lw, rd, ra⟩ := st G' S' H' s R' sl
    have sq : SqL X.K H' a ws := .inl rd
    have wk := walk_list (K := X.K) (a := a) (xs := ws)
    exact ⟨trivial, ws, lw, ra, fun i hi => wk.goes i H' (by rw [lw, ← hl]; exact hi) sq, by rw [hl, ← lw]; exact wk.stops H' sq, fun i x H'' hi y => wk.yields i H' x H'' (by rw [lw, ← hl]; exact hi) sq y⟩
/-! ### range -/
theorem rangeL_get {lo hi : Int} {i : Nat} (h : i < (hi - lo).toNat) : (rangeL lo hi)[i]? = some (.int (lo + (i : Nat))) := by
  unfold rangeL
  rw [List.getElem?_map, List.getElem?_range h]
  rfl
theorem rangeL_len (lo hi : Int) : (rangeL lo hi).length = (hi - lo).toNat := by unfold rangeL; rw [List.length_map, List.length_range]
theorem walked_rng {Rel : Gh → Hp → Prop} {lo hi : Int} (h : hi - lo ≤ 16777216) : Walked d Rel (.lst (rangeL lo hi), rangeL lo hi) (Itr lo (hi - lo).toNat) := by
  have hl := rangeL_len lo hi
  refine ⟨by show (rangeL lo hi).length ≤ _; rw [hl, sizeLine_eq]; omega, fun G' S' H' _ _ _ i hi' => ?_, fun G' S' H' _ _ _ => ?_, fun G' S' H' s R _ i x H'' hi' y => ?_⟩
  · show i < _
    rw [← hl]; exact hi'
  · show _ ≤ (rangeL lo hi).length
    rw [hl]; exact Nat.le_refl _
  · obtain ⟨rfl, rfl⟩ := y
    have hi2 : i < (hi - lo).toNat := by rw [← hl]; exact hi'
    exact ⟨_, G', rangeL_get hi2, Step.refl _ _, R, rfl⟩
variable {a b e : Expr} {pos p tpos : Pos} {ma mb : Env → Store → Res T}
def rngM (ma : Env → Store → Res T) : Env → Store → Res T := fun r S => (ma r S).bind fun x S => asI x S fun i S => if i ≤ 16777216 ∧ -(2 ^ 60) < i then .ok (.lst (rangeL 0 i)) S else .bad
def rng2M (ma mb : Env → Store → Res T) : Env → Store → Res T := fun r S => (ma r S).bind fun x S => (mb r S).bind fun y S => asI x S fun i S => asI y S fun j S => if (-(2 ^ 60) < i ∧ i < 2 ^ 60) ∧ -(2 ^ 60) < j ∧ j < 2 ^ 60 ∧ j - i ≤ 16777216 then .ok (.lst (rangeL i j)) S else .bad
theorem i_rng (hg : Gl X "range") (hm : X.mg "range" = none) (ha : PE X a (tE d W ma)) (hs : starEach [a] X.env = (false, eval a X.env) :: starEach [] X.env) :
    PI X tg (.Call (.Name "range" p) [a] [] pos) (tItE d W fun r S => itM (rngM ma r S)) := by
  refine PI_imp (pi_range1 hg hm (s_cons ha s_nil hs) hs) fun σ H R ⟨G, r, S, RS, RE, q⟩ => ⟨G, r, S, RS, RE, ?_⟩
  have q : Post d W σ (RIe d r σ H) G H R (itM (rngM ma r S)) := q
  unfold rngM at q
  show Post d W σ _ G H _ ((ma r S).bind fun x S => (Res.ok [] S).bind fun xs S => .ok (x :: xs) S)
  cases e1 : ma r S with
  | bad => rw [e1] at q; exact q.elim
  | exn c S2 => rw [e1] at q; exact q
  | ok x S2 =>
    rw [e1] at q
    intro G2 vs H2 s2 R2 rv
    cases x <;> try exact q.elim
    rename_i i
    have q : Post d W σ (RIe d r σ H) G H R (itM (if i ≤ 16777216 ∧ -(2 ^ 60) < i then .ok (.lst (rangeL 0 i)) S2 else .bad)) := q
    split at q <;> try exact q.elim
    rename_i hb
    cases vs with
    | nil => exact rv.elim
    | cons v vs =>
      cases vs with
      | cons _ _ => exact rv.2.elim
      | nil =>
        have e2 : v = .int i := rv.1
        subst e2
        refine ⟨i, rfl, by omega, by omega, q G2 _ H2 s2 R2 ?_⟩
        have := walked_rng (d := d) (Rel := fun G' _ => Le G2 G') (lo := 0) (hi := i) (by omega)
        rw [show i - 0 = i from by omega] at this
        exact this
theorem i_rng2 (hg : Gl X "range") (hm : X.mg "range" = none) (ha : PE X a (tE d W ma)) (hb : PE X b (tE d W mb)) (hs : starEach [a, b] X.env = (false, eval a X.env) :: starEach [b] X.env) (hs2 : starEach [b] X.env = (false, eval b X.env) :: starEach [] X.env) :
    PI X tg (.Call (.Name "range" p) [a, b] [] pos) (tItE d W fun r S => itM (rng2M ma mb r S)) := by
  refine PI_imp (pi_range2 hg hm (s_cons ha (s_cons hb s_nil hs2) hs) (hs.trans (by rw [hs2]; rfl)) hs2) fun σ H R ⟨G, r, S, RS, RE, q⟩ => ⟨G, r, S, RS, RE, ?_⟩
  have q : Post d W σ (RIe d r σ H) G H R (itM (rng2M ma mb r S)) := q
  unfold rng2M at q
  show Post d W σ _ G H _ ((ma r S).bind fun x S => ((mb r S).bind fun y S => (Res.ok [] S).bind fun xs S => .ok (y :: xs) S).bind fun xs S => .ok (x :: xs) S)
  cases e1 : ma r S with
  | bad => rw [e1] at q; exact q.elim
  | exn c S2 => rw [e1] at q; exact q
  | ok x S2 =>
    rw [e1] at q
    show Post d W σ _ G H _ (((mb r S2).bind fun y S => (Res.ok [] S).bind fun xs S => .ok (y :: xs) S).bind fun xs S => .ok (x :: xs) S)
    have q : Post d W σ (RIe d r σ H) G H R (itM ((mb r S2).bind fun y S => asI x S fun i S => asI y S fun j S => if (-(2 ^ 60) < i ∧ i < 2 ^ 60) ∧ -(2 ^ 60) < j ∧ j < 2 ^ 60 ∧ j - i ≤ 16777216 then .ok (.lst (rangeL i j)) S else .bad)) := q
    cases e2 : mb r S2 with
    | bad => rw [e2] at q; exact q.elim
    | exn c S3 => rw [e2] at q; exact q
    | ok y S3 =>
      rw [e2] at q
      intro G2 vs H2 s2 R2 rv
      obtain ⟨i, rfl⟩ : ∃ i, x = .int i := by cases x <;> first | exact q.elim | exact ⟨_, rfl⟩
      obtain ⟨j, rfl⟩ : ∃ i, y = .int i := by cases y <;> first | exact q.elim | exact ⟨_, rfl⟩
      have q : Post d W σ (RIe d r σ H) G H R (itM (if (-(2 ^ 60) < i ∧ i < 2 ^ 60) ∧ -(2 ^ 60) < j ∧ j < 2 ^ 60 ∧ j - i ≤ 16777216 then .ok (.lst (rangeL i j)) S3 else .bad)) := q
      split at q <;> try exact q.elim
      rename_i hb
      match vs, rv with
      | [v, w], rv =>
        have e3 : v = .int i := rv.1
        have e4 : w = .int j := rv.2.1
        subst e3 e4
        exact ⟨i, j, rfl, by omega, q G2 _ H2 s2 R2 (walked_rng (by omega))⟩
      | [], rv => exact rv.elim
      | [_], rv => exact rv.2.elim
      | _ :: _ :: _ :: _, rv => exact rv.2.2.elim
/-! ### enumerate -/
theorem enumL_get : ∀ {xs : List T} {n i : Nat} {t : T}, xs[i]? = some t → (enumL n xs)[i]? = some (.tup [.int ((n + i : Nat) : Int), t])
  | [], _, _, _, e => by simp at e
  | x :: xs, n, 0, t, e => by
    simp at e; subst e; rfl
  | x :: xs, n, i + 1, t, e => by
    have := enumL_get (n := n + 1) (i := i) (t := t) (xs := xs) (by simpa using e)
    have e2 : n + 1 + i = n + (i + 1) := by omega
    rw [e2] at this
    simpa [enumL] using this
theorem enumL_len : ∀ (xs : List T) (n : Nat), (enumL n xs).length = xs.length
  | [], _ => rfl
  | x :: xs, n => by simp [enumL, enumL_len xs (n + 1)]
def enumM (ma : Env → Store → Res T) : Env → Store → Res T := fun r S => (ma r S).bind fun c S => match c with
    | .lst xs => .ok (.lst (enumL 0 xs)) S
    | .tup xs => .ok (.lst (enumL 0 xs)) S
    | _ => .bad
theorem walked_enum {G : Gh} {xs : List T} {vs : List V} {J : It} (hz : vs.length ≤ sizeLine) (ra : RepAll d G xs vs)
    (hs : ∀ G' S' H', Le G G' → RepS d G' S' H' → (∀ i, i < vs.length → J.go i H') ∧ J.stop vs.length H' ∧ ∀ i v H'', J.yld i H' v H'' → ∃ T x, v = .ref T ∧ H' T = none ∧ H'' = upd H' T (.tup [.int (i : Nat), x]) ∧ vs[i]? = some x) : Walked d (fun G' _ => Le G G') (.lst (enumL 0 xs), enumL 0 xs) J := by
  have hl := ra.length
  refine ⟨by show (enumL 0 xs).length ≤ _; rw [enumL_len]; omega, fun G' S' H' s R _ i hi => ?_, fun G' S' H' s R _ => ?_, fun G' S' H' s R _ i v H'' hi y => ?_⟩
  · refine (hs G' S' H' s R).1 i ?_
    have h2 : i < (enumL 0 xs).length := hi
    rw [enumL_len] at h2; omega
  · have := (hs G' S' H' s R).2.1
    show J.stop (enumL 0 xs).length H'
    rw [enumL_len, hl]; exact this
  · obtain ⟨T, x, rfl, hT, rfl, hx⟩ := (hs G' S' H' s R).2.2 i v H'' y
    obtain ⟨t, ht, rt⟩ := ra.getV hx
    obtain ⟨s2, R2, v2⟩ := new_tup (d := d) (xs := [.int (i : Nat), t]) (vs := [.int (i : Nat), x]) R (by rw [sizeLine_eq]; simp) ⟨rfl, RepV.le s t rt, trivial⟩ hT
    refine ⟨_, _, ?_, s2, R2, v2⟩
    have := enumL_get (n := 0) ht
    rw [Nat.zero_add] at this
    exact this
theorem i_enum {elts : List Expr} {kk : Nat} (hK : d.K = X.K) (hg : Gl X "enumerate") (hm : X.mg "enumerate" = none) (ha : PE X a (tE d W ma)) (hs : starEach [a] X.env = (false, eval a X.env) :: starEach [] X.env) :
    PI X (.Tuple elts kk tpos) (.Call (.Name "enumerate" p) [a] [] pos) (tItE d W fun r S => itM (enumM ma r S)) := by
  refine PI_imp (pi_enumT hg hm (s_cons ha s_nil hs) hs) fun σ H R ⟨G, r, S, RS, RE, q⟩ => ⟨G, r, S, RS, RE, ?_⟩
  have q : Post d W σ (RIe d r σ H) G H R (itM (enumM ma r S)) := q
  unfold enumM at q
  show Post d W σ _ G H _ ((ma r S).bind fun x S => (Res.ok [] S).bind fun xs S => .ok (x :: xs) S)
  cases e1 : ma r S with
  | bad => rw [e1] at q; exact q.elim
  | exn c S2 => rw [e1] at q; exact q
  | ok x S2 =>
    rw [e1] at q
    intro G2 vs H2 s2 R2 rv
    match vs, rv with
    | [v], rv =>
      have rv := rv.1
      obtain ⟨xs, rfl | rfl⟩ : ∃ xs, x = .tup xs ∨ x = .lst xs := by cases x <;> first | exact q.elim | exact ⟨_, .inl rfl⟩ | exact ⟨_, .inr rfl⟩
      · obtain ⟨a, vs, rfl, sq, z, ra⟩ := rv
        have q : Post d W σ (RIe d r σ H) G H R (.ok (.lst (enumL 0 xs), enumL 0 xs) S2) := q
        refine ⟨a, vs, rfl, .inr ⟨hK ▸ R2.sqT sq, q G2 _ H2 s2 R2 (walked_enum z ra fun G' S' H' s R' => ?_)⟩⟩
        have sq' : SqT X.K H' a vs := hK ▸ R'.sqT (SqT.le s sq)
        exact ⟨fun i hi => ⟨vs, vs[i], sq', by simp [hi]⟩, ⟨vs, sq', rfl⟩, fun i v H'' ⟨T, x, h1, h2, h3, h4⟩ => ⟨T, x, h1, h2, h3, h4 vs sq'⟩⟩
      · obtain ⟨a, vs, rfl, sq, z, ra⟩ := rv
        have q : Post d W σ (RIe d r σ H) G H R (.ok (.lst (enumL 0 xs), enumL 0 xs) S2) := q
        refine ⟨a, vs, rfl, .inl ⟨.inl (Rd.imm R2 sq), q G2 _ H2 s2 R2 (walked_enum z ra fun G' S' H' s R' => ?_)⟩⟩
        have sq' : SqL X.K H' a vs := .inl (Rd.imm R' (Rd.le s sq))
        exact ⟨fun i hi => ⟨vs, vs[i], sq', by simp [hi]⟩, ⟨vs, sq', Nat.le_refl _⟩, fun i v H'' ⟨T, x, h1, h2, h3, h4⟩ => ⟨T, x, h1, h2, h3, h4 vs sq'⟩⟩
    | [], rv => exact rv.elim
    | _ :: _ :: _, rv => exact rv.2.elim
end
end Hf
end

section
set_option Elab.async false
set_option linter.all false
set_option maxRecDepth 100000
/-! HfS10: targets, comprehensions by trees. -/
namespace Hf
open PySem PySem.Spec PyProof.Rows L2
theorem get_set {α : Type} {l : List α} {i j : Nat} {a b : α} (h : (l.set i a)[j]? = some b) : (j = i ∧ a = b ∧ i < l.length) ∨ (j ≠ i ∧ l[j]? = some b) := by
  by_cases e : i = j
  · subst e
    by_cases hl : i < l.length
    · rw [List.getElem?_set_self hl] at h
      exact .inl ⟨rfl, Option.some.inj h, hl⟩
    · rw [List.getElem?_eq_none (by simpa using hl)] at h; cases h
  · rw [List.getElem?_set_ne e] at h
    exact .inr ⟨fun q => e q.symm, h⟩
section
variable {d : D} {G : Gh} {r : Env} {σ : L2.St} {H : Hp}
/-- a slot is set to a value, or forgotten -/
theorem RepE.put (E : RepE d G r σ H) {i : Nat} {sl : Slot} {o : Option V} (h : (sl = .no) ∨ ∃ t v, sl = .val t ∧ o = some v ∧ RepV d G t v) : RepE d G (r.set i sl) (σ.set i o) H := by
  refine ⟨by rw [List.length_set, List.length_set]; exact E.len, fun j t e => ?_, fun j xs e => ?_, fun j k xs ys a e1 e2 e3 e4 => ?_, fun j c fs e => ?_, fun j c e => ?_⟩
  · rcases get_set e with ⟨rfl, e1, hl⟩ | ⟨hne, e⟩
    · rcases h with h | ⟨t', v, h1, h2, h3⟩
      · rw [h] at e1; cases e1
      · rw [h1] at e1; cases e1
        rw [E.len] at hl
        exact ⟨v, by rw [List.getElem?_set_self hl, h2], h3⟩
    · rw [List.getElem?_set_ne (Ne.symm hne)]; exact E.slot j t e
  · rcases get_set e with ⟨rfl, e1, hl⟩ | ⟨hne, e⟩
    · rcases h with h | ⟨t', v, h1, h2, h3⟩
      · rw [h] at e1; cases e1
      · rw [h1] at e1; cases e1
    · rw [List.getElem?_set_ne (Ne.symm hne)]; exact E.own j xs e
  · have nj : j ≠ i ∧ r[j]? = some (Slot.own xs) := by
      rcases get_set e1 with ⟨rfl, q, hl⟩ | q
      · rcases h with h | ⟨t', v, h1, h2, h3⟩
        · rw [h] at q; cases q
        · rw [h1] at q; cases q
      · exact q
    have nk : k ≠ i ∧ r[k]? = some (Slot.own ys) := by
      rcases get_set e2 with ⟨rfl, q, hl⟩ | q
      · rcases h with h | ⟨t', v, h1, h2, h3⟩
        · rw [h] at q; cases q
        · rw [h1] at q; cases q
      · exact q
    rw [List.getElem?_set_ne (Ne.symm nj.1)] at e3
    rw [List.getElem?_set_ne (Ne.symm nk.1)] at e4
    exact E.apart j k xs ys a nj.2 nk.2 e3 e4
  · rcases get_set e with ⟨rfl, e1, hl⟩ | ⟨hne, e⟩
    · rcases h with h | ⟨t', v, h1, h2, h3⟩
      · rw [h] at e1; cases e1
      · rw [h1] at e1; cases e1
    · rw [List.getElem?_set_ne (Ne.symm hne)]; exact E.inst j c fs e
  · rcases get_set e with ⟨rfl, e1, hl⟩ | ⟨hne, e⟩
    · rcases h with h | ⟨t', v, h1, h2, h3⟩
      · rw [h] at e1; cases e1
      · rw [h1] at e1; cases e1
    · rw [List.getElem?_set_ne (Ne.symm hne)]; exact E.exc j c e
theorem RepE.wipe (E : RepE d G r σ H) : ∀ vs : List Nat, RepE d G (wipeE r vs) (L2.wipe σ vs) H
  | [] => E
  | _ :: vs => (RepE.wipe E vs).put (.inl rfl)
end
/-- what may be changed through the frame's names was made in the frame -/
def RepO (H0 : Hp) (r : Env) (σ : L2.St) : Prop := ∀ (i : Nat) a, σ[i]? = some (some (V.ref a)) → ((∃ xs, r[i]? = some (Slot.own xs)) ∨ ∃ c fs, r[i]? = some (Slot.inst c fs)) → H0 a = none
theorem RepO.put {H0 : Hp} {r : Env} {σ : L2.St} (O : RepO H0 r σ) {i : Nat} {sl : Slot} {o : Option V} (h : (∀ xs, sl ≠ .own xs) ∧ ∀ c fs, sl ≠ .inst c fs) : RepO H0 (r.set i sl) (σ.set i o) := by
  intro j a e q
  rcases q with ⟨xs, q⟩ | ⟨c, fs, q⟩
  · rcases get_set q with ⟨_, q2, _⟩ | ⟨hne, q2⟩
    · exact absurd q2 (h.1 xs)
    · rw [List.getElem?_set_ne (Ne.symm hne)] at e
      exact O j a e (.inl ⟨xs, q2⟩)
  · rcases get_set q with ⟨_, q2, _⟩ | ⟨hne, q2⟩
    · exact absurd q2 (h.2 c fs)
    · rw [List.getElem?_set_ne (Ne.symm hne)] at e
      exact O j a e (.inr ⟨c, fs, q2⟩)
/-! ### wiping -/
theorem wipe_in {σ : L2.St} {j : Nat} : ∀ {vs : List Nat}, j ∈ vs → (L2.wipe σ vs)[j]? = σ[j]?.map fun _ => none
  | v :: vs, h => by
    unfold L2.wipe
    by_cases e : v = j
    · subst e
      by_cases hl : v < σ.length
      · rw [List.getElem?_set_self (by rw [wipe_length]; exact hl), List.getElem?_eq_getElem hl]; rfl
      · rw [List.getElem?_eq_none (by rw [List.length_set, wipe_length]; omega), List.getElem?_eq_none (by omega)]; rfl
    · rw [List.getElem?_set_ne e]
      rcases List.mem_cons.mp h with q | q
      · exact absurd q.symm e
      · exact wipe_in q
theorem wipe_eq {σ σ' : L2.St} {vs : List Nat} (hl : σ'.length = σ.length) (h : ∀ j, j ∉ vs → σ'[j]? = σ[j]?) : L2.wipe σ' vs = L2.wipe σ vs := by
  refine List.ext_getElem? fun j => ?_
  by_cases m : j ∈ vs
  · rw [wipe_in m, wipe_in m]
    by_cases q : j < σ.length
    · rw [List.getElem?_eq_getElem q, List.getElem?_eq_getElem (by omega)]; rfl
    · rw [List.getElem?_eq_none (by omega), List.getElem?_eq_none (by omega)]
  · rw [wipe_out m, wipe_out m]; exact h j m
theorem wipe_set {σ : L2.St} {vs : List Nat} {i : Nat} {o : Option V} (h : i ∈ vs) : L2.wipe (σ.set i o) vs = L2.wipe σ vs :=
  wipe_eq (List.length_set ..) fun j hj => List.getElem?_set_ne fun e => hj (by rw [← e]; exact h)
theorem wipe_wipe {σ : L2.St} {vs : List Nat} : L2.wipe (L2.wipe σ vs) vs = L2.wipe σ vs :=
  wipe_eq (wipe_length ..) fun j hj => wipe_out hj
/-! ### targets -/
def gNames : List Nat → TGs
  | [] => gNil
  | i :: is => gCons (gName i) (gNames is)
def tBind (K : PySem.W.Frag) : Tg → TG
  | .n i => gName i
  | .t is => gTup K is.length (gNames is)
section
variable {d : D} {G : Gh} {H : Hp}
theorem names_rep : ∀ {is : List Nat} {xs : List T} {us : List V} {r r' : Env} {σ : L2.St} {Q : L2.St → Hp → Prop}, RepE d G r σ H → RepAll d G xs us → bindTs is xs r = some r' →
    (∀ σ', RepE d G r' σ' H → (∀ vs : List Nat, (∀ i ∈ is, i ∈ vs) → L2.wipe σ' vs = L2.wipe σ vs) → (∀ H0, RepO H0 r σ → RepO H0 r' σ') → Q σ' H) → is.length = us.length ∧ gNames is us σ H Q
  | [], [], us, r, r', σ, Q, E, ra, e, k => by
    cases us with
    | cons _ _ => exact ra.elim
    | nil =>
      have e' : r = r' := Option.some.inj e
      subst e'
      exact ⟨rfl, rfl, k σ E (fun _ _ => rfl) fun _ O => O⟩
  | [], _ :: _, _, _, _, _, _, _, _, e, _ => by simp [bindTs] at e
  | _ :: _, [], _, _, _, _, _, _, _, e, _ => by simp [bindTs] at e
  | i :: is, x :: xs, us, r, r', σ, Q, E, ra, e, k => by
    cases us with
    | nil => exact ra.elim
    | cons u us =>
      have e' : bindTs is xs (r.set i (.val x)) = some r' := e
      obtain ⟨h1, h2⟩ := names_rep (us := us) (Q := Q) (E.put (i := i) (.inr ⟨x, u, rfl, rfl, ra.1⟩)) ra.2 e' fun σ' E' w wo => k σ' E' (fun vs hv => by
        rw [w vs fun j hj => hv j (List.mem_cons_of_mem _ hj), wipe_set (hv i List.mem_cons_self)]) fun H0 O => wo H0 (O.put ⟨fun _ z => (nomatch z), fun _ _ z => (nomatch z)⟩)
      exact ⟨by simp [h1], u, us, rfl, h2⟩
theorem bind_rep {K : PySem.W.Frag} (hK : d.K = K) {tg : Tg} {t : T} {v : V} {r r' : Env} {S : Store} {σ : L2.St} {Q : L2.St → Hp → Prop} (R : RepS d G S H) (E : RepE d G r σ H) (rv : RepV d G t v) (e : bindT tg t r = some r')
    (k : ∀ σ', RepE d G r' σ' H → (∀ vs : List Nat, (∀ i ∈ tg.slots, i ∈ vs) → L2.wipe σ' vs = L2.wipe σ vs) → (∀ H0, RepO H0 r σ → RepO H0 r' σ') → Q σ' H) : tBind K tg v σ H Q := by
  cases tg with
  | n i =>
    have e' : r.set i (.val t) = r' := Option.some.inj e
    subst e'
    exact k _ (E.put (.inr ⟨t, v, rfl, rfl, rv⟩)) (fun vs hv => wipe_set (hv i (List.mem_singleton.mpr rfl))) fun H0 O => O.put ⟨fun _ z => (nomatch z), fun _ _ z => (nomatch z)⟩
  | t is =>
    cases t <;> simp only [bindT] at e <;> try contradiction
    rename_i xs
    obtain ⟨a, us, rfl, q, z, ra⟩ := rv
    obtain ⟨h1, h2⟩ := names_rep (Q := Q) E ra e k
    exact ⟨a, us, rfl, hK ▸ R.sqT q, h1.symm, h2⟩
end
/-! ### a thing of one's own, poked -/
theorem Step.offI {G G' : Gh} {H H' : Hp} (s : Step G G' H H') {a : Addr} {o : HO} (h : H a = some o) (k : G.I a = Option.none) : G'.I a = Option.none := by
  cases q : G'.I a with
  | none => rfl
  | some u =>
    have := s.new a k (by rw [q]; simp)
    rw [h] at this; cases this
theorem Step.offM {G G' : Gh} {H H' : Hp} (s : Step G G' H H') {a : Addr} {o : HO} (h : H a = some o) (k : a ∉ G.mu) : a ∉ G'.mu := fun q => by
  have := s.mu a q k
  rw [h] at this; cases this
theorem RepS.poke {d : D} {G : Gh} {S : Store} {H : Hp} (R : RepS d G S H) {a : Addr} {o : HO} (hI : G.I a = none) (hm : a ∉ G.mu) : RepS d G S (upd H a o) := by
  refine ⟨fun b u e => ?_, R.len, fun n xs e => ?_, R.inj, R.off⟩
  · rw [upd_ne (fun z => by rw [z, hI] at e; cases e)]; exact R.imm b u e
  · obtain ⟨b, vs, h1, h2, z, h3⟩ := R.cell n xs e
    exact ⟨b, vs, h1, by rw [upd_ne (fun q => hm (by rw [← q]; exact List.mem_of_getElem? h1))]; exact h2, z, h3⟩
theorem Step.poke {G G' : Gh} {H H' : Hp} (s : Step G G' H H') {a : Addr} {o : HO} (h : H a = Option.none) : Step G G' H (upd H' a o) := by
  refine ⟨s.le, s.new, s.mu, fun b u e hb => ?_, fun b hb => ?_⟩
  · rw [upd_ne (fun z => by rw [z, h] at e; cases e)]; exact s.keep b u e hb
  · by_cases q : b = a
    · rw [q, upd_same]; simp
    · rw [upd_ne q]; exact s.there b hb
/-! ### comprehensions -/
abbrev W0 : WX := fun _ _ _ _ => False
def compF (tg : Tg) (mt : Env → Store → Res Bool) (me : Env → Store → Res T) (r : Env) : T → Store → Res (Option T) := fun x S => match bindT tg x (wipeE r tg.slots) with
  | some r' => (mt r' S).bind fun b S => if b = true then (me r' S).bind fun y S => .ok (some y) S else .ok none S
  | none => .bad
def compM (tg : Tg) (mi : Env → Store → Res (T × List T)) (mt : Env → Store → Res Bool) (me : Env → Store → Res T) : Env → Store → Res T := fun r S => (mi r S).bind fun p S =>
  (compLoop (still p.1 p.2) (compF tg mt me r) p.2 S).bind fun ys S => .ok (.lst ys) S
theorem still_itM {x : Res T} {p : T × List T} {S : Store} (h : itM x = .ok p S) : Still p.1 p.2 S := by
  unfold itM at h
  cases x with
  | ok c S' =>
    simp only [Res.bind] at h
    cases e : (look S' c).items with
    | none => rw [e] at h; cases h
    | some xs =>
      rw [e] at h
      cases h
      rintro n rfl
      unfold look at e
      simp only at e
      cases q : S[n]? with
      | none => rw [q] at e; simp [T.items] at e
      | some u =>
        cases u with
        | lst ys =>
          rw [q] at e
          simp only [T.items, Option.some.injEq] at e
          rw [e]
  | _ => simp only [Res.bind] at h; cases h
section
variable {X : Cx} {d : D} {W : WX} {tgE itE elt : Expr} {ifs : List Expr} {scope : Scope} {pos : Pos} {tg : Tg} {mi : Env → Store → Res (T × List T)} {mt : Env → Store → Res Bool} {me : Env → Store → Res T}
/-- one turn of a comprehension -/
theorem comp_turn {σ : L2.St} {H : Hp} {Q : VK} {G G1 : Gh} {r : Env} {p : T × List T} {J : It} {H1 : Hp} {Dd : Addr} (hK : d.K = X.K) (RE : RepE d G r σ H) (s1 : Step G G1 H H1) (wk : Walked d (fun G' H' => Step G1 G' H1 H') p J) (hD : H1 Dd = none)
    (Pv : Nat → Hp → Prop) (hPv : Pv = fun i H' => ∃ G' S' acc ys0, Step G1 G' H1 H' ∧ RepS d G' S' H' ∧ Still p.1 p.2 S' ∧ H' Dd = some (.lst acc) ∧ acc.length ≤ i ∧ RepAll d G' ys0 acc ∧ G'.I Dd = none ∧ Dd ∉ G'.mu ∧
      Post d W σ (RN d r σ H) G H Q ((compLoop (still p.1 p.2) (compF tg mt me r) (p.2.drop i) S').bind fun ys S => .ok (.lst (ys0 ++ ys)) S)) {i : Nat} {H' : Hp} (hp : Pv i H') (hi : i < p.2.length) :
    J.go i H' ∧ ∀ x H'', J.yld i H' x H'' → tBind X.K tg x (L2.wipe σ tg.slots) H'' fun σ2 H2 => L2.wipe σ2 tg.slots = L2.wipe σ tg.slots ∧ tG d W0 RB mt σ2 H2 fun b H3 =>
      if b = true then tE d W0 me σ2 H3 fun y H4 => ∃ acc, H4 Dd = some (.lst acc) ∧ acc.length < sizeLine ∧ Pv (i + 1) (upd H4 Dd (.lst (acc ++ [y]))) else Pv (i + 1) H3 := by
  rw [hPv] at hp ⊢
  obtain ⟨G', S', acc, ys0, s', R', st, hA, hz, ra, hI, hm, q⟩ := hp
  refine ⟨wk.go G' S' H' s' R' st i hi, fun x H'' y => ?_⟩
  obtain ⟨t, G2, ht, s2, R2, rv⟩ := wk.yld G' S' H' s' R' st i x H'' hi y
  have E2 : RepE d G2 (wipeE r tg.slots) (L2.wipe σ tg.slots) H'' := RepE.wipe (((RE.step s1).step s').step s2) _
  have ed : p.2.drop i = t :: p.2.drop (i + 1) := by
    rw [List.drop_eq_getElem_cons hi]
    rw [List.getElem?_eq_getElem hi] at ht
    rw [Option.some.inj ht]
  rw [ed] at q
  unfold compLoop at q
  cases eb : bindT tg t (wipeE r tg.slots) with
  | none =>
    have ef : compF tg mt me r t S' = .bad := by unfold compF; rw [eb]
    rw [ef] at q; exact q.elim
  | some r' =>
    have ef : compF tg mt me r t S' = (mt r' S').bind fun b S => if b = true then (me r' S).bind fun y S => .ok (some y) S else .ok none S := by unfold compF; rw [eb]
    rw [ef] at q
    refine bind_rep hK R2 E2 rv eb fun σ2 E3 hw _ => ⟨by rw [hw tg.slots fun _ h => h, wipe_wipe], G2, r', S', R2, E3, ?_⟩
    cases e1 : mt r' S' with
    | bad => rw [e1] at q; exact q.elim
    | exn c S3 => rw [e1] at q; exact q.elim
    | ok b S3 =>
      rw [e1] at q
      intro G3 b' H3 s3 R3 rb
      have rb' : b' = b := rb
      subst rb'
      cases b' with
      | false =>
        have q : Post d W σ (RN d r σ H) G H Q ((if still p.1 p.2 S3 = true then (compLoop (still p.1 p.2) (compF tg mt me r) (p.2.drop (i + 1)) S3).bind fun ys S'' => .ok ys S'' else .bad).bind fun ys S => .ok (.lst (ys0 ++ ys)) S) := q
        rw [if_neg Bool.false_ne_true]
        split at q <;> try exact q.elim
        rename_i hst
        have st3 := s2.trans s3
        refine ⟨G3, S3, acc, ys0, s'.trans st3, R3, still_of hst, st3.keep _ _ hA hm, by omega, RepAll.le st3.le _ ra, st3.offI hA hI, st3.offM hA hm, ?_⟩
        revert q
        cases compLoop (still p.1 p.2) (compF tg mt me r) (p.2.drop (i + 1)) S3 <;> exact fun q => q
      | true =>
        rw [if_pos rfl]
        have q : Post d W σ (RN d r σ H) G H Q ((match (me r' S3).bind fun y S => .ok (some y) S with
          | .ok o S'' => if still p.1 p.2 S'' = true then (compLoop (still p.1 p.2) (compF tg mt me r) (p.2.drop (i + 1)) S'').bind fun ys S'' => .ok (match o with
            | some y => y :: ys
            | none => ys) S'' else .bad
          | _ => .bad).bind fun ys S => .ok (.lst (ys0 ++ ys)) S) := q
        refine ⟨G3, r', S3, R3, E3.step s3, ?_⟩
        cases e2 : me r' S3 with
        | bad => rw [e2] at q; exact q.elim
        | exn c S4 => rw [e2] at q; exact q.elim
        | ok y S4 =>
          rw [e2] at q
          have q : Post d W σ (RN d r σ H) G H Q ((if still p.1 p.2 S4 = true then (compLoop (still p.1 p.2) (compF tg mt me r) (p.2.drop (i + 1)) S4).bind fun ys S'' => .ok (y :: ys) S'' else .bad).bind fun ys S => .ok (.lst (ys0 ++ ys)) S) := q
          intro G4 yv H4 s4 R4 ry
          split at q <;> try exact q.elim
          rename_i hst
          have st4 := (s2.trans s3).trans s4
          have sm := wk.small
          have hI4 := st4.offI hA hI
          have hm4 := st4.offM hA hm
          refine ⟨acc, st4.keep _ _ hA hm, by omega, G4, S4, acc ++ [yv], ys0 ++ [y], (s'.trans st4).poke hD, R4.poke hI4 hm4, still_of hst, upd_same, by rw [List.length_append]; simp; omega, (RepAll.le st4.le _ ra).append ⟨ry, trivial⟩, hI4, hm4, ?_⟩
          revert q
          cases compLoop (still p.1 p.2) (compF tg mt me r) (p.2.drop (i + 1)) S4 <;> intro q
          · rename_i zs S5
            have e3 : (ys0 ++ [y]) ++ zs = ys0 ++ (y :: zs) := by simp
            show Post d W σ (RN d r σ H) G H Q (.ok (.lst ((ys0 ++ [y]) ++ zs)) S5)
            rw [e3]; exact q
          · exact q
          · exact q
theorem comp_imp (hK : d.K = X.K) (hmi : ∀ r S p S', mi r S = .ok p S' → Still p.1 p.2 S') {σ : L2.St} {H : Hp} {Q : VK} (hw : tN d W (compM tg mi mt me) σ H Q) :
    tLc (tIt d W mi) (tBind X.K tg) (tG d W0 RB mt) (tE d W0 me) tg.slots σ H Q := by
  obtain ⟨G, r, S, RS, RE, q⟩ := hw
  refine ⟨G, r, S, RS, RE, Post.bind0 q fun p S1 e1 q1 G1 J H1 s1 R1 wk => fun Dd hD => ?_⟩
  obtain ⟨Pv, hPv⟩ : ∃ Pv : Nat → Hp → Prop, Pv = fun i H' => ∃ G' S' acc ys0, Step G1 G' H1 H' ∧ RepS d G' S' H' ∧ Still p.1 p.2 S' ∧ H' Dd = some (.lst acc) ∧ acc.length ≤ i ∧ RepAll d G' ys0 acc ∧ G'.I Dd = none ∧ Dd ∉ G'.mu ∧
      Post d W σ (RN d r σ H) G H Q ((compLoop (still p.1 p.2) (compF tg mt me r) (p.2.drop i) S').bind fun ys S => .ok (.lst (ys0 ++ ys)) S) := ⟨_, rfl⟩
  have hI1 : G1.I Dd = none := by
    cases k : G1.I Dd with
    | none => rfl
    | some o =>
      have := R1.imm _ _ k
      rw [hD] at this; cases this
  have hm1 : Dd ∉ G1.mu := fun k => by
    obtain ⟨vs, e⟩ := R1.le_cell k
    rw [hD] at e; cases e
  refine ⟨fun i m H' => m = p.2.length - i ∧ i ≤ p.2.length ∧ Pv i H', ⟨p.2.length, by simp, Nat.zero_le _, ?_⟩, ?_⟩
  · rw [hPv]
    exact ⟨G1, S1, [], [], Step.lay hD, R1.lay hD, hmi _ _ _ _ e1, upd_same, Nat.le_refl _, trivial, hI1, hm1, q1⟩
  · rintro i m H' ⟨rfl, hi', hp⟩
    by_cases hlt : i < p.2.length
    · obtain ⟨h1, h2⟩ := comp_turn (mt := mt) (me := me) hK RE s1 wk hD Pv hPv hp hlt
      exact .inr ⟨h1, Pv (i + 1), fun H'' h => ⟨p.2.length - (i + 1), by omega, rfl, hlt, h⟩, h2⟩
    · have ei : i = p.2.length := by omega
      subst ei
      rw [hPv] at hp
      obtain ⟨G', S', acc, ys0, s', R', st, hA, hz, ra, hI, hm, q2⟩ := hp
      refine .inl ⟨wk.stop G' S' H' s' R' st, ?_⟩
      rw [List.drop_length] at q2
      have sm := wk.small
      exact q2 G' (.ref Dd) H' (s1.trans s') R' ⟨_, rfl, Dd, acc, rfl, hA, by omega, by rw [List.append_nil]; exact ra, hI, hm, s1.none hD⟩
theorem s_compM (hK : d.K = X.K) (hc : X.calm = true) (hN : X.N.Nodup) {own : List (PySem.Str × Nat)} (ho : own.map (·.2) = tg.slots) (hmi : ∀ r S p S', mi r S = .ok p S' → Still p.1 p.2 S')
    (hi : PI X tgE itE (tIt d W mi)) (ok : BlkOk X.N X.env.scope scope own)
    (hg : ∀ (s : Shared) (H : Hp) (C : Addr) (cl : List (PySem.Str × Addr)) (fp : List Addr), PG (X.blk s H scope (compEnvC scope cl C X.env) fp) tgE (tBind X.K tg))
    (ht : ∀ (s : Shared) (H : Hp) (C : Addr) (cl : List (PySem.Str × Addr)) (fp : List Addr), PTs (X.blk s H scope (compEnvC scope cl C X.env) fp) ifs (tG d W0 RB mt))
    (he : ∀ (s : Shared) (H : Hp) (C : Addr) (cl : List (PySem.Str × Addr)) (fp : List Addr), PE (X.blk s H scope (compEnvC scope cl C X.env) fp) elt (tE d W0 me)) (hs : ∀ x, foldedSetIterable itE X.env x = pure x) :
    PE X (.ListComp elt [⟨tgE, itE, ifs, 0⟩] scope pos) (tN d W (compM tg mi mt me)) := by
  refine PE_imp (pe_lc hc hN hi ok hg ht he hs) fun σ H Q hw => ?_
  rw [ho]
  exact comp_imp hK hmi hw
end
end Hf
end

section
set_option Elab.async false
set_option linter.all false
set_option maxRecDepth 100000
/-! HfS11: statements by trees. -/
namespace Hf
open PySem PySem.Spec PyProof.Rows L2
/-- from the frame's start (G0, H0) on, knowing Gb -/
structure Stp (Gb G0 G : Gh) (H0 H : Hp) : Prop where
  le : Le Gb G
  s : Step G0 G H0 H
theorem Stp.trans {Gb G0 G G' : Gh} {H0 H H' : Hp} (a : Stp Gb G0 G H0 H) (b : Step G G' H H') : Stp Gb G0 G' H0 H' := ⟨a.le.trans b.le, a.s.trans b⟩
theorem Stp.poke {Gb G0 G : Gh} {H0 H : Hp} (a : Stp Gb G0 G H0 H) {b : Addr} {o : HO} (h : H0 b = none) : Stp Gb G0 G H0 (upd H b o) := ⟨a.le, a.s.poke h⟩
theorem Stp.none {Gb G0 G : Gh} {H0 H : Hp} (a : Stp Gb G0 G H0 H) {p : Addr} (h : H p = Option.none) : H0 p = Option.none := a.s.none h
section
variable (d : D) (W : WX) (Gb G0 : Gh) (H0 : Hp)
/-- what is wanted behind a statement -/
def PostS (D : Ends) : SRes → Prop
  | .nx r' S' => ∀ G' σ' H', Stp Gb G0 G' H0 H' → RepS d G' S' H' → RepE d G' r' σ' H' → RepO H0 r' σ' → D.nx σ' H'
  | .ret t S' => ∀ G' v H', Stp Gb G0 G' H0 H' → RepS d G' S' H' → RepV d G' t v → D.rt v H'
  | .brk r' S' => ∀ G' σ' H', Stp Gb G0 G' H0 H' → RepS d G' S' H' → RepE d G' r' σ' H' → RepO H0 r' σ' → D.bk σ' H'
  | .cnt r' S' => ∀ G' σ' H', Stp Gb G0 G' H0 H' → RepS d G' S' H' → RepE d G' r' σ' H' → RepO H0 r' σ' → D.ct σ' H'
  | .exn c r' S' => ∀ x G' σ' H', d.xa c = some x → Stp Gb G0 G' H0 H' → RepS d G' S' H' → RepE d G' r' σ' H' → RepO H0 r' σ' → W (.ref x) none σ' H'
  | .bad => False
def tS (m : Env → Store → SRes) : TS := fun D σ H => ∃ Gb G0 H0 G r S, Stp Gb G0 G H0 H ∧ RepS d G S H ∧ RepE d G r σ H ∧ RepO H0 r σ ∧ PostS d W Gb G0 H0 D (m r S)
end
section
variable {d : D} {W : WX} {Gb G0 : Gh} {H0 : Hp} {D : Ends} {G : Gh} {r : Env} {S : Store} {σ : L2.St} {H : Hp}
theorem toS_post {α β : Type} {R : Gh → Hp → α → β → Prop} {Q : β → Hp → Prop} {x : Res α} {k : α → Store → SRes} (h : PostS d W Gb G0 H0 D (x.toS r k)) (s0 : Stp Gb G0 G H0 H) (E : RepE d G r σ H) (O : RepO H0 r σ)
    (hk : ∀ a S1 G1 b H1, Step G G1 H H1 → RepS d G1 S1 H1 → R G1 H1 a b → PostS d W Gb G0 H0 D (k a S1) → Q b H1) : Post d W σ R G H Q x := by
  cases x with
  | ok a S1 => exact fun G1 b H1 s1 R1 rv => hk a S1 G1 b H1 s1 R1 rv h
  | exn c S1 => exact fun x G1 H1 e s1 R1 => h x G1 σ H1 e (s0.trans s1) R1 (E.step s1) O
  | bad => exact h
end
section
variable {X : Cx} {d : D} {W : WX} {tgE e c : Expr} {pos : Pos} {tg : Tg} {m me : Env → Store → Res T} {m1 m2 : Env → Store → SRes}
/-! ### suites -/
def seqM (m1 m2 : Env → Store → SRes) : Env → Store → SRes := fun r S => match m1 r S with
  | .nx r' S' => m2 r' S'
  | x => x
theorem s_snil : PSs X [] (tS d W fun r S => .nx r S) := PSs_imp pss_nil fun D σ H ⟨Gb, G0, H0, G, r, S, s0, R, E, O, q⟩ => q G σ H s0 R E O
theorem s_scons {st : Stmt} {rest : List Stmt} (h1 : PS X st (tS d W m1)) (h2 : PSs X rest (tS d W m2)) : PSs X (st :: rest) (tS d W (seqM m1 m2)) := by
  refine PSs_imp (pss_cons h1 h2) fun D σ H ⟨Gb, G0, H0, G, r, S, s0, R, E, O, q⟩ => ⟨Gb, G0, H0, G, r, S, s0, R, E, O, ?_⟩
  unfold seqM at q
  cases e1 : m1 r S with
  | nx r' S' =>
    rw [e1] at q
    exact fun G' σ' H' s1 R1 E1 O1 => ⟨Gb, G0, H0, G', r', S', s1, R1, E1, O1, q⟩
  | ret t S' => rw [e1] at q; exact q
  | brk r' S' => rw [e1] at q; exact q
  | cnt r' S' => rw [e1] at q; exact q
  | exn c r' S' => rw [e1] at q; exact q
  | bad => rw [e1] at q; exact q
theorem s_pass : PS X (.Pass pos) (tS d W fun r S => .nx r S) := PS_imp ps_pass fun D σ H ⟨Gb, G0, H0, G, r, S, s0, R, E, O, q⟩ => q G σ H s0 R E O
theorem s_brk : PS X (.Break pos) (tS d W fun r S => .brk r S) := PS_imp ps_break fun D σ H ⟨Gb, G0, H0, G, r, S, s0, R, E, O, q⟩ => q G σ H s0 R E O
theorem s_cnt : PS X (.Continue pos) (tS d W fun r S => .cnt r S) := PS_imp ps_continue fun D σ H ⟨Gb, G0, H0, G, r, S, s0, R, E, O, q⟩ => q G σ H s0 R E O
/-! ### name = value -/
def asgM (tg : Tg) (m : Env → Store → Res T) : Env → Store → SRes := fun r S => (m r S).toS r fun t S => match bindT tg t r with
  | some r' => .nx r' S
  | none => .bad
def ownM (i : Nat) (m : Env → Store → Res T) : Env → Store → SRes := fun r S => (m r S).toS r fun t S => match t with
  | .lst xs => .nx (r.set i (.own xs)) S
  | _ => .bad
theorem asg_imp (hK : d.K = X.K) {D : Ends} {σ : L2.St} {H : Hp} (h : tS d W (asgM tg m) D σ H) : tAsg (tE d W m) (tBind X.K tg) D σ H := by
  obtain ⟨Gb, G0, H0, G, r, S, s0, R, E, O, q⟩ := h
  refine ⟨G, r, S, R, E, toS_post q s0 E O fun t S1 G1 v H1 s1 R1 rv q1 => ?_⟩
  cases eb : bindT tg t r with
  | none => rw [eb] at q1; exact q1.elim
  | some r' =>
    rw [eb] at q1
    exact bind_rep hK R1 (E.step s1) rv eb fun σ' E' _ ho => q1 G1 σ' H1 (s0.trans s1) R1 E' (ho H0 O)
theorem RepE.putOwn {G : Gh} {r : Env} {σ : L2.St} {H : Hp} (E : RepE d G r σ H) {i : Nat} {a : Addr} {xs : List T} {vs : List V} (h1 : H a = some (.lst vs)) (z : vs.length ≤ sizeLine) (ra : RepAll d G xs vs) (h2 : G.I a = none) (h3 : a ∉ G.mu)
    (hne : ∀ (j : Nat) ys, r[j]? = some (Slot.own ys) → σ[j]? ≠ some (some (V.ref a))) : RepE d G (r.set i (.own xs)) (σ.set i (some (.ref a))) H := by
  have nov : ∀ {j : Nat} {sl : Slot}, (∀ ys, sl ≠ .own ys) → (r.set i (.own xs))[j]? = some sl → j ≠ i ∧ r[j]? = some sl := fun {j sl} hn e => by
    rcases get_set e with ⟨_, e1, _⟩ | q
    · exact absurd e1.symm (hn xs)
    · exact q
  refine ⟨by rw [List.length_set, List.length_set]; exact E.len, fun j t e => ?_, fun j ys e => ?_, fun j k ys zs b e1 e2 e3 e4 => ?_, fun j c fs e => ?_, fun j c e => ?_⟩
  · obtain ⟨hne, e⟩ := nov (by intro _ z; cases z) e
    rw [List.getElem?_set_ne (Ne.symm hne)]; exact E.slot j t e
  · rcases get_set e with ⟨rfl, e1, hl⟩ | ⟨hn, e⟩
    · cases e1
      rw [E.len] at hl
      exact ⟨a, vs, List.getElem?_set_self hl, h1, z, ra, h2, h3⟩
    · rw [List.getElem?_set_ne (Ne.symm hn)]; exact E.own j ys e
  · rcases get_set e1 with ⟨rfl, q1, hl1⟩ | ⟨hn1, q1⟩
    · rcases get_set e2 with ⟨rfl, q2, hl2⟩ | ⟨hn2, q2⟩
      · rfl
      · rw [List.getElem?_set_self (by rw [← E.len]; exact hl1)] at e3
        cases e3
        rw [List.getElem?_set_ne (Ne.symm hn2)] at e4
        exact absurd e4 (hne k zs q2)
    · rw [List.getElem?_set_ne (Ne.symm hn1)] at e3
      rcases get_set e2 with ⟨rfl, q2, hl2⟩ | ⟨hn2, q2⟩
      · rw [List.getElem?_set_self (by rw [← E.len]; exact hl2)] at e4
        cases e4
        exact absurd e3 (hne j ys q1)
      · rw [List.getElem?_set_ne (Ne.symm hn2)] at e4
        exact E.apart j k ys zs b q1 q2 e3 e4
  · obtain ⟨hne, e⟩ := nov (by intro _ z; cases z) e
    rw [List.getElem?_set_ne (Ne.symm hne)]; exact E.inst j c fs e
  · obtain ⟨hne, e⟩ := nov (by intro _ z; cases z) e
    rw [List.getElem?_set_ne (Ne.symm hne)]; exact E.exc j c e
theorem RepO.putOwn {H0 : Hp} {r : Env} {σ : L2.St} (O : RepO H0 r σ) (hl : r.length = σ.length) {i : Nat} {a : Addr} {xs : List T} (h : H0 a = none) : RepO H0 (r.set i (.own xs)) (σ.set i (some (.ref a))) := by
  intro j b e q
  by_cases hj : i = j
  · subst hj
    by_cases hi : i < σ.length
    · rw [List.getElem?_set_self hi] at e; cases e; exact h
    · rw [List.getElem?_eq_none (by simpa using hi)] at e; cases e
  · rw [List.getElem?_set_ne hj] at e q
    rcases q with ⟨ys, q⟩ | ⟨c, fs, q⟩
    · exact O j b e (.inl ⟨ys, q⟩)
    · exact O j b e (.inr ⟨c, fs, q⟩)
theorem own_imp {i : Nat} {D : Ends} {σ : L2.St} {H : Hp} (h : tS d W (ownM i m) D σ H) : tAsg (tN d W m) (gName i) D σ H := by
  obtain ⟨Gb, G0, H0, G, r, S, s0, R, E, O, q⟩ := h
  refine ⟨G, r, S, R, E, toS_post q s0 E O fun t S1 G1 v H1 s1 R1 rv q1 => ?_⟩
  obtain ⟨xs, rfl, a, vs, rfl, h1, z, ra, h2, h3, h4⟩ := rv
  have E1 := E.step s1
  refine q1 G1 (σ.set i (some (.ref a))) H1 (s0.trans s1) R1 (E1.putOwn h1 z ra h2 h3 fun j ys e1 e2 => ?_) (O.putOwn E.len (s0.none h4))
  obtain ⟨b, ws, k1, k2, _⟩ := E.own j ys e1
  rw [e2] at k1; cases k1
  rw [h4] at k2; cases k2
theorem s_asg (hK : d.K = X.K) (he : PE X e (tE d W m)) (hg : PG X tgE (tBind X.K tg)) (hs : swapsWithSole [tgE] e pos.line X.env = pure false) (hw : swappedStores [tgE] e X.env = pure none)
    (h1 : (assignEach [tgE] X.env).map (·.2) = [assign tgE X.env]) : PS X (.Assign [tgE] e pos) (tS d W (asgM tg m)) := PS_imp (ps_asg he hg hs hw h1) fun D σ H h => asg_imp hK h
theorem s_own {i : Nat} {x : PySem.Str} {pos' : Pos} (hN : X.N.Nodup) (hi : X.N[i]? = some x) (hx : Loc X.env.scope x) (he : PE X e (tN d W m)) (hs : swapsWith e (some (.Name x pos')) pos.line X.env = pure false) (hf : X.fn x = true ∨ X.env.scope.names.lookup x = some .local) :
    PS X (.Assign [.Name x pos'] e pos) (tS d W (ownM i m)) := PS_imp (ps_set hN hi hx he hs hf) fun D σ H h => own_imp h
/-! ### a value dropped, return, if -/
def exM (m : Env → Store → Res T) : Env → Store → SRes := fun r S => (m r S).toS r fun _ S => .nx r S
def retM (m : Env → Store → Res T) : Env → Store → SRes := fun r S => (m r S).toS r fun t S => .ret t S
def ifM (mc : Env → Store → Res Bool) (m1 m2 : Env → Store → SRes) : Env → Store → SRes := fun r S => (mc r S).toS r fun b S => if b = true then m1 r S else m2 r S
theorem s_ex (he : PE X e (tE d W m)) (hs : swapsWith e none pos.line X.env = pure false) : PS X (.Expr e pos) (tS d W (exM m)) :=
  PS_imp (ps_expr he hs) fun D σ H ⟨Gb, G0, H0, G, r, S, s0, R, E, O, q⟩ => ⟨G, r, S, R, E, toS_post q s0 E O fun t S1 G1 v H1 s1 R1 rv q1 => q1 G1 σ H1 (s0.trans s1) R1 (E.step s1) O⟩
theorem s_ret (he : PE X e (tE d W m)) : PS X (.Return (some e) pos) (tS d W (retM m)) :=
  PS_imp (ps_ret he) fun D σ H ⟨Gb, G0, H0, G, r, S, s0, R, E, O, q⟩ => ⟨G, r, S, R, E, toS_post q s0 E O fun t S1 G1 v H1 s1 R1 rv q1 => q1 G1 v H1 (s0.trans s1) R1 rv⟩
theorem s_retN : PS X (.Return none pos) (tS d W fun r S => .ret .non S) :=
  PS_imp ps_retN fun D σ H ⟨Gb, G0, H0, G, r, S, s0, R, E, O, q⟩ => q G .non H s0 R rfl
theorem s_if {mc : Env → Store → Res Bool} {a b : List Stmt} (hc : PT X c (tG d W RB mc)) (ha : PSs X a (tS d W m1)) (hb : PSs X b (tS d W m2)) : PS X (.If c a b pos) (tS d W (ifM mc m1 m2)) := by
  refine PS_imp (ps_if hc ha hb) fun D σ H ⟨Gb, G0, H0, G, r, S, s0, R, E, O, q⟩ => ⟨G, r, S, R, E, toS_post q s0 E O fun b S1 G1 b' H1 s1 R1 rv q1 => ?_⟩
  have rv : b' = b := rv
  subst rv
  cases b' with
  | true => exact ⟨Gb, G0, H0, G1, r, S1, s0.trans s1, R1, E.step s1, O, q1⟩
  | false => exact ⟨Gb, G0, H0, G1, r, S1, s0.trans s1, R1, E.step s1, O, q1⟩
end
/-! ### own lists and cells written -/
section
variable {d : D} {Gb G0 : Gh} {H0 : Hp} {G : Gh} {r : Env} {S : Store} {σ : L2.St} {H : Hp}
theorem RepE.pokeL (E : RepE d G r σ H) {i : Nat} {a : Addr} {xs ys : List T} {ws : List V} (hr : r[i]? = some (.own xs)) (hs : σ[i]? = some (some (V.ref a))) (z : ws.length ≤ sizeLine) (ra : RepAll d G ys ws) : RepE d G (r.set i (.own ys)) σ (upd H a (.lst ws)) := by
  obtain ⟨a', vs, k1, k2, k3, k4, k5, k6⟩ := E.own i xs hr
  rw [hs] at k1; cases k1
  have nov : ∀ {j : Nat} {sl : Slot}, (∀ ys, sl ≠ .own ys) → (r.set i (.own ys))[j]? = some sl → r[j]? = some sl := fun {j sl} hn e => by
    rcases get_set e with ⟨_, e1, _⟩ | q
    · exact absurd e1.symm (hn ys)
    · exact q.2
  have ov : ∀ {j : Nat} {zs : List T}, (r.set i (.own ys))[j]? = some (.own zs) → ∃ us, r[j]? = some (.own us) := fun {j zs} e => by
    rcases get_set e with ⟨rfl, e1, _⟩ | q
    · exact ⟨xs, hr⟩
    · exact ⟨zs, q.2⟩
  refine ⟨by rw [List.length_set]; exact E.len, fun j t e => E.slot j t (nov (by intro _ z; cases z) e), fun j zs e => ?_, fun j k us zs b e1 e2 e3 e4 => ?_, fun j c fs e => ?_, fun j c e => E.exc j c (nov (by intro _ z; cases z) e)⟩
  · rcases get_set e with ⟨rfl, e1, hl⟩ | ⟨hn, e⟩
    · cases e1
      exact ⟨a, ws, hs, upd_same, z, ra, k5, k6⟩
    · obtain ⟨b, us, h1, h2, h3⟩ := E.own j zs e
      refine ⟨b, us, h1, ?_, h3⟩
      rw [upd_ne (fun q => hn (E.apart j i zs xs a e hr (by rw [← q]; exact h1) hs))]; exact h2
  · obtain ⟨us', q1⟩ := ov e1
    obtain ⟨zs', q2⟩ := ov e2
    exact E.apart j k us' zs' b q1 q2 e3 e4
  · obtain ⟨b, C, dx, fw, h1, h2, h3, h4, h5⟩ := E.inst j c fs (nov (by intro _ z; cases z) e)
    refine ⟨b, C, dx, fw, h1, h2, ?_, ?_, h5⟩
    · rw [upd_ne (fun q => by rw [q, k2] at h3; cases h3)]; exact h3
    · rw [upd_ne (fun q => by rw [q, k2] at h4; cases h4)]; exact h4
theorem RepO.poke (O : RepO H0 r σ) {i : Nat} {xs ys : List T} (hr : r[i]? = some (.own xs)) : RepO H0 (r.set i (.own ys)) σ := by
  intro j b e q
  rcases q with ⟨zs, q⟩ | ⟨c, fs, q⟩
  · rcases get_set q with ⟨rfl, e1, _⟩ | q
    · exact O j b e (.inl ⟨xs, hr⟩)
    · exact O j b e (.inl ⟨zs, q.2⟩)
  · rcases get_set q with ⟨rfl, e1, _⟩ | q
    · cases e1
    · exact O j b e (.inr ⟨c, fs, q.2⟩)
theorem RepE.pokeC (E : RepE d G r σ H) {a : Addr} {o : HO} (h : a ∈ G.mu) : RepE d G r σ (upd H a o) := by
  refine ⟨E.len, E.slot, fun j zs e => ?_, E.apart, fun j c fs e => ?_, E.exc⟩
  · obtain ⟨b, us, h1, h2, z, h3, h4, h5⟩ := E.own j zs e
    exact ⟨b, us, h1, by rw [upd_ne (fun q => h5 (by rw [q]; exact h))]; exact h2, z, h3, h4, h5⟩
  · obtain ⟨b, C, dx, fw, h1, h2, h3, h4, h5, h6, h7, h8, h9⟩ := E.inst j c fs e
    exact ⟨b, C, dx, fw, h1, h2, by rw [upd_ne (fun q => h8 (by rw [q]; exact h))]; exact h3, by rw [upd_ne (fun q => h9 (by rw [q]; exact h))]; exact h4, h5, h6, h7, h8, h9⟩
theorem RepS.setCell (R : RepS d G S H) {n : Nat} {a : Addr} {ys : List T} {ws : List V} (hm : G.mu[n]? = some a) (z : ws.length ≤ sizeLine) (ra : RepAll d G ys ws) : RepS d G (S.set n (.lst ys)) (upd H a (.lst ws)) := by
  have ha : a ∈ G.mu := List.mem_of_getElem? hm
  refine ⟨fun b u e => ?_, by rw [List.length_set]; exact R.len, fun j xs e => ?_, R.inj, R.off⟩
  · rw [upd_ne (fun q => by rw [q, R.off a ha] at e; cases e)]; exact R.imm b u e
  · rcases get_set e with ⟨rfl, e1, hl⟩ | ⟨hn, e⟩
    · cases e1
      exact ⟨a, ws, hm, upd_same, z, ra⟩
    · obtain ⟨b, vs, h1, h2, z2, h3⟩ := R.cell j xs e
      refine ⟨b, vs, h1, ?_, z2, h3⟩
      rw [upd_ne (fun q => hn ?_)]; exact h2
      subst q
      have l1 := (List.getElem?_eq_some_iff.mp h1).1
      have l2 := (List.getElem?_eq_some_iff.mp hm).1
      have e1 := (List.getElem?_eq_some_iff.mp h1).2
      have e2 := (List.getElem?_eq_some_iff.mp hm).2
      exact (List.getElem_inj R.inj).mp (e1.trans e2.symm)
theorem Step.pokeC (s : Step G0 G H0 H) {a : Addr} {o : HO} (h : a ∈ G.mu) : Step G0 G H0 (upd H a o) := by
  refine ⟨s.le, s.new, s.mu, fun b u e hb => ?_, fun b hb => ?_⟩
  · rw [upd_ne (fun q => by rw [q] at e hb; rw [s.mu a h hb] at e; cases e)]; exact s.keep b u e hb
  · by_cases q : b = a
    · rw [q, upd_same]; simp
    · rw [upd_ne q]; exact s.there b hb
theorem Stp.pokeC (s : Stp Gb G0 G H0 H) {a : Addr} {o : HO} (h : a ∈ G.mu) : Stp Gb G0 G H0 (upd H a o) := ⟨s.le, s.s.pokeC h⟩
end
end Hf
end

section
set_option Elab.async false
set_option linter.all false
set_option maxRecDepth 100000
/-! HfS12: append, extend, items set, for, by trees. -/
namespace Hf
open PySem PySem.Spec PyProof.Rows L2
theorem ixN_eq' (n : Nat) (i : Int) : Hf.ixN n i = L2.ixN n i := rfl
section
variable {X : Cx} {d : D} {W : WX} {tgE itE o e c : Expr} {pos apos cpos p : Pos} {tg : Tg} {m me mk ma : Env → Store → Res T} {m1 m2 : Env → Store → SRes} {x : PySem.Str}
/-! ### append -/
def pushM (i : Nat) (me : Env → Store → Res T) : Env → Store → SRes := fun r S => match ownAt r i with
  | some xs => (me r S).toS r fun t S => if xs.length < sizeLim then .nx (r.set i (.own (xs ++ [t]))) S else .bad
  | none => .bad
theorem ownAt_some {r : Env} {i : Nat} {xs : List T} (h : ownAt r i = some xs) : r[i]? = some (.own xs) := by
  unfold ownAt at h
  split at h
  · rename_i ys e
    cases h; exact e
  · cases h
theorem own_at {G : Gh} {r : Env} {σ : L2.St} {H : Hp} {i : Nat} {a : Addr} {xs : List T} (E : RepE d G r σ H) (hr : r[i]? = some (.own xs)) (hs : σ[i]? = some (some (V.ref a))) : ∃ vs, H a = some (.lst vs) ∧ vs.length ≤ sizeLine ∧ RepAll d G xs vs ∧ G.I a = none ∧ a ∉ G.mu := by
  obtain ⟨b, vs, k1, k2, k3⟩ := E.own i xs hr
  rw [hs] at k1; cases k1
  exact ⟨vs, k2, k3⟩
theorem pa1 {te : TE} (he : PE X e te) (hst : starEach [e] X.env = (false, eval e X.env) :: starEach [] X.env) : PA X [e] (fun σ H Q => te σ H fun v H1 => Q [v] H1) := PA_imp (pa_cons he pa_nil hst) fun σ H Q h => h
def Few (e : Expr) (env : PySem.Env) (cpos : Pos) : Prop := ((backTo cpos (starEach [e] env)).all (fun x => !x.1) && (backToKw cpos (keywordEach [] env)).all (fun x => x.1.isSome)
      && decide ([e].length + ([] : List Keyword).length + (if ([] : List Keyword).isEmpty then 0 else 1) < 30)) = true
theorem s_push {i : Nat} (hN : X.N[i]? = some x) (hv : Vis X.env.scope x) (hd : (x == ("__debug__" : PySem.Str)) = false) (hcd : (x == ("__classdict__" : PySem.Str)) = false) (he : PE X e (tE d W me))
    (hst : starEach [e] X.env = (false, eval e X.env) :: starEach [] X.env) (hfew : Few e X.env cpos) (hline : (apos.endLine == cpos.line) = true) (hsw : swapsWith (.Call (.Attribute (.Name x p) "append" apos) [e] [] cpos) none pos.line X.env = pure false) :
    PS X (.Expr (.Call (.Attribute (.Name x p) "append" apos) [e] [] cpos) pos) (tS d W (pushM i me)) := by
  refine PS_imp (ps_expr (pe_bm F.plainAttrs_list F.slot_list_append F.type_list_append mt_append (pe_var hN hv hd hcd) (pa1 he hst) rfl hfew hline hst rfl) hsw) fun D σ H ⟨Gb, G0, H0, G, r, S, s0, R, E, O, q⟩ => ?_
  unfold pushM at q
  cases eo : ownAt r i with
  | none => rw [eo] at q; exact q.elim
  | some xs =>
    rw [eo] at q
    have hr := ownAt_some eo
    obtain ⟨a, vs, hs, h1, hz, ra, h2, h3⟩ := E.own i xs hr
    refine ⟨.ref a, hs, .inl ⟨rfl, vs, .inl (.inl h1)⟩, G, r, S, R, E, toS_post q s0 E O fun t S1 G1 v H1 s1 R1 rv q1 => ?_⟩
    have E1 := E.step s1
    obtain ⟨us, k1, kz, ka, k2, k3⟩ := own_at E1 hr hs
    split at q1 <;> try exact q1.elim
    rename_i hl
    rw [lim_eq] at hl
    have hul := ka.length
    have hz2 : us.length < sizeLine := by omega
    have hz3 : (us ++ [v]).length ≤ sizeLine := by rw [List.length_append]; simp; omega
    exact ⟨a, us, v, rfl, rfl, k1, hz2, q1 G1 σ _ ((s0.trans s1).poke (O i a hs (.inl ⟨xs, hr⟩))) (R1.poke k2 k3) (E1.pokeL hr hs hz3 (ka.append ⟨rv, trivial⟩)) (O.poke hr)⟩
/-! ### extend -/
def extM (i : Nat) (me : Env → Store → Res T) : Env → Store → SRes := fun r S => match ownAt r i with
  | some xs => (me r S).toS r fun t S => (match t with
    | .lst ys => if xs.length + ys.length ≤ sizeLim then .nx (r.set i (.own (xs ++ ys))) S else .bad
    | _ => .bad)
  | none => .bad
theorem s_ext {i : Nat} (hN : X.N[i]? = some x) (hv : Vis X.env.scope x) (hd : (x == ("__debug__" : PySem.Str)) = false) (hcd : (x == ("__classdict__" : PySem.Str)) = false) (he : PE X e (tN d W me))
    (hst : starEach [e] X.env = (false, eval e X.env) :: starEach [] X.env) (hfew : Few e X.env cpos) (hline : (apos.endLine == cpos.line) = true) (hsw : swapsWith (.Call (.Attribute (.Name x p) "extend" apos) [e] [] cpos) none pos.line X.env = pure false) :
    PS X (.Expr (.Call (.Attribute (.Name x p) "extend" apos) [e] [] cpos) pos) (tS d W (extM i me)) := by
  refine PS_imp (ps_expr (pe_bm F.plainAttrs_list F.slot_list_extend F.type_list_extend mt_extend (pe_var hN hv hd hcd) (pa1 he hst) rfl hfew hline hst rfl) hsw) fun D σ H ⟨Gb, G0, H0, G, r, S, s0, R, E, O, q⟩ => ?_
  unfold extM at q
  cases eo : ownAt r i with
  | none => rw [eo] at q; exact q.elim
  | some xs =>
    rw [eo] at q
    have hr := ownAt_some eo
    obtain ⟨a, vs, hs, h1, hz, ra, h2, h3⟩ := E.own i xs hr
    refine ⟨.ref a, hs, .inl ⟨rfl, vs, .inl (.inl h1)⟩, G, r, S, R, E, toS_post q s0 E O fun t S1 G1 v H1 s1 R1 rv q1 => ?_⟩
    have E1 := E.step s1
    obtain ⟨us, k1, kz, ka, k2, k3⟩ := own_at E1 hr hs
    obtain ⟨ys, rfl, b, ws, rfl, j1, jz, ja, j2, j3, j4⟩ := rv
    have q1 : PostS d W Gb G0 H0 D (if xs.length + ys.length ≤ sizeLim then .nx (r.set i (.own (xs ++ ys))) S1 else .bad) := q1
    split at q1 <;> try exact q1.elim
    rename_i hl
    rw [lim_eq] at hl
    have hul := ka.length
    have hwl := ja.length
    have hz2 : us.length + ws.length ≤ sizeLine := by omega
    have hz3 : (us ++ ws).length ≤ sizeLine := by rw [List.length_append]; exact hz2
    exact ⟨a, b, us, ws, rfl, rfl, k1, j1, hz2, q1 G1 σ _ ((s0.trans s1).poke (O i a hs (.inl ⟨xs, hr⟩))) (R1.poke k2 k3) (E1.pokeL hr hs hz3 (ka.append ja)) (O.poke hr)⟩
/-! ### items set -/
def setiM (i : Nat) (mk me : Env → Store → Res T) : Env → Store → SRes := fun r S => (me r S).toS r fun t S => match ownAt r i with
  | some xs => (mk r S).toS r fun y S => (match y with
    | .int z => (match Hf.ixN xs.length z with
      | some j => .nx (r.set i (.own (xs.set j t))) S
      | none => .bad)
    | _ => .bad)
  | none => .bad
/-- a plain store by subscript -/
def PlainSet (o k : Expr) (p : Pos) : Prop := ∀ env v, assign (.Subscript o k p) env v = (do
      let ov ← holding [v] (eval o env)
      let iv ← holding [v, ov] (eval k env)
      standAt p
      holding [v, ov, iv] (setItem ov iv v)
      release [v, ov, iv] [])
theorem pg_subI {k : Expr} {to ti : TE} {t : TSet} (ho : PE X o to) (hi : PE X k ti) (hs : PSet X t) (ha : ∀ v, assign (.Subscript o k pos) X.env v = (do
      let ov ← holding [v] (eval o X.env)
      let iv ← holding [v, ov] (eval k X.env)
      standAt pos
      holding [v, ov, iv] (setItem ov iv v)
      release [v, ov, iv] [])) : PG X (.Subscript o k pos) (gSub to ti t) := pg_sub ho hi hs ha
theorem s_seti {i : Nat} {k : Expr} {tp : Pos} (hN : X.N[i]? = some x) (hv : Vis X.env.scope x) (hd : (x == ("__debug__" : PySem.Str)) = false) (hcd : (x == ("__classdict__" : PySem.Str)) = false) (he : PE X e (tE d W me)) (hk : PE X k (tE d W mk))
    (hps : PlainSet (.Name x p) k tp) (hs : swapsWithSole [.Subscript (.Name x p) k tp] e pos.line X.env = pure false) (hw : swappedStores [.Subscript (.Name x p) k tp] e X.env = pure none) :
    PS X (.Assign [.Subscript (.Name x p) k tp] e pos) (tS d W (setiM i mk me)) := by
  refine PS_imp (ps_asg he (pg_subI (pe_var hN hv hd hcd) hk set_list (hps X.env)) hs hw rfl) fun D σ H ⟨Gb, G0, H0, G, r, S, s0, R, E, O, q⟩ => ?_
  refine ⟨G, r, S, R, E, toS_post q s0 E O fun t S1 G1 v H1 s1 R1 rv q1 => ?_⟩
  cases eo : ownAt r i with
  | none => rw [eo] at q1; exact q1.elim
  | some xs =>
    rw [eo] at q1
    have hr := ownAt_some eo
    have E1 := E.step s1
    obtain ⟨a, vs, hsi, h1, hz, ra, h2, h3⟩ := E1.own i xs hr
    refine ⟨.ref a, hsi, G1, r, S1, R1, E1, toS_post q1 (s0.trans s1) E1 O fun y S2 G2 w H2 s2 R2 rw' q2 => ?_⟩
    have E2 := E1.step s2
    obtain ⟨us, k1, kz, ka, k2, k3⟩ := own_at E2 hr hsi
    cases y <;> try exact q2.elim
    cases rw'
    rename_i z
    have q2 : PostS d W Gb G0 H0 D (match Hf.ixN xs.length z with
      | some j => .nx (r.set i (.own (xs.set j t))) S2
      | none => .bad) := q2
    cases ej : Hf.ixN xs.length z with
    | none => rw [ej] at q2; exact q2.elim
    | some j =>
      rw [ej] at q2
      have hul := ka.length
      rw [ixN_eq', hul] at ej
      have hz3 : (us.set j v).length ≤ sizeLine := by rw [List.length_set]; exact kz
      exact ⟨a, us, z, j, rfl, rfl, k1, ej, q2 G2 σ _ (((s0.trans s1).trans s2).poke (O i a hsi (.inl ⟨xs, hr⟩))) (R2.poke k2 k3) (E2.pokeL hr hsi hz3 (RepAll.set (RepV.le s2.le t rv) j ka)) (O.poke hr)⟩
def setcM (ma mk me : Env → Store → Res T) : Env → Store → SRes := fun r S => (me r S).toS r fun t S => (ma r S).toS r fun x S => (mk r S).toS r fun y S => match x, y with
    | .ref n, .int z => (match S[n]? with
      | some (.lst xs) => (match Hf.ixN xs.length z with
        | some j => .nx r (S.set n (.lst (xs.set j t)))
        | none => .bad)
      | _ => .bad)
    | _, _ => .bad
theorem s_setc {k : Expr} {tp : Pos} (ho : PE X o (tE d W ma)) (he : PE X e (tE d W me)) (hk : PE X k (tE d W mk))
    (hps : PlainSet o k tp) (hs : swapsWithSole [.Subscript o k tp] e pos.line X.env = pure false) (hw : swappedStores [.Subscript o k tp] e X.env = pure none) :
    PS X (.Assign [.Subscript o k tp] e pos) (tS d W (setcM ma mk me)) := by
  refine PS_imp (ps_asg he (pg_subI ho hk set_list (hps X.env)) hs hw rfl) fun D σ H ⟨Gb, G0, H0, G, r, S, s0, R, E, O, q⟩ => ?_
  refine ⟨G, r, S, R, E, toS_post q s0 E O fun t S1 G1 v H1 s1 R1 rv q1 => ?_⟩
  have E1 := E.step s1
  refine ⟨G1, r, S1, R1, E1, toS_post q1 (s0.trans s1) E1 O fun x S2 G2 u H2 s2 R2 ru q2 => ?_⟩
  have E2 := E1.step s2
  refine ⟨G2, r, S2, R2, E2, toS_post q2 ((s0.trans s1).trans s2) E2 O fun y S3 G3 w H3 s3 R3 rw' q3 => ?_⟩
  have E3 := E2.step s3
  have s03 := ((s0.trans s1).trans s2).trans s3
  cases x <;> try exact q3.elim
  cases y <;> try exact q3.elim
  cases rw'
  rename_i n z
  have q3 : PostS d W Gb G0 H0 D (match S3[n]? with
      | some (.lst xs) => (match Hf.ixN xs.length z with
        | some j => .nx r (S3.set n (.lst (xs.set j t)))
        | none => .bad)
      | _ => .bad) := q3
  obtain ⟨a, rfl, hm⟩ := ru
  have hm3 := s3.le.mu_get hm
  cases ec : S3[n]? with
  | none => rw [ec] at q3; exact q3.elim
  | some cl =>
    cases cl with
    | lst xs =>
      rw [ec] at q3
      obtain ⟨b, vs, k1, k2, kz, ka⟩ := R3.cell n xs ec
      rw [hm3] at k1; cases k1
      have q3 : PostS d W Gb G0 H0 D (match Hf.ixN xs.length z with
        | some j => .nx r (S3.set n (.lst (xs.set j t)))
        | none => .bad) := q3
      cases ej : Hf.ixN xs.length z with
      | none => rw [ej] at q3; exact q3.elim
      | some j =>
        rw [ej] at q3
        have hul := ka.length
        rw [ixN_eq', hul] at ej
        have hz3 : (vs.set j v).length ≤ sizeLine := by rw [List.length_set]; exact kz
        have ha : a ∈ G3.mu := List.mem_of_getElem? hm3
        exact ⟨a, vs, z, j, rfl, rfl, k2, ej, q3 G3 σ _ (s03.pokeC ha) (R3.setCell hm3 hz3 (RepAll.set (RepV.le (s2.trans s3).le t rv) j ka)) (E3.pokeC ha) O⟩
def pushcM (ma me : Env → Store → Res T) : Env → Store → SRes := fun r S => (ma r S).toS r fun x S => match x with
    | .ref n => (me r S).toS r fun t S => (match S[n]? with
      | some (.lst xs) => if xs.length < sizeLim then .nx r (S.set n (.lst (xs ++ [t]))) else .bad
      | _ => .bad)
    | _ => .bad
theorem s_pushc (ho : PE X o (tE d W ma)) (he : PE X e (tE d W me)) (hbase : attributeBase o "append" X.env (eval o X.env) = eval o X.env)
    (hst : starEach [e] X.env = (false, eval e X.env) :: starEach [] X.env) (hfew : Few e X.env cpos) (hline : (apos.endLine == cpos.line) = true) (hsw : swapsWith (.Call (.Attribute o "append" apos) [e] [] cpos) none pos.line X.env = pure false) :
    PS X (.Expr (.Call (.Attribute o "append" apos) [e] [] cpos) pos) (tS d W (pushcM ma me)) := by
  refine PS_imp (ps_expr (pe_bm F.plainAttrs_list F.slot_list_append F.type_list_append mt_append ho (pa1 he hst) hbase hfew hline hst rfl) hsw) fun D σ H ⟨Gb, G0, H0, G, r, S, s0, R, E, O, q⟩ => ?_
  refine ⟨G, r, S, R, E, toS_post q s0 E O fun x S1 G1 u H1 s1 R1 ru q1 => ?_⟩
  have E1 := E.step s1
  cases x <;> try exact q1.elim
  rename_i n
  have q1 : PostS d W Gb G0 H0 D ((me r S1).toS r fun t S => match S[n]? with
      | some (.lst xs) => if xs.length < sizeLim then .nx r (S.set n (.lst (xs ++ [t]))) else .bad
      | _ => .bad) := q1
  obtain ⟨a, rfl, hm⟩ := ru
  obtain ⟨vs0, hv0⟩ := R1.le_cell (List.mem_of_getElem? hm)
  refine ⟨.inl ⟨rfl, vs0, .inl (.inl hv0)⟩, G1, r, S1, R1, E1, toS_post q1 (s0.trans s1) E1 O fun t S2 G2 v H2 s2 R2 rv q2 => ?_⟩
  have E2 := E1.step s2
  have hm2 := s2.le.mu_get hm
  have s02 := (s0.trans s1).trans s2
  cases ec : S2[n]? with
  | none => rw [ec] at q2; exact q2.elim
  | some cl =>
    cases cl with
    | lst xs =>
      rw [ec] at q2
      obtain ⟨b, vs, k1, k2, kz, ka⟩ := R2.cell n xs ec
      rw [hm2] at k1; cases k1
      have q2 : PostS d W Gb G0 H0 D (if xs.length < sizeLim then .nx r (S2.set n (.lst (xs ++ [t]))) else .bad) := q2
      split at q2 <;> try exact q2.elim
      rename_i hl
      rw [lim_eq] at hl
      have hul := ka.length
      have hz2 : vs.length < sizeLine := by omega
      have hz3 : (vs ++ [v]).length ≤ sizeLine := by rw [List.length_append]; simp; omega
      have ha : a ∈ G2.mu := List.mem_of_getElem? hm2
      exact ⟨a, vs, v, rfl, rfl, k2, hz2, q2 G2 σ _ (s02.pokeC ha) (R2.setCell hm2 hz3 (ka.append ⟨rv, trivial⟩)) (E2.pokeC ha) O⟩
/-! ### an own list frozen: nothing runs -/
def frzM (i : Nat) : Env → Store → SRes := fun r S => match ownAt r i with
    | some xs => .nx (r.set i (.val (.lst xs))) S
    | none => .nx r S
theorem frz_imp {i : Nat} {D : Ends} {σ : L2.St} {H : Hp} (h : tS d W (seqM (frzM i) m1) D σ H) : tS d W m1 D σ H := by
  obtain ⟨Gb, G0, H0, G, r, S, s0, R, E, O, q⟩ := h
  unfold seqM frzM at q
  cases eo : ownAt r i with
  | none => rw [eo] at q; exact ⟨Gb, G0, H0, G, r, S, s0, R, E, O, q⟩
  | some xs =>
    rw [eo] at q
    have hr := ownAt_some eo
    obtain ⟨a, vs, hs, h1, hz, ra, h2, h3⟩ := E.own i xs hr
    obtain ⟨s1, R1, rv⟩ := freeze s0.s R h1 hz ra h2 h3 (O i a hs (.inl ⟨xs, hr⟩))
    have le : Le G (G.add a (.lst vs)) := ⟨fun b o e => by
      show upd G.I a _ b = _
      rw [upd_ne (fun q => by rw [q, h2] at e; cases e)]; exact e, [], by simp [Gh.add]⟩
    have nov : ∀ {j : Nat} {sl : Slot}, (∀ t, sl ≠ .val t) → (r.set i (.val (.lst xs)))[j]? = some sl → j ≠ i ∧ r[j]? = some sl := fun {j sl} hn e => by
      rcases get_set e with ⟨_, e1, _⟩ | q
      · exact absurd e1.symm (hn _)
      · exact q
    have offI : ∀ {b : Addr}, b ≠ a → G.I b = none → (G.add a (.lst vs)).I b = none := fun {b} hb hn => by
      show upd G.I a _ b = none
      rw [upd_ne hb]; exact hn
    refine ⟨Gb, G0, H0, _, _, S, ⟨s0.le.trans le, s1⟩, R1, ⟨by rw [List.length_set]; exact E.len, fun j t e => ?_, fun j ys e => ?_, fun j k ys zs b e1 e2 e3 e4 => ?_, fun j c fs e => ?_, fun j c e => E.exc j c (nov (by intro _ z; cases z) e).2⟩, fun j b e q => ?_, q⟩
    · rcases get_set e with ⟨rfl, e1, hl⟩ | ⟨hn, e⟩
      · cases e1
        exact ⟨_, hs, rv⟩
      · obtain ⟨v, k1, k2⟩ := E.slot j t e
        exact ⟨v, k1, RepV.le le t k2⟩
    · obtain ⟨hn, e⟩ := nov (by intro _ z; cases z) e
      obtain ⟨b, ws, k1, k2, kz, k3, k4, k5⟩ := E.own j ys e
      exact ⟨b, ws, k1, k2, kz, RepAll.le le ys k3, offI (fun q => hn (E.apart j i ys xs a e hr (by rw [← q]; exact k1) hs)) k4, k5⟩
    · obtain ⟨_, e1⟩ := nov (by intro _ z; cases z) e1
      obtain ⟨_, e2⟩ := nov (by intro _ z; cases z) e2
      exact E.apart j k ys zs b e1 e2 e3 e4
    · obtain ⟨hn, e⟩ := nov (by intro _ z; cases z) e
      obtain ⟨b, C, dx, fw, k1, k2, k3, k4, k5, k6, k7, k8, k9⟩ := E.inst j c fs e
      exact ⟨b, C, dx, fw, k1, k2, k3, k4, RepFs.le le fs k5, offI (fun q => by rw [q, h1] at k3; cases k3) k6, offI (fun q => by rw [q, h1] at k4; cases k4) k7, k8, k9⟩
    · rcases q with ⟨ys, q⟩ | ⟨c, fs, q⟩
      · exact O j b e (.inl ⟨ys, (nov (by intro _ z; cases z) q).2⟩)
      · exact O j b e (.inr ⟨c, fs, (nov (by intro _ z; cases z) q).2⟩)
theorem s_frz {i : Nat} {sts : List Stmt} (h : PSs X sts (tS d W m1)) : PSs X sts (tS d W (seqM (frzM i) m1)) := PSs_imp h fun D σ H => frz_imp
/-! ### for -/
def loopM (tg : Tg) (mi : Env → Store → Res (T × List T)) (mb : Env → Store → SRes) : Env → Store → SRes := fun r S => (mi r S).toS r fun p S =>
  forLoop (still p.1 p.2) (fun x r S => match bindT tg x r with
      | some r' => mb r' S
      | none => .bad) p.2 r S
theorem s_loop {mi : Env → Store → Res (T × List T)} {body : List Stmt} (hK : d.K = X.K) (hmi : ∀ r S p S', mi r S = .ok p S' → Still p.1 p.2 S') (hp : PassesOwn (model X.prog X.w) X.A X.env X.xe) (hc : X.calm = true) (hi : PI X tgE itE (tItE d W mi)) (hg : PG X tgE (tBind X.K tg)) (hb : PSs X body (tS d W m1))
    (hs : ∀ x, foldedSetIterable itE X.env x = pure x) : PS X (.For tgE itE body [] pos) (tS d W (loopM tg mi m1)) := by
  refine PS_imp (ps_for hp hc hi hg hb hs) fun D σ H ⟨Gb, G0, H0, G, r, S, s0, R, E, O, q⟩ => ?_
  have hst : ∀ p S', mi r S = .ok p S' → Still p.1 p.2 S' := fun p S' => hmi r S p S'
  refine ⟨G, r, S, R, E, ?_⟩
  unfold loopM at q
  cases ei : mi r S with
  | bad => rw [ei] at q; exact q.elim
  | exn c S1 => rw [ei] at q; exact fun x G1 H1 e s1 R1 => q x G1 σ H1 e (s0.trans s1) R1 (E.step s1) O
  | ok p S1 =>
    rw [ei] at q
    have hst1 := hst p S1 ei
    intro G1 J H1 s1 R1 wk
    obtain ⟨Fb, hF⟩ : ∃ Fb : T → Env → Store → SRes, Fb = fun x r S => match bindT tg x r with
      | some r' => m1 r' S
      | none => .bad := ⟨_, rfl⟩
    have q : PostS d W Gb G0 H0 D (forLoop (still p.1 p.2) Fb p.2 r S1) := by rw [hF]; exact q
    refine ⟨fun i m σ' H' => m = p.2.length - i ∧ i ≤ p.2.length ∧ ∃ G' r' S', Stp Gb G0 G' H0 H' ∧ Le G1 G' ∧ RepS d G' S' H' ∧ RepE d G' r' σ' H' ∧ RepO H0 r' σ' ∧ Still p.1 p.2 S' ∧ PostS d W Gb G0 H0 D (forLoop (still p.1 p.2) Fb (p.2.drop i) r' S'), ⟨p.2.length, by simp, Nat.zero_le _, G1, r, S1, s0.trans s1, Le.refl _, R1, E.step s1, O, hst1, q⟩, ?_⟩
    rintro i m σ' H' ⟨rfl, hi', G', r', S', s', le', R', E', O', st', q'⟩
    by_cases hlt : i < p.2.length
    · refine .inr ⟨wk.go G' S' H' le' R' st' i hlt, fun σ3 H3 => ∃ G3 r3 S3, Stp Gb G0 G3 H0 H3 ∧ Le G1 G3 ∧ RepS d G3 S3 H3 ∧ RepE d G3 r3 σ3 H3 ∧ RepO H0 r3 σ3 ∧ Still p.1 p.2 S3 ∧ PostS d W Gb G0 H0 D (forLoop (still p.1 p.2) Fb (p.2.drop (i + 1)) r3 S3), fun σ3 H3 h => ⟨p.2.length - (i + 1), by omega, rfl, hlt, h⟩, fun x H'' y => ?_⟩
      obtain ⟨t, G2, ht, s2, R2, rv⟩ := wk.yld G' S' H' le' R' st' i x H'' hlt y
      have ed : p.2.drop i = t :: p.2.drop (i + 1) := by
        rw [List.drop_eq_getElem_cons hlt]
        rw [List.getElem?_eq_getElem hlt] at ht
        rw [Option.some.inj ht]
      rw [ed] at q'
      unfold forLoop at q'
      rw [hF] at q'
      cases eb : bindT tg t r' with
      | none => simp only [eb] at q'; exact q'.elim
      | some r2 =>
        simp only [eb] at q'
        rw [← hF] at q'
        have s2' := s'.trans s2
        refine bind_rep hK R2 (E'.step s2) rv eb fun σ2 E2 _ ho => ⟨G2, G0, H0, G2, r2, S', ⟨Le.refl _, s2'.s⟩, R2, E2, ho H0 O', ?_⟩
        have l12 := le'.trans s2.le
        cases em : m1 r2 S' with
        | bad => rw [em] at q'; exact q'.elim
        | ret t' S3 => rw [em] at q'; exact fun G3 v H3 s3 R3 rv3 => q' G3 v H3 ⟨s2'.le.trans s3.le, s3.s⟩ R3 rv3
        | exn c' r3 S3 => rw [em] at q'; exact fun x3 G3 σ3 H3 e3 s3 R3 E3 O3 => q' x3 G3 σ3 H3 e3 ⟨s2'.le.trans s3.le, s3.s⟩ R3 E3 O3
        | brk r3 S3 => rw [em] at q'; exact fun G3 σ3 H3 s3 R3 E3 O3 => q' G3 σ3 H3 ⟨s2'.le.trans s3.le, s3.s⟩ R3 E3 O3
        | nx r3 S3 =>
          rw [em] at q'
          intro G3 σ3 H3 s3 R3 E3 O3
          have q' : PostS d W Gb G0 H0 D (if still p.1 p.2 S3 = true then forLoop (still p.1 p.2) Fb (p.2.drop (i + 1)) r3 S3 else .bad) := q'
          split at q' <;> try exact q'.elim
          rename_i hst3
          exact ⟨G3, r3, S3, ⟨s2'.le.trans s3.le, s3.s⟩, l12.trans s3.le, R3, E3, O3, still_of hst3, q'⟩
        | cnt r3 S3 =>
          rw [em] at q'
          intro G3 σ3 H3 s3 R3 E3 O3
          have q' : PostS d W Gb G0 H0 D (if still p.1 p.2 S3 = true then forLoop (still p.1 p.2) Fb (p.2.drop (i + 1)) r3 S3 else .bad) := q'
          split at q' <;> try exact q'.elim
          rename_i hst3
          exact ⟨G3, r3, S3, ⟨s2'.le.trans s3.le, s3.s⟩, l12.trans s3.le, R3, E3, O3, still_of hst3, q'⟩
    · have en : i = p.2.length := by omega
      subst en
      rw [List.drop_length] at q'
      exact .inl ⟨wk.stop G' S' H' le' R' st', q' G' σ' H' s' R' E' O'⟩
end
end Hf
end

section
set_option Elab.async false
set_option linter.all false
set_option maxRecDepth 100000
set_option maxHeartbeats 2000000
/-! HfS13: defs called; no guard of repr stands around. -/
namespace Hf
open PySem PySem.Spec PyProof.Rows L2
structure RoomG (k : Nat) (A : Around) : Prop where
  r : Room k A
  g : A.guards = some []
theorem RoomG.mono {j k : Nat} {A : Around} (r : RoomG k A) (h : j ≤ k) : RoomG j A := ⟨r.r.mono h, r.g⟩
structure FnG (P : Program) (w : World) (K : PySem.W.Frag) (mg : PySem.Str → Option Value) (base : Heap) (k : Nat) (f : Addr) (fd : FuncData) (ps : List PySem.Str) (sp : Sp) : Prop where
  len : ∀ vs H Q E, sp vs H Q E → vs.length = ps.length
  run : ∀ (A : Around) (outer : List PySem.Env) (s : Shared) (H : Hp) (args : Args) (us : List Value) (vs : List V) (Q : VK) (E : XK), RoomG k A → Env0 P w K mg base A outer s H → BindsTo s fd args (ps.zip us) → Vals vs us → sp vs H Q E →
    codeAny (model P w) A (.call (.ref f) args) (CR (L2.CX P w) outer P w H s Q E) s
theorem fn_ofG {P : Program} {w : World} {K : PySem.W.Frag} {mg : PySem.Str → Option Value} {base : Heap} {k : Nat} {f : Addr} {name qual : PySem.Str} {params : Arguments} {body : List Stmt} {scope : Scope} {dV kV doc pm cdv ct oc : Value} {an od : Option Addr}
    {osl : Array (Option Value)} {N ps : List PySem.Str} {sp : Sp} (lk : K.lookup f = some ⟨oc, od, .func (PySem.W.fnOf name qual params body scope dV kV doc pm an cdv ct), osl⟩) (hcd : PySem.W.codeIn K cdv qual = true) (SC : FnScope N ps scope)
    (len : ∀ vs H Q E, sp vs H Q E → vs.length = ps.length)
    (hbody : ∀ (A : Around) (outer : List PySem.Env) (s : Shared) (H : Hp) (vs : List V) (Q : VK) (E : XK), RoomG k (A.deeper (envOfC qual scope s.heap.objs.size f cdv)) → sp vs H Q E →
      ∃ t, PSs (cxOf (L2.CX P w) P w K mg base N qual scope f cdv A outer s H E) body t ∧ t { nx := fun _ H' => Q .non H', rt := Q } (L2.start N vs) H) :
    FnG P w K mg base (k + 1) f (PySem.W.fnOf name qual params body scope dV kV doc pm an cdv ct) ps sp := by
  refine ⟨len, fun A outer s H args us vs Q E hr e0 hb r hsp => ?_⟩
  have hl := len _ _ _ _ hsp
  have KX : K.In s.heap := e0.mod.kin.keeps fun b o e => (e0.bs b o e).1
  have lim : s.heap.NoLimit := e0.mod.nolimit.keeps fun b o e => (e0.bs b o e).1
  have hkind : ∀ y ∈ ps.zip us, scope.names.lookup y.1 = some .local ∨ (scope.names.lookup y.1 = some .cell ∧ ((cellsFrom (s.heap.objs.size + 1) scope.names []).lookup y.1).isSome = true) := fun ⟨n, v⟩ hy => by
    rcases SC.par n (List.of_mem_zip hy).1 with q | q
    · exact .inl q
    · exact .inr ⟨q, PySem.W.cellsFrom_some _ _ _ (.inl q)⟩
  refine codeAny_call_function hr.r.depth (KX _ _ lk) rfl SC.co SC.gen rfl (PySem.W.codeRec_of KX hcd) (hb _ _ _ _ ?_)
  refine wpAny_newFunctionEnv_cells SC.kind hkind fun env he s1 x => ?_
  subst he
  refine ⟨lim.keeps x.toInCall.keep, codeAny_func ?_⟩
  obtain ⟨t, ht, hq⟩ := hbody A outer s H vs Q E ⟨hr.r.deeper _, hr.g⟩ hsp
  have I : Inv (cxOf (L2.CX P w) P w K mg base N qual scope f cdv A outer s H E) [] (L2.start N vs) H s1 := inv_start SC hr.r.hd e0 hl r x
  refine wpAny_mono (ht.run [] s1 (L2.start N vs) H _ I hq) (fun fl s' hs => ?_) fun e s' hs => hs
  have fin : ∀ {σ' : L2.St} {H' : Hp} {v : V} {u : Value}, Inv (cxOf (L2.CX P w) P w K mg base N qual scope f cdv A outer s H E) [] σ' H' s' → RelV v u → Q v H' → CE outer P w H s Q u s' :=
    fun {σ' H' v u} J rv q => ⟨v, H', J.os, J.bare, J.base, J.hok, rv, q⟩
  cases fl with
  | ret u =>
    obtain ⟨v, σ', H', J, rv, q⟩ := hs
    exact fin J rv q
  | next =>
    obtain ⟨σ', H', J, q⟩ := hs
    exact fin (v := V.non) (u := Value.none) J rfl q
  | brk =>
    obtain ⟨_, _, _, q⟩ := hs
    exact False.elim q
  | cont =>
    obtain ⟨_, _, _, q⟩ := hs
    exact False.elim q
section
variable {X : Cx} {k : Nat} {f C : Addr} {fd : FuncData} {ps : List PySem.Str} {sp : Sp} {E : L2.St → XK} {x m : PySem.Str} {p pos apos : Pos} {e o : Expr} {es : List Expr} {ta : TE} {t : TA}
theorem run_fnG {pins : List (Addr × Obj)} {σ : L2.St} {H : Hp} {s : Shared} {Q : VK} {us : List Value} {vs : List V} (F : FnG X.prog X.w X.K X.mg X.base k f fd ps sp) (hr : RoomG k X.A) (hb : Binds X.K fd ps []) (hx : PassesAt (L2.CX X.prog X.w) X σ (E σ))
    (I : Inv X pins σ H s) (r : Vals vs us) (h : sp vs H Q (E σ)) : wpAny (model X.prog X.w) X.A (PySem.call (.ref f) us) (EP X pins σ Q) X.xe s := by
  have hl : us.length = ps.length := by rw [← r.length]; exact F.len _ _ _ _ h
  have b := hb s us I.kIn (by rw [List.append_nil]; exact hl)
  rw [List.append_nil] at b
  refine wpAny_call (codeAny_mono (F.run X.A X.stack s H ⟨us, []⟩ us vs Q (E σ) hr I.env0 b r h) fun r s' hq => ?_)
  cases r with
  | error e => exact hx pins H s e s' I hq
  | ok fl =>
    cases fl with
    | ret u => exact I.after hq
    | next => exact False.elim hq
    | brk => exact False.elim hq
    | cont => exact False.elim hq
/-- f(..) of a global def -/
theorem pe_callG (F : FnG X.prog X.w X.K X.mg X.base k f fd ps sp) (hr : RoomG k X.A) (hg : Gl X x) (hm : X.mg x = some (.ref f)) (hk : PySem.W.keepIn X.K (.ref f) = true) (hb : Binds X.K fd ps []) (hx : ∀ σ, PassesAt (L2.CX X.prog X.w) X σ (E σ))
    (ha : PA X (e :: es) t) (hdb : (x == ("__debug__" : PySem.Str)) = false) (he : starEach (e :: es) X.env = (false, eval e X.env) :: starEach es X.env) (hpl : (backTo pos (starEach es X.env)).any (·.1) = false) :
    PE X (.Call (.Name x p) (e :: es) [] pos) (tCallS sp E t) := by
  refine ⟨fun pins s σ H Q I h => ?_⟩
  refine wpAny_Call_Name_kw (ld_glob I hg hm ?_ hdb)
  refine PySem.W.callWith_K (h₀ := X.base) I.ok.mod.kin hk (thn (ha.run pos pins s σ H _ I h) fun us s1 ⟨vs, H1, I1, r, q⟩ => ⟨I1.kIn, ?_⟩) he hpl
  exact run_fnG F hr hb (hx σ) I1 r q
theorem pe_callG0 (F : FnG X.prog X.w X.K X.mg X.base k f fd ps sp) (hr : RoomG k X.A) (hg : Gl X x) (hm : X.mg x = some (.ref f)) (hk : PySem.W.keepIn X.K (.ref f) = true) (hb : Binds X.K fd ps []) (hx : ∀ σ, PassesAt (L2.CX X.prog X.w) X σ (E σ))
    (hdb : (x == ("__debug__" : PySem.Str)) = false) : PE X (.Call (.Name x p) [] [] pos) (tCallS sp E tNil) := by
  refine ⟨fun pins s σ H Q I h => ?_⟩
  refine wpAny_Call_Name_kw (ld_glob I hg hm ?_ hdb)
  exact PySem.W.callWith_K0 I.kIn hk (run_fnG (us := []) F hr hb (hx σ) I .nil h)
end
/-! ### a def's promise by trees -/
/-- what is wanted of a call -/
def PostC (d : D) (E : XK) (G : Gh) (H : Hp) (Q : VK) : Res T → Prop
  | .ok t S' => ∀ G' v H', Step G G' H H' → RepS d G' S' H' → RepV d G' t v → Q v H'
  | .exn c S' => ∀ x G' H', d.xa c = some x → Step G G' H H' → RepS d G' S' H' → E (.ref x) none H'
  | .bad => False
def spT (d : D) (n : Nat) (sem : List T → Store → Res T) : Sp := fun vs H Q E => vs.length = n ∧ ∃ G xs S, RepS d G S H ∧ RepAll d G xs vs ∧ PostC d E G H Q (sem xs S)
def callM (sem : List T → Store → Res T) (ms : Env → Store → Res (List T)) : Env → Store → Res T := fun r S => (ms r S).bind fun xs S => sem xs S
section
variable {X : Cx} {d : D} {W : WX} {k n : Nat} {f : Addr} {fd : FuncData} {ps : List PySem.Str} {sem : List T → Store → Res T} {x : PySem.Str} {p pos : Pos} {e : Expr} {es : List Expr} {ms : Env → Store → Res (List T)}
theorem call_imp {t : TA} {σ : L2.St} {H : Hp} {Q : VK} (hn : ∀ r S xs S', ms r S = .ok xs S' → xs.length = n) (ht : ∀ σ H Q, tAs d W ms σ H Q → t σ H Q) (h : tE d W (callM sem ms) σ H Q) : tCallS (spT d n sem) (WE W) t σ H Q := by
  obtain ⟨G, r, S, RS, RE, q⟩ := h
  refine ht _ _ _ ⟨G, r, S, RS, RE, ?_⟩
  unfold callM at q
  cases e1 : ms r S with
  | bad => rw [e1] at q; exact q.elim
  | exn c S1 => rw [e1] at q; exact q
  | ok xs S1 =>
    rw [e1] at q
    have q : Post d W σ (RV d r σ H) G H Q (sem xs S1) := q
    intro G1 vs H1 s1 R1 ra
    refine ⟨by rw [← ra.length]; exact hn r S xs S1 e1, G1, xs, S1, R1, ra, ?_⟩
    cases e2 : sem xs S1 with
    | bad => rw [e2] at q; exact q.elim
    | exn c S2 => rw [e2] at q; exact fun x G2 H2 ex s2 R2 => q x G2 H2 ex (s1.trans s2) R2
    | ok t' S2 => rw [e2] at q; exact fun G2 v H2 s2 R2 rv => q G2 v H2 (s1.trans s2) R2 rv
theorem s_call (hn : ∀ r S xs S', ms r S = .ok xs S' → xs.length = n) (F : FnG X.prog X.w X.K X.mg X.base k f fd ps (spT d n sem)) (hr : RoomG k X.A) (hg : Gl X x) (hm : X.mg x = some (.ref f)) (hk : PySem.W.keepIn X.K (.ref f) = true) (hb : Binds X.K fd ps []) (tk : Takes X W)
    (ha : PA X (e :: es) (tAs d W ms)) (hdb : (x == ("__debug__" : PySem.Str)) = false) (he : starEach (e :: es) X.env = (false, eval e X.env) :: starEach es X.env) (hpl : (backTo pos (starEach es X.env)).any (·.1) = false) :
    PE X (.Call (.Name x p) (e :: es) [] pos) (tE d W (callM sem ms)) :=
  PE_imp (pe_callG F hr hg hm hk hb (fun σ => passAt tk σ) ha hdb he hpl) fun σ H Q h => call_imp hn (fun _ _ _ h => h) h
theorem s_call0 (hn : n = 0) (F : FnG X.prog X.w X.K X.mg X.base k f fd ps (spT d n sem)) (hr : RoomG k X.A) (hg : Gl X x) (hm : X.mg x = some (.ref f)) (hk : PySem.W.keepIn X.K (.ref f) = true) (hb : Binds X.K fd ps []) (tk : Takes X W)
    (hdb : (x == ("__debug__" : PySem.Str)) = false) : PE X (.Call (.Name x p) [] [] pos) (tE d W (callM sem fun _ S => .ok [] S)) :=
  PE_imp (pe_callG0 F hr hg hm hk hb (fun σ => passAt tk σ) hdb) fun σ H Q h => call_imp (fun r S xs S' e => by cases e; exact hn.symm) (fun _ _ _ ⟨G, r, S, RS, RE, q⟩ => q G [] _ (Step.refl _ _) RS trivial) h
end
/-! ### a def's body -/
def runM (np ns : Nat) (mb : Env → Store → SRes) (xs : List T) (S : Store) : Res T := if xs.length = np then (mb (xs.map .val ++ List.replicate (ns - xs.length) .no) S).fin else .bad
theorem start_rep {d : D} {G : Gh} {H : Hp} {N : List PySem.Str} {xs : List T} {vs : List V} (ra : RepAll d G xs vs) (hN : vs.length ≤ N.length) : RepE d G (xs.map Slot.val ++ List.replicate (N.length - xs.length) .no) (L2.start N vs) H ∧ ∀ H0, RepO H0 (xs.map Slot.val ++ List.replicate (N.length - xs.length) .no) (L2.start N vs) := by
  have hl := ra.length
  have key : ∀ (i : Nat) sl, (xs.map Slot.val ++ List.replicate (N.length - xs.length) Slot.no)[i]? = some sl → sl = .no ∨ ∃ t, xs[i]? = some t ∧ sl = .val t := by
    intro i sl e
    by_cases hi : i < xs.length
    · rw [List.getElem?_append_left (by simpa using hi), List.getElem?_map] at e
      cases q : xs[i]? with
      | none => rw [q] at e; cases e
      | some t => rw [q] at e; cases e; exact .inr ⟨t, rfl, rfl⟩
    · rw [List.getElem?_append_right (by simpa using hi), List.getElem?_replicate] at e
      split at e
      · cases e; exact .inl rfl
      · cases e
  have nov : ∀ {i : Nat} {sl : Slot}, (∀ t, sl ≠ .val t) → sl ≠ .no → (xs.map Slot.val ++ List.replicate (N.length - xs.length) Slot.no)[i]? = some sl → False := fun {i sl} h1 h2 e => by
    rcases key i sl e with q | ⟨t, _, q⟩
    · exact h2 q
    · exact h1 t q
  refine ⟨⟨?_, fun i t e => ?_, fun i ys e => ?_, fun i j ys zs a e1 _ _ _ => ?_, fun i c fs e => ?_, fun i c e => ?_⟩, fun H0 i a _ h => ?_⟩
  · unfold L2.start
    rw [List.length_append, List.length_append, List.length_map, List.length_map, List.length_replicate, List.length_replicate]
    omega
  · rcases key i _ e with q | ⟨t', e1, q⟩
    · cases q
    · cases q
      obtain ⟨v, e2, rv⟩ := ra.get e1
      refine ⟨v, ?_, rv⟩
      unfold L2.start
      have hi := (List.getElem?_eq_some_iff.mp e2).1
      rw [List.getElem?_append_left (by simpa using hi), List.getElem?_map, e2]; rfl
  · exact (nov (by intro _ z; cases z) (by intro z; cases z) e).elim
  · exact (nov (by intro _ z; cases z) (by intro z; cases z) e1).elim
  · exact (nov (by intro _ z; cases z) (by intro z; cases z) e).elim
  · exact (nov (by intro _ z; cases z) (by intro z; cases z) e).elim
  · rcases h with ⟨ys, h⟩ | ⟨c, fs, h⟩
    · exact (nov (by intro _ z; cases z) (by intro z; cases z) h).elim
    · exact (nov (by intro _ z; cases z) (by intro z; cases z) h).elim
theorem fin_post {d : D} {E : XK} {G : Gh} {H : Hp} {Q : VK} {m : SRes} (h : PostC d E G H Q m.fin) : PostS d (fun cls dd _ H => E cls dd H) G G H { nx := fun _ H' => Q .non H', rt := Q } m := by
  cases m with
  | nx r S' => exact fun G' σ' H' s R _ _ => h G' .non H' s.s R rfl
  | ret t S' => exact fun G' v H' s R rv => h G' v H' s.s R rv
  | brk r S' => exact h.elim
  | cnt r S' => exact h.elim
  | exn c r S' => exact fun x G' σ' H' ex s R _ _ => h x G' H' ex s.s R
  | bad => exact h
/-- a def of the text keeps its promise, by its body -/
theorem fn_tree {P : Program} {w : World} {K : PySem.W.Frag} {mg : PySem.Str → Option Value} {base : Heap} {k : Nat} {f : Addr} {name qual : PySem.Str} {params : Arguments} {body : List Stmt} {scope : Scope} {dV kV doc pm cdv ct oc : Value} {an od : Option Addr}
    {osl : Array (Option Value)} {N ps : List PySem.Str} {d : D} {mb : Env → Store → SRes} (lk : K.lookup f = some ⟨oc, od, .func (PySem.W.fnOf name qual params body scope dV kV doc pm an cdv ct), osl⟩) (hcd : PySem.W.codeIn K cdv qual = true) (SC : FnScope N ps scope)
    (hbody : ∀ (X : Cx) (W : WX), X.prog = P → X.w = w → X.K = K → X.mg = mg → X.base = base → X.N = N → X.env.scope = scope → X.fn = (fun _ => true) → X.calm = true → X.env.frame = some X.env.locals → X.stack = X.env :: X.outer → RoomG k X.A → Takes X W → PassesOwn (model X.prog X.w) X.A X.env X.xe → PSs X body (tS d W mb)) :
    FnG P w K mg base (k + 1) f (PySem.W.fnOf name qual params body scope dV kV doc pm an cdv ct) ps (spT d ps.length (runM ps.length N.length mb)) := by
  refine fn_ofG lk hcd SC (fun vs H Q E h => h.1) fun A outer s H vs Q E hr hsp => ?_
  obtain ⟨hl, G, xs, S, R, ra, q⟩ := hsp
  have hpl : ps.length ≤ N.length := by have := congrArg List.length SC.pre; rw [List.length_take] at this; omega
  refine ⟨tS d (fun cls dd _ H => E cls dd H) mb, hbody (cxOf (L2.CX P w) P w K mg base N qual scope f cdv A outer s H E) _ rfl rfl rfl rfl rfl rfl rfl rfl rfl rfl rfl hr (takes_of rfl rfl rfl rfl) (passes_of rfl), ?_⟩
  have hxl : xs.length = ps.length := by rw [ra.length, hl]
  unfold runM at q
  rw [if_pos hxl] at q
  obtain ⟨E1, O1⟩ := start_rep (d := d) (H := H) (N := N) ra (by omega)
  exact ⟨G, G, H, G, _, S, ⟨Le.refl _, Step.refl _ _⟩, R, E1, O1 H, fin_post q⟩
end Hf
end

section
set_option Elab.async false
set_option linter.all false
set_option maxRecDepth 100000
set_option maxHeartbeats 4000000
/-! HfS14: raise, try .. except .. as .., isinstance of a caught error, by trees. -/
namespace Hf
open PySem PySem.Spec PyProof.Rows L2
/-! ### several clauses, each with its name or none -/
abbrev Clause := Value × Option Nat × (Addr → Value → Option Addr → TS)
def dropD (D : Ends) : Option Nat → Ends
  | none => D
  | some i => { nx := fun σ' H' => D.nx (σ'.set i none) H', rt := D.rt, bk := fun σ' H' => D.bk (σ'.set i none) H', ct := fun σ' H' => D.ct (σ'.set i none) H' }
def bindX (σ : L2.St) (a : Addr) : Option Nat → L2.St
  | none => σ
  | some i => σ.set i (some (.ref a))
/-- what the clauses wish of an exception of the body, one after the other -/
def wManyA (K : PySem.W.Frag) (Wout : WX) (D : Ends) : List Clause → WX
  | [] => Wout
  | (c, oi, ts) :: r => fun cls d σ H => ∃ b, PySem.W.exmOne K cls c = some b ∧ (b = true → ∀ a, H a = none → ts a cls d (dropD D oi) (bindX σ a oi) H) ∧ (b = false → wManyA K Wout D r cls d σ H)
inductive HdsA (X : Cx) : List ExceptHandler → List Clause → Prop
  | nil : HdsA X [] []
  | plain {x : PySem.Str} {c : Value} {ts : Addr → Value → Option Addr → TS} {b₀ : Stmt} {suite : List Stmt} {np pos' : Pos} {hds : List ExceptHandler} {l : List Clause} (hc : Names X x c)
      (hsu : ∀ (a : Addr) (oe : Obj) (cls : Value) (d : Option Addr) (pn : List (Addr × Obj)), Zc cls d oe → (∃ vs, oe.data = .fields vs) → PSs (X.suite a ((a, oe) :: pn)) (b₀ :: suite) (ts a cls d)) (r : HdsA X hds l) :
      HdsA X (.ExceptHandler (some (.Name x np)) none (b₀ :: suite) pos' :: hds) ((c, none, ts) :: l)
  | named {x n : PySem.Str} {i : Nat} {c : Value} {ts : Addr → Value → Option Addr → TS} {b₀ : Stmt} {suite : List Stmt} {np pos' : Pos} {hds : List ExceptHandler} {l : List Clause} (hi : X.N[i]? = some n) (hln : X.env.kindOf n = some .local) (hc : Names X x c)
      (hsu : ∀ (a : Addr) (oe : Obj) (cls : Value) (d : Option Addr) (pn : List (Addr × Obj)), Zc cls d oe → (∃ vs, oe.data = .fields vs) → PSs (X.suite a ((a, oe) :: pn)) (b₀ :: suite) (ts a cls d)) (r : HdsA X hds l) :
      HdsA X (.ExceptHandler (some (.Name x np)) (some n) (b₀ :: suite) pos' :: hds) ((c, some i, ts) :: l)
section
variable {X : Cx} {body : List Stmt} {h₀ : ExceptHandler} {hds : List ExceptHandler} {l : List Clause} {pos : Pos} {tb : WX → TS} {Wout : WX}
theorem ps_tryA (hs : X.stack = X.env :: X.outer) (hf : X.env.frame = some X.env.locals) (hN : X.N.Nodup) (tk : Takes X Wout)
    (hb : ∀ (W : WX) (pn : List (Addr × Obj)) (xe : Value → Shared → Prop), Takes (X.tr pn xe) W → PassesOwn (model X.prog X.w) X.A X.env xe → PSs (X.tr pn xe) body (tb W))
    (hh : HdsA X (h₀ :: hds) l) : PS X (.Try body (h₀ :: hds) [] [] pos) (fun D σ H => tb (wManyA X.K Wout D l) D σ H) := by
  refine ⟨fun pins s σ H D I h => ?_⟩
  have ok := I.ok
  have hfr : X.A.frames = some (X.env :: X.outer) := by rw [ok.frames, hs]
  refine wpAny_Try_except ?_
  refine wpAny_mono ((hb (wManyA X.K Wout D l) (X.pn ++ pins) (fun e s₁ => wpAny (model X.prog X.w) X.A (noteFrame e X.env) (fun _ s₂ => wpAny (model X.prog X.w) X.A (setFlight e none) (fun _ s₃ =>
    wpAny (model X.prog X.w) X.A (handleBy e X.env (h₀ :: hds)) (SP X pins D) X.xe s₃) X.xe s₂) X.xe s₁) (fun u s' xx => ?_) PassesOwn.looking).run [] s σ H D (I.toTry _) h) (fun f s1 hsp => ?_) (fun e s1 he => he)
  · obtain ⟨a, B, sI, pins', σ', H', cls, d, rfl, J', nb, up, sky, na, os, ag, w⟩ := xx
    have J : Inv X pins σ' H' sI := J'.ofTry ok
    have sky' : Sky B (X.env :: X.outer) a (Zc cls d) X.env.locals s'.heap := by rw [← hs]; exact sky
    show wpAny (model X.prog X.w) X.A (noteFrame (.ref a) X.env) _ _ _
    refine Sky.land Zc.steady hfr hf sky' fun h3 fl3 up3 => ?_
    have J3 : Inv X pins σ' H' { s' with heap := h3 } := J.landed nb fl3.1 (up.trans up3) os ag
    obtain ⟨oe3, vs3, he3, hz3, hd3⟩ := fl3.there
    have notFr : ∀ {h : Heap} {o : Obj} {vs : Array Value}, h.FunFrames B (X.env :: X.outer) → h.get? a = some o → o.data = .fields vs → a ∉ frs (X.env :: X.outer) := fun {h o vs} ff e dd hm => by
      obtain ⟨_, o', e', hnf⟩ := ff.mem hm
      rw [e] at e'; cases e'
      exact hnf _ dd
    have nfr := notFr fl3.2.2.1 he3 hd3
    have nL : a ≠ X.env.locals := fun z => nfr (List.mem_filterMap.mpr ⟨X.env, List.mem_cons_self, by rw [hf, z]⟩)
    have nF : a ∉ X.fs := fun hm => by
      obtain ⟨e, he, q⟩ := List.mem_filterMap.mp hm
      exact nfr (List.mem_filterMap.mpr ⟨e, List.mem_cons_of_mem _ he, q⟩)
    have S3 := J3.suite he3 hd3 na nL nF
    have LT : PySem.W.Looks (model X.prog X.w) h3 (typeOf (.ref a)) cls := fun A Q E s k q => wpAny_typeOf_ref (k _ _ he3) (by rw [hz3.1]; exact q)
    have test : ∀ {x : PySem.Str} {c : Value} {np : Pos} {Q : Value → Shared → Prop} {E : Value → Shared → Prop}, Names X x c → Q c { s' with heap := h3 } → wpAny (model X.prog X.w) (X.A.mark (some (.ref a))) (eval (.Name x np) X.env) Q E { s' with heap := h3 } := fun {x c np Q E} hc q => by
      obtain ⟨hg, hdbg, hm | ⟨hm, hv, hnn⟩⟩ := hc
      · exact ld_glob (X := X.suite a ((a, oe3) :: (X.pn ++ pins))) S3 hg hm q hdbg
      · exact ld_blt (X := X.suite a ((a, oe3) :: (X.pn ++ pins))) S3 hg hm hv q hnn hdbg
    have go : ∀ {hds' : List ExceptHandler} {l' : List Clause}, HdsA X hds' l' → wManyA X.K Wout D l' cls d σ' H' →
        wpAny (model X.prog X.w) X.A (handleBy (.ref a) X.env hds') (SP X pins D) X.xe { s' with heap := h3 } := by
      intro hds' l' hk
      induction hk with
      | nil =>
        intro w
        refine wpAny_handleBy_nil ?_
        obtain ⟨k1, k2, k3, oe, vs, T, oT, ts', he, hz, hd, h1, hr⟩ := id fl3
        unfold PySem.passOn
        refine wpAny_bind (wpAny_field he hd h1 ?_)
        rw [if_neg (show ¬ ((Value.ref T == Value.none) = true) from by simp)]
        have fin : wpAny (model X.prog X.w) X.A (setFlight (.ref a) X.env.frame) (fun _ s4 => wpAny (model X.prog X.w) X.A (throw (.ref a) : Sem Flow) (SP X pins D) X.xe s4) X.xe { s' with heap := h3 } := by
          rw [hf]
          refine HandSPX.setFlight_upZ fl3 fun h4 hh4 up4 => wpAny_throw (tk _ _ ?_)
          exact ⟨a, B, sI, pins, σ', H', cls, d, rfl, J, nb, (up.trans up3).trans up4, .inr (.inr (by rw [hs]; exact hh4)), na, os, ag, w⟩
        first
          | exact wpAny_bind (wpAny_pure (wpAny_bind fin))
          | exact wpAny_bind fin
      | @plain x c ts b₀ suite np pos' hds2 l2 hc hsu r ih =>
        intro w
        obtain ⟨b, hb1, hyes, hno⟩ := w
        refine wpAny_handleBy_cons (codeAny_handlers_test ?_) (by intro q; cases q)
        have LM := PySem.W.exm_one (M := model X.prog X.w) (J3.kIn) LT hb1
        refine test hc (LM.here ?_)
        cases b with
        | true =>
          refine codeAny_handlers_suite ?_
          refine HandSPX.lands_againZ fl3 fun h4 fl4 up4 => ?_
          have J4 : Inv X pins σ' H' { s' with heap := h4 } := J.landed nb fl4.1 ((up.trans up3).trans up4) os ag
          obtain ⟨oe4, vs4, he4, hz4, hd4⟩ := fl4.there
          have S4 := J4.suite he4 hd4 na nL nF
          refine wpAny_mono ((hsu a oe4 cls d (X.pn ++ pins) hz4 ⟨_, hd4⟩).run [] _ _ H' _ S4 (hyes rfl a na)) (fun f s6 hsp => ?_) (fun _ _ z => False.elim z)
          cases f with
          | next =>
            obtain ⟨σ6, H6, S6, q6⟩ := hsp
            exact ⟨_, _, S6.unsuite ok, q6⟩
          | brk =>
            obtain ⟨σ6, H6, S6, q6⟩ := hsp
            exact ⟨_, _, S6.unsuite ok, q6⟩
          | cont =>
            obtain ⟨σ6, H6, S6, q6⟩ := hsp
            exact ⟨_, _, S6.unsuite ok, q6⟩
          | ret u =>
            obtain ⟨v6, σ6, H6, S6, r6, q6⟩ := hsp
            exact ⟨_, _, _, S6.unsuite ok, r6, q6⟩
        | false =>
          show wpAny _ X.A (handleBy (.ref a) X.env hds2) _ _ _
          exact ih (hno rfl)
      | @named x n i c ts b₀ suite np pos' hds2 l2 hi hln hc hsu r ih =>
        intro w
        obtain ⟨b, hb1, hyes, hno⟩ := w
        have hloc : Loc X.env.scope n := .inl hln
        refine wpAny_handleBy_cons (codeAny_handlers_test ?_) (by intro q; cases q)
        have LM := PySem.W.exm_one (M := model X.prog X.w) (J3.kIn) LT hb1
        refine test hc (LM.here ?_)
        cases b with
        | true =>
          refine codeAny_handlers_suite_as ?_
          refine HandSPX.lands_againZ fl3 fun h4 fl4 up4 => ?_
          have J4 : Inv X pins σ' H' { s' with heap := h4 } := J.landed nb fl4.1 ((up.trans up3).trans up4) os ag
          obtain ⟨oe4, vs4, he4, hz4, hd4⟩ := fl4.there
          have S4 := J4.suite he4 hd4 na nL nF
          refine store_ok (X := X.suite a ((a, oe4) :: (X.pn ++ pins))) (v := .ref a) S4 hN hi hloc rfl (fun s5 S5 => ?_) (.inr hln)
          refine wpAny_mono ((hsu a oe4 cls d (X.pn ++ pins) hz4 ⟨_, hd4⟩).run [] s5 _ H' _ S5 (hyes rfl a na)) (fun f s6 hsp => ?_) (fun _ _ z => False.elim z)
          have end_ : ∀ {σ6 : L2.St} {H6 : Hp} {Q : Shared → Prop}, Inv (X.suite a ((a, oe4) :: (X.pn ++ pins))) [] σ6 H6 s6 → (∀ s7, Inv X pins (σ6.set i none) H6 s7 → Q s7) →
              wpAny (model X.prog X.w) X.A (do bindName X.env n .none; unbindBehindTheSuite X.env n pos') (fun _ s7 => Q s7) X.xe s6 := fun {σ6 H6 Q} S6 hq => gone_ok (S6.unsuite ok) hN hi hln hq
          cases f with
          | next =>
            obtain ⟨σ6, H6, S6, q6⟩ := hsp
            exact end_ S6 fun s7 J7 => ⟨_, _, J7, q6⟩
          | brk =>
            obtain ⟨σ6, H6, S6, q6⟩ := hsp
            exact end_ S6 fun s7 J7 => ⟨_, _, J7, q6⟩
          | cont =>
            obtain ⟨σ6, H6, S6, q6⟩ := hsp
            exact end_ S6 fun s7 J7 => ⟨_, _, J7, q6⟩
          | ret u =>
            obtain ⟨v6, σ6, H6, S6, r6, q6⟩ := hsp
            exact end_ S6 fun s7 J7 => ⟨_, _, _, J7, r6, q6⟩
        | false =>
          show wpAny _ X.A (handleBy (.ref a) X.env hds2) _ _ _
          exact ih (hno rfl)
    exact go hh w
  · cases f with
    | next =>
      obtain ⟨σ', H', J', q⟩ := hsp
      exact wpAny_execs_nil ⟨σ', H', J'.ofTry ok, q⟩
    | brk =>
      obtain ⟨σ', H', J', q⟩ := hsp
      exact ⟨σ', H', J'.ofTry ok, q⟩
    | cont =>
      obtain ⟨σ', H', J', q⟩ := hsp
      exact ⟨σ', H', J'.ofTry ok, q⟩
    | ret u =>
      obtain ⟨v, σ', H', J', r, q⟩ := hsp
      exact ⟨v, σ', H', J'.ofTry ok, r, q⟩
end
end Hf
end

section
set_option Elab.async false
set_option linter.all false
set_option maxRecDepth 100000
set_option maxHeartbeats 4000000
/-! HfS15: raise, try, isinstance of a caught error, join, dict displays by trees. -/
namespace Hf
open PySem PySem.Spec PyProof.Rows L2
/-! ### the caught errors known -/
def D.at (d : D) (p : List (Addr × Nat)) : D := { d with pn := p }
section
variable {d : D} {p : List (Addr × Nat)} {G : Gh}
mutual
theorem RepV.at : ∀ (t : T) {v : V}, RepV d G t v → RepV (d.at p) G t v
  | .non, _, r => r
  | .bl _, _, r => r
  | .int _, _, r => r
  | .str _, _, r => r
  | .tup xs, _, ⟨a, vs, e, q, z, r⟩ => ⟨a, vs, e, q, z, RepAll.at xs r⟩
  | .lst xs, _, ⟨a, vs, e, q, z, r⟩ => ⟨a, vs, e, q, z, RepAll.at xs r⟩
  | .dic kvs, _, ⟨a, vs, e, q, r⟩ => ⟨a, vs, e, q, RepKs.at kvs r⟩
  | .ref _, _, r => r
  | .fn _, _, r => r
  | .ins c fs, _, ⟨a, C, dx, ws, e, q, i, j, r⟩ => ⟨a, C, dx, ws, e, q, i, j, RepFs.at fs r⟩
theorem RepAll.at : ∀ (xs : List T) {vs : List V}, RepAll d G xs vs → RepAll (d.at p) G xs vs
  | [], [], r => r
  | _ :: _, [], r => r
  | [], _ :: _, r => r
  | x :: xs, _ :: _, r => ⟨RepV.at x r.1, RepAll.at xs r.2⟩
theorem RepKs.at : ∀ (xs : List (T × T)) {vs : List V}, RepKs d G xs vs → RepKs (d.at p) G xs vs
  | [], [], r => r
  | _ :: _, [], r => r
  | [], _ :: _, r => r
  | (_, x) :: xs, _ :: _, r => ⟨RepV.at x r.1, RepKs.at xs r.2⟩
theorem RepFs.at : ∀ (xs : List (Nat × T)) {vs : List (PySem.Str × V)}, RepFs d G xs vs → RepFs (d.at p) G xs vs
  | [], [], r => r
  | _ :: _, [], r => r
  | [], _ :: _, r => r
  | (_, x) :: xs, (_, _) :: _, r => ⟨r.1, RepV.at x r.2.1, RepFs.at xs r.2.2⟩
end
theorem RepS.at {S : Store} {H : Hp} (R : RepS d G S H) : RepS (d.at p) G S H :=
  ⟨R.imm, R.len, fun n xs e => let ⟨a, vs, h1, h2, z, h3⟩ := R.cell n xs e; ⟨a, vs, h1, h2, z, RepAll.at xs h3⟩, R.inj, R.off⟩
theorem RepE.at {r : Env} {σ : L2.St} {H : Hp} (E : RepE d G r σ H) (h : ∀ (i : Nat) c, r[i]? = some (Slot.exc c) → ∃ a, σ[i]? = some (some (V.ref a)) ∧ (a, c) ∈ p) : RepE (d.at p) G r σ H :=
  ⟨E.len, fun i t e => let ⟨v, h1, h2⟩ := E.slot i t e; ⟨v, h1, RepV.at t h2⟩, fun i xs e => let ⟨a, vs, h1, h2, z, h3, h4, h5⟩ := E.own i xs e; ⟨a, vs, h1, h2, z, RepAll.at xs h3, h4, h5⟩, E.apart,
    fun i c fs e => let ⟨a, C, dx, ws, h1, h2, h3, h4, h5, h6⟩ := E.inst i c fs e; ⟨a, C, dx, ws, h1, h2, h3, h4, RepFs.at fs h5, h6⟩, h⟩
theorem RepV.back {q : List (Addr × Nat)} {t : T} {v : V} (h : RepV (d.at q) G t v) : RepV d G t v := RepV.at (d := d.at q) (p := d.pn) t h
theorem RepS.back {q : List (Addr × Nat)} {S : Store} {H : Hp} (R : RepS (d.at q) G S H) : RepS d G S H := RepS.at (d := d.at q) (p := d.pn) R
theorem RepE.back {q : List (Addr × Nat)} {r : Env} {σ : L2.St} {H : Hp} (E : RepE (d.at q) G r σ H) (h : ∀ (i : Nat) c, r[i]? = some (Slot.exc c) → ∃ a, σ[i]? = some (some (V.ref a)) ∧ (a, c) ∈ d.pn) : RepE d G r σ H := RepE.at (d := d.at q) (p := d.pn) E h
theorem noExc_no : ∀ {r : Env} {i c : Nat}, noExc r = true → r[i]? = some (.exc c) → False
  | [], _, _, _, e => by simp at e
  | s :: r, 0, c, h, e => by
    simp at e; subst e
    simp [noExc] at h
  | s :: r, i + 1, c, h, e => by
    have e' : r[i]? = some (.exc c) := by simpa using e
    refine noExc_no (r := r) ?_ e'
    cases s <;> simp [noExc] at h <;> exact h
theorem RepE.putExc {r : Env} {σ : L2.St} {H : Hp} (E : RepE d G r σ H) (hp : d.pn = []) {i : Nat} {a : Addr} {c : Nat} : RepE (d.at [(a, c)]) G (r.set i (.exc c)) (σ.set i (some (.ref a))) H := by
  have noE : ∀ {j c'}, r[j]? = some (Slot.exc c') → False := fun {j c'} e => by
    obtain ⟨b, _, h⟩ := E.exc j c' e
    rw [hp] at h; cases h
  have nov : ∀ {j : Nat} {sl : Slot}, (∀ t, sl ≠ .exc t) → (r.set i (.exc c))[j]? = some sl → j ≠ i ∧ r[j]? = some sl := fun {j sl} hn e => by
    rcases get_set e with ⟨_, e1, _⟩ | q
    · exact absurd e1.symm (hn _)
    · exact q
  refine ⟨by rw [List.length_set, List.length_set]; exact E.len, fun j t e => ?_, fun j ys e => ?_, fun j k ys zs b e1 e2 e3 e4 => ?_, fun j c' fs e => ?_, fun j c' e => ?_⟩
  · obtain ⟨hn, e⟩ := nov (by intro _ z; cases z) e
    rw [List.getElem?_set_ne (Ne.symm hn)]
    obtain ⟨v, h1, h2⟩ := E.slot j t e
    exact ⟨v, h1, RepV.at t h2⟩
  · obtain ⟨hn, e⟩ := nov (by intro _ z; cases z) e
    rw [List.getElem?_set_ne (Ne.symm hn)]
    obtain ⟨b, vs, h1, h2, z, h3, h4⟩ := E.own j ys e
    exact ⟨b, vs, h1, h2, z, RepAll.at ys h3, h4⟩
  · obtain ⟨hn, e1⟩ := nov (by intro _ z; cases z) e1
    obtain ⟨hm, e2⟩ := nov (by intro _ z; cases z) e2
    rw [List.getElem?_set_ne (Ne.symm hn)] at e3
    rw [List.getElem?_set_ne (Ne.symm hm)] at e4
    exact E.apart j k ys zs b e1 e2 e3 e4
  · obtain ⟨hn, e⟩ := nov (by intro _ z; cases z) e
    rw [List.getElem?_set_ne (Ne.symm hn)]
    obtain ⟨b, C, dx, ws, h1, h2, h3, h4, h5, h6⟩ := E.inst j c' fs e
    exact ⟨b, C, dx, ws, h1, h2, h3, h4, RepFs.at fs h5, h6⟩
  · rcases get_set e with ⟨rfl, e1, hl⟩ | ⟨hn, e⟩
    · cases e1
      exact ⟨a, List.getElem?_set_self (by rw [← E.len]; exact hl), List.mem_singleton.mpr rfl⟩
    · exact (noE e).elim
end
/-! ### raise -/
section
variable {X : Cx} {d : D} {W : WX} {pos : Pos}
theorem s_raise {e : Expr} {c : Nat} {C : Addr} (hc : X.calm = true) (tk : Takes X W) (hx : d.xa c = some C) (he : PMk X e (fun _ H Q => Q (.ref C) none H)) : PS X (.Raise (some e) none pos) (tS d W fun r S => .exn c r S) :=
  PS_imp (ps_raise hc tk he) fun D σ H ⟨Gb, G0, H0, G, r, S, s0, R, E, O, q⟩ => q C G σ H hx s0 R E O
/-! ### try -/
abbrev HdM := Nat × Option Nat × (Env → Store → SRes)
def hdlM (sub : Nat → Nat → Bool) : List HdM → Nat → Env → Store → SRes
  | [], e, r, S => .exn e r S
  | (c, none, m) :: l, e, r, S => if sub e c = true then (m r S).hot else hdlM sub l e r S
  | (c, some i, m) :: l, e, r, S => if sub e c = true then (m (r.set i (.exc e)) S).drop i else hdlM sub l e r S
def tryM (sub : Nat → Nat → Bool) (mb : Env → Store → SRes) (l : List HdM) : Env → Store → SRes := fun r S => match mb r S with
  | .exn e r' S' => hdlM sub l e r' S'
  | x => x
/-- a clause's class: what the layer says of it -/
def ClsX (X : Cx) (d : D) (sub : Nat → Nat → Bool) (x : PySem.Str) (c : Nat) (cv : Value) : Prop := Names X x cv ∧ ∀ e C, d.xa e = some C → PySem.W.exmOne X.K (.ref C) cv = some (sub e c)
inductive HdsT (X : Cx) (d : D) (sub : Nat → Nat → Bool) : List ExceptHandler → List HdM → Prop
  | nil : HdsT X d sub [] []
  | plain {x : PySem.Str} {c : Nat} {cv : Value} {m : Env → Store → SRes} {b₀ : Stmt} {suite : List Stmt} {np pos' : Pos} {hds : List ExceptHandler} {l : List HdM} (hc : ClsX X d sub x c cv)
      (hsu : ∀ (a : Addr) (oe : Obj) (e : Nat) (C : Addr) (pn : List (Addr × Obj)), d.xa e = some C → Zc (.ref C) none oe → (∃ vs, oe.data = .fields vs) → PSs (X.suite a ((a, oe) :: pn)) (b₀ :: suite) (tS (d.at [(a, e)]) W0 m)) (r : HdsT X d sub hds l) :
      HdsT X d sub (.ExceptHandler (some (.Name x np)) none (b₀ :: suite) pos' :: hds) ((c, none, m) :: l)
  | named {x n : PySem.Str} {i c : Nat} {cv : Value} {m : Env → Store → SRes} {b₀ : Stmt} {suite : List Stmt} {np pos' : Pos} {hds : List ExceptHandler} {l : List HdM} (hi : X.N[i]? = some n) (hln : X.env.kindOf n = some .local) (hc : ClsX X d sub x c cv)
      (hsu : ∀ (a : Addr) (oe : Obj) (e : Nat) (C : Addr) (pn : List (Addr × Obj)), d.xa e = some C → Zc (.ref C) none oe → (∃ vs, oe.data = .fields vs) → PSs (X.suite a ((a, oe) :: pn)) (b₀ :: suite) (tS (d.at [(a, e)]) W0 m)) (r : HdsT X d sub hds l) :
      HdsT X d sub (.ExceptHandler (some (.Name x np)) (some n) (b₀ :: suite) pos' :: hds) ((c, some i, m) :: l)
theorem pss_ex {ι : Type} {P : ι → Prop} {sts : List Stmt} {t : ι → TS} (h : ∀ i, P i → PSs X sts (t i)) : PSs X sts (fun D σ H => ∃ i, P i ∧ t i D σ H) := ⟨fun pins s σ H D I ⟨i, hp, q⟩ => (h i hp).run pins s σ H D I q⟩
def tsOf (d : D) (m : Env → Store → SRes) (a : Addr) (cls : Value) (dd : Option Addr) : TS := fun D σ H => ∃ p : Nat × Addr, (d.xa p.1 = some p.2 ∧ cls = .ref p.2 ∧ dd = none) ∧ tS (d.at [(a, p.1)]) W0 m D σ H
theorem hds_of {sub : Nat → Nat → Bool} {hds : List ExceptHandler} {l : List HdM} (h : HdsT X d sub hds l) : ∃ cl : List Clause, HdsA X hds cl ∧ (d.pn = [] → ∀ {D : Ends} {Gb G0 : Gh} {H0 : Hp} {e : Nat} {r : Env} {S : Store} {C : Addr} {G : Gh} {σ : L2.St} {H : Hp},
    PostS d W Gb G0 H0 D (hdlM sub l e r S) → d.xa e = some C → Stp Gb G0 G H0 H → RepS d G S H → RepE d G r σ H → RepO H0 r σ → wManyA X.K W D cl (.ref C) none σ H) := by
  induction h with
  | nil => exact ⟨[], .nil, fun _ {D Gb G0 H0 e r S C G σ H} q hx s R E O => q C G σ H hx s R E O⟩
  | @plain x c cv m b₀ suite np pos' hds l hc hsu r ih =>
    obtain ⟨cl, h1, h2⟩ := ih
    refine ⟨(cv, none, tsOf d m) :: cl, .plain hc.1 (fun a oe cls dd pn hz hf => pss_ex fun p hp => ?_) h1, fun hp {D Gb G0 H0 e r S C G σ H} q hx s R E O => ⟨sub e c, hc.2 e C hx, fun hb a _ => ?_, fun hb => ?_⟩⟩
    · obtain ⟨k1, rfl, rfl⟩ := hp
      exact hsu a oe p.1 p.2 pn k1 hz hf
    · have q' : PostS d W Gb G0 H0 D (m r S).hot := by
        unfold hdlM at q
        rw [if_pos hb] at q; exact q
      refine ⟨(e, C), ⟨hx, rfl, rfl⟩, Gb, G0, H0, G, r, S, s, R.at, E.at fun i c' e1 => ?_, O, ?_⟩
      · obtain ⟨b, _, h⟩ := E.exc i c' e1
        rw [hp] at h; cases h
      · cases em : m r S with
        | bad => rw [em] at q'; exact q'.elim
        | exn c' r' S' => rw [em] at q'; exact q'.elim
        | ret t S' => rw [em] at q'; exact fun G' v H' s' R' rv => q' G' v H' s' R'.back rv.back
        | nx r' S' =>
          rw [em] at q'
          have q' : PostS d W Gb G0 H0 D (if noExc r' = true then .nx r' S' else .bad) := q'
          split at q' <;> try exact q'.elim
          rename_i hn
          exact fun G' σ' H' s' R' E' O' => q' G' σ' H' s' R'.back (RepE.back E' fun i c' e1 => (noExc_no hn e1).elim) O'
        | brk r' S' =>
          rw [em] at q'
          have q' : PostS d W Gb G0 H0 D (if noExc r' = true then .brk r' S' else .bad) := q'
          split at q' <;> try exact q'.elim
          rename_i hn
          exact fun G' σ' H' s' R' E' O' => q' G' σ' H' s' R'.back (RepE.back E' fun i c' e1 => (noExc_no hn e1).elim) O'
        | cnt r' S' =>
          rw [em] at q'
          have q' : PostS d W Gb G0 H0 D (if noExc r' = true then .cnt r' S' else .bad) := q'
          split at q' <;> try exact q'.elim
          rename_i hn
          exact fun G' σ' H' s' R' E' O' => q' G' σ' H' s' R'.back (RepE.back E' fun i c' e1 => (noExc_no hn e1).elim) O'
    · refine h2 hp ?_ hx s R E O
      unfold hdlM at q
      rw [if_neg (by rw [hb]; exact Bool.false_ne_true)] at q; exact q
  | @named x n i c cv m b₀ suite np pos' hds l hi hln hc hsu r ih =>
    obtain ⟨cl, h1, h2⟩ := ih
    refine ⟨(cv, some i, tsOf d m) :: cl, .named hi hln hc.1 (fun a oe cls dd pn hz hf => pss_ex fun p hp => ?_) h1, fun hp {D Gb G0 H0 e r S C G σ H} q hx s R E O => ⟨sub e c, hc.2 e C hx, fun hb a _ => ?_, fun hb => ?_⟩⟩
    · obtain ⟨k1, rfl, rfl⟩ := hp
      exact hsu a oe p.1 p.2 pn k1 hz hf
    · have q' : PostS d W Gb G0 H0 D ((m (r.set i (.exc e)) S).drop i) := by
        unfold hdlM at q
        rw [if_pos hb] at q; exact q
      refine ⟨(e, C), ⟨hx, rfl, rfl⟩, Gb, G0, H0, G, r.set i (.exc e), S, s, R.at, E.putExc hp, O.put ⟨fun _ z => (nomatch z), fun _ _ z => (nomatch z)⟩, ?_⟩
      cases em : m (r.set i (.exc e)) S with
        | bad => rw [em] at q'; exact q'.elim
        | exn c' r' S' => rw [em] at q'; exact q'.elim
        | ret t S' => rw [em] at q'; exact fun G' v H' s' R' rv => q' G' v H' s' R'.back rv.back
        | nx r' S' =>
          rw [em] at q'
          have q' : PostS d W Gb G0 H0 D (if noExc (r'.set i .no) = true then .nx (r'.set i .no) S' else .bad) := q'
          split at q' <;> try exact q'.elim
          rename_i hn
          exact fun G' σ' H' s' R' E' O' => q' G' _ H' s' R'.back (RepE.back (E'.put (i := i) (o := none) (.inl rfl)) fun i c' e1 => (noExc_no hn e1).elim) (O'.put ⟨fun _ z => (nomatch z), fun _ _ z => (nomatch z)⟩)
        | brk r' S' =>
          rw [em] at q'
          have q' : PostS d W Gb G0 H0 D (if noExc (r'.set i .no) = true then .brk (r'.set i .no) S' else .bad) := q'
          split at q' <;> try exact q'.elim
          rename_i hn
          exact fun G' σ' H' s' R' E' O' => q' G' _ H' s' R'.back (RepE.back (E'.put (i := i) (o := none) (.inl rfl)) fun i c' e1 => (noExc_no hn e1).elim) (O'.put ⟨fun _ z => (nomatch z), fun _ _ z => (nomatch z)⟩)
        | cnt r' S' =>
          rw [em] at q'
          have q' : PostS d W Gb G0 H0 D (if noExc (r'.set i .no) = true then .cnt (r'.set i .no) S' else .bad) := q'
          split at q' <;> try exact q'.elim
          rename_i hn
          exact fun G' σ' H' s' R' E' O' => q' G' _ H' s' R'.back (RepE.back (E'.put (i := i) (o := none) (.inl rfl)) fun i c' e1 => (noExc_no hn e1).elim) (O'.put ⟨fun _ z => (nomatch z), fun _ _ z => (nomatch z)⟩)
    · refine h2 hp ?_ hx s R E O
      unfold hdlM at q
      rw [if_neg (by rw [hb]; exact Bool.false_ne_true)] at q; exact q
theorem s_try {sub : Nat → Nat → Bool} {body : List Stmt} {h₀ : ExceptHandler} {hds : List ExceptHandler} {l : List HdM} {mb : Env → Store → SRes} (hs : X.stack = X.env :: X.outer) (hf : X.env.frame = some X.env.locals) (hN : X.N.Nodup) (tk : Takes X W) (hp : d.pn = [])
    (hb : ∀ (W : WX) (pn : List (Addr × Obj)) (xe : Value → Shared → Prop), Takes (X.tr pn xe) W → PassesOwn (model X.prog X.w) X.A X.env xe → PSs (X.tr pn xe) body (tS d W mb))
    (hh : HdsT X d sub (h₀ :: hds) l) : PS X (.Try body (h₀ :: hds) [] [] pos) (tS d W (tryM sub mb l)) := by
  obtain ⟨cl, h1, h2⟩ := hds_of (W := W) hh
  refine PS_imp (ps_tryA hs hf hN tk (tb := fun W => tS d W mb) hb h1) fun D σ H ⟨Gb, G0, H0, G, r, S, s0, R, E, O, q⟩ => ⟨Gb, G0, H0, G, r, S, s0, R, E, O, ?_⟩
  unfold tryM at q
  cases em : mb r S with
  | exn e r' S' =>
    rw [em] at q
    exact fun C G' σ' H' hx s' R' E' O' => h2 hp q hx s' R' E' O'
  | bad => rw [em] at q; exact q.elim
  | ret t S' => rw [em] at q; exact q
  | nx r' S' => rw [em] at q; exact q
  | brk r' S' => rw [em] at q; exact q
  | cnt r' S' => rw [em] at q; exact q
/-! ### isinstance of a caught error -/
def isxM (sub : Nat → Nat → Bool) (i c : Nat) : Env → Store → Res T := fun r S => match r[i]? with
  | some (.exc e) => .ok (.bl (sub e c)) S
  | _ => .bad
/-- what isinstance says of the errors that are held -/
def IsxOk (X : Cx) (d : D) (sub : Nat → Nat → Bool) (c : Nat) (C : Addr) : Prop := ∀ a e, (a, e) ∈ d.pn → ∃ E, d.xa e = some E ∧ CallR X (.builtin "isinstance") (rIsE X.K E a) ∧ PySem.W.kitOne X.K (.ref E) (.ref C) = some (sub e c)
theorem s_isx {sub : Nat → Nat → Bool} {i c : Nat} {C : Addr} {x y : PySem.Str} {p p1 p2 : Pos} (h : IsxOk X d sub c C) (hN : X.N[i]? = some x) (hv : Vis X.env.scope x) (hd : (x == ("__debug__" : PySem.Str)) = false) (hcd : (x == ("__classdict__" : PySem.Str)) = false)
    (hgy : Gl X y) (hmy : X.mg y = some (.ref C)) (hyd : (y == ("__debug__" : PySem.Str)) = false) (hg : Gl X "isinstance") (hm : X.mg "isinstance" = none) : PE X (.Call (.Name "isinstance" p) [.Name x p1, .Name y p2] [] pos) (tE d W (isxM sub i c)) := by
  refine ⟨fun pins s σ H Q I ⟨G, r, S, RS, RE, q⟩ => ?_⟩
  unfold isxM at q
  cases er : r[i]? with
  | none => rw [er] at q; exact q.elim
  | some sl =>
    cases sl with
    | exc e =>
      rw [er] at q
      obtain ⟨a, hs, hm'⟩ := RE.exc i e er
      obtain ⟨D0, hx, hcall, hk⟩ := h a e hm'
      have pe := pe_callB (p := p) (pos := pos) hcall hg hm PyProof.Rows.boot_isinstance (pa_cons (pe_var (pos := p1) hN hv hd hcd) (pa_cons (pe_glob (pos := p2) (v := .ref C) hgy hmy rfl hyd) pa_nil rfl) rfl) (by decide) (by decide) rfl rfl
      exact pe.run pins s σ H Q I ⟨.ref a, hs, .ref C, .ref C, sub e c, rfl, fun u hu => hu, hk, q G _ H (Step.refl _ _) RS rfl⟩
    | _ => rw [er] at q; exact q.elim
/-! ### a dict of written texts and constants -/
theorem dlookV_none : ∀ {ks : List (List Nat)} {vs : List V} {z : List Nat}, z ∉ ks → dlookV (ks.map T.str) vs z = none
  | [], [], _, _ => rfl
  | [], _ :: _, _, _ => rfl
  | _ :: _, [], _, _ => rfl
  | k :: ks, v :: vs, z, h => by
    have h1 : k ≠ z := fun e => h (by rw [e]; exact List.mem_cons_self)
    show (if k = z then some v else dlookV (ks.map T.str) vs z) = none
    rw [if_neg h1]
    exact dlookV_none fun m => h (List.mem_cons_of_mem _ m)
theorem skInj {a b : List Nat} (h : sk a = sk b) : a = b := by
  have := congrArg (fun s : PySem.Str => s.cps.toList) h
  simpa [sk] using this
abbrev kvT (p : List Nat × V) : Key × V := (Sum.inr (sk p.1), p.2)
theorem mergeT : ∀ (ps acc : List (List Nat × V)), ((acc ++ ps).map (·.1)).Nodup → mergeK (acc.map kvT) (ps.map kvT) = (acc ++ ps).map kvT
  | [], acc, _ => by simp [mergeK]
  | p :: ps, acc, h => by
    have hn : ((acc.map kvT).any fun kv => decide (kv.1 = (Sum.inr (sk p.1) : Key))) = false := by
      rw [List.any_eq_false]
      intro kv hkv
      obtain ⟨q, hq, rfl⟩ := List.mem_map.mp hkv
      rw [decide_eq_true_eq]
      intro e
      have e1 : q.1 = p.1 := skInj (Sum.inr.inj e)
      rw [List.map_append, List.map_cons] at h
      have := (List.nodup_append.mp h).2.2 q.1 (List.mem_map_of_mem hq) p.1 List.mem_cons_self
      exact this e1
    have e2 : putK (acc.map kvT) (Sum.inr (sk p.1) : Key) p.2 = (acc ++ [p]).map kvT := by
      unfold putK
      rw [hn, if_neg Bool.false_ne_true]
      simp
    show mergeK (putK (acc.map kvT) (Sum.inr (sk p.1) : Key) p.2) (ps.map kvT) = _
    rw [e2, mergeT ps (acc ++ [p]) (by simpa using h)]
    simp
theorem valT : ∀ (ks : List (List Nat)) (vs : List V) (z : List Nat), ks.length = vs.length → valV ((ks.zip vs).map kvT) (Sum.inr (sk z) : Key) = dlookV (ks.map T.str) vs z
  | [], [], _, _ => rfl
  | [], _ :: _, _, h => by simp at h
  | _ :: _, [], _, h => by simp at h
  | k :: ks, v :: vs, z, h => by
    show valV (kvT (k, v) :: (ks.zip vs).map kvT) _ = (if k = z then some v else dlookV (ks.map T.str) vs z)
    by_cases e : k = z
    · subst e
      rw [if_pos rfl, valV_pos rfl]
    · rw [if_neg e, valV_neg (fun q => e (skInj (Sum.inr.inj q)))]
      exact valT ks vs z (by simpa using h)
theorem tPairs_const : ∀ {trs : List (TE × TE)} {ps : List (V × V)} {σ : L2.St} {H : Hp} {Q : List (V × V) → Hp → Prop}, trs = ps.map (fun p => (tC p.1, tC p.2)) → Q ps H → tPairs trs σ H Q
  | [], [], _, _, _, _, q => q
  | [], _ :: _, _, _, _, e, _ => by simp at e
  | _ :: _, [], _, _, _, e, _ => by simp at e
  | t :: trs, p :: ps, σ, H, Q, e, q => by
    rw [List.map_cons] at e
    injection e with e1 e2
    subst e1
    show tPairs trs σ H fun ps' H3 => Q ((p.1, p.2) :: ps') H3
    exact tPairs_const (ps := ps) e2 q
theorem s_dict {keys : List (Option Expr)} {values : List Expr} {ks : List (List Nat)} {ts : List T} {vs : List V} (h : PPs X pos keys values ((ks.zip vs).map fun p => (tC (.str (sk p.1)), tC p.2))) (hall : keys.all (·.isSome) = true) (hl : keys.length = values.length) (h0 : keys ≠ []) (h15 : keys.length ≤ 15)
    (hk : ks.length = vs.length) (hk15 : ks.length ≤ 15) (hnd : ks.Nodup) (hr : ∀ G, RepAll d G ts vs) (hlen : ks.length = ts.length) : PE X (.Dict keys values pos) (tE d W fun _ S => .ok (.dic ((ks.map T.str).zip ts)) S) := by
  refine PE_imp (pe_disp h hall hl h0 h15) fun σ H Q ⟨G, r, S, RS, RE, q⟩ p hp => ?_
  refine tPairs_const (ps := (ks.zip vs).map fun p => (V.str (sk p.1), p.2)) (by simp) ⟨upd_same, (ks.zip vs).map kvT, ?_, ?_, ?_⟩
  · rw [List.map_map]; rfl
  · rw [List.length_map, List.length_zip]; omega
  · have em : mergeK [] ((ks.zip vs).map kvT) = (ks.zip vs).map kvT := by
      have hz : ((ks.zip vs).map (·.1)) = ks := List.map_fst_zip (by omega)
      have := mergeT (ks.zip vs) [] (by rw [List.nil_append, hz]; exact hnd)
      simpa using this
    rw [em]
    have eu : upd (upd H p (.dK [])) p (.dK ((ks.zip vs).map kvT)) = upd H p (.dK ((ks.zip vs).map kvT)) := by
      funext b
      by_cases hb : b = p
      · rw [hb, upd_same, upd_same]
      · rw [upd_ne hb, upd_ne hb, upd_ne hb]
    rw [eu]
    have st : Step G (G.add p (.dK ((ks.zip vs).map kvT))) H (upd H p (.dK ((ks.zip vs).map kvT))) := Step.add RS hp
    refine q _ (.ref p) _ st (RS.add hp) ⟨p, vs, rfl, .inl ⟨_, upd_same, fun z => ?_⟩, ?_⟩
    · have e1 : ((ks.map T.str).zip ts).map (·.1) = ks.map T.str := List.map_fst_zip (by rw [List.length_map]; omega)
      rw [e1]
      exact valT ks vs z hk
    · have key : ∀ (ks : List T) (ts : List T) (vs : List V), ks.length = ts.length → RepAll d (G.add p (.dK ((ks.zip vs).map fun p => kvT ([], p.2)))) ts vs → True := fun _ _ _ _ _ => trivial
      have go : ∀ (G' : Gh) (ks : List (List Nat)) (ts : List T) (vs : List V), ks.length = ts.length → RepAll d G' ts vs → RepKs d G' ((ks.map T.str).zip ts) vs := by
        intro G' ks
        induction ks with
        | nil =>
          intro ts vs hl r
          cases ts with
          | cons _ _ => simp at hl
          | nil => cases vs with
            | nil => trivial
            | cons _ _ => exact r.elim
        | cons k ks ih =>
          intro ts vs hl r
          cases ts with
          | nil => simp at hl
          | cons t ts => cases vs with
            | nil => exact r.elim
            | cons v vs => exact ⟨r.1, ih ts vs (by simpa using hl) r.2⟩
      exact go _ ks ts vs hlen (hr _)
end
end Hf
end

section
set_option Elab.async false
set_option linter.all false
set_option maxRecDepth 100000
set_option maxHeartbeats 4000000
/-! HfS16: built-ins by name, join; what the text must look like. -/
namespace Hf
open PySem PySem.Spec PyProof.Rows L2
/-! ### the text's shape -/
def noStar : Expr → Bool
  | .Starred _ _ => false
  | _ => true
theorem star_cons {e : Expr} (h : noStar e = true) (es : List Expr) (env : PySem.Env) : starEach (e :: es) env = (false, eval e env) :: starEach es env := by
  cases e <;> first | rfl | (simp [noStar] at h)
theorem star_none : ∀ (es : List Expr) (h : es.all noStar = true) (pos : Pos) (env : PySem.Env), (backTo pos (starEach es env)).any (·.1) = false
  | [], _, _, _ => rfl
  | e :: es, h, pos, env => by
    simp only [List.all_cons, Bool.and_eq_true] at h
    rw [star_cons h.1]
    show (false || (backTo pos (starEach es env)).any (·.1)) = false
    rw [star_none es h.2]; rfl
theorem few_of {e : Expr} (h : noStar e = true) (env : PySem.Env) (cpos : Pos) : Few e env cpos := by
  unfold Few
  rw [star_cons h]; rfl
def noSlice : Expr → Bool
  | .Slice _ _ _ _ => false
  | _ => true
theorem plain_ix {b : Expr} (h : noSlice b = true) : PlainIx b := fun o i => by cases b <;> first | rfl | (simp [noSlice] at h)
theorem plain_set {o k : Expr} {p : Pos} (h : noSlice k = true) : PlainSet o k p := fun env v => by cases k <;> first | rfl | (simp [noSlice] at h)
def noSet : Expr → Bool
  | .Set _ _ _ => false
  | _ => true
theorem no_marks {b : Expr} (h : noSet b = true) (op : CmpOp) : behindInMarks op b = false := by cases b <;> first | rfl | (simp [noSet] at h)
theorem no_last {b e : Expr} (h : noSet e = true) (o p : CmpOp) : lastMarks [o, p] [b, e] = false := no_marks h p
theorem no_fold {e : Expr} (h : noSet e = true) (env : PySem.Env) (x : Value) : foldedSetIterable e env x = pure x := by cases e <;> first | rfl | (simp [noSet] at h)
def noCall : Expr → Bool
  | .Call _ _ _ _ => false
  | _ => true
theorem no_base {o : Expr} (h : noCall o = true) (a : PySem.Str) (env : PySem.Env) (w : Sem Value) : attributeBase o a env w = w := by cases o <;> first | rfl | (simp [noCall] at h)
/-- a test that is a value -/
def isVal : Expr → Bool
  | .UnaryOp .Not _ _ => false
  | .BoolOp _ _ _ => false
  | .IfExp _ _ _ _ => false
  | .Compare _ _ _ _ => false
  | _ => true
theorem val_test {a : Expr} (h : Hf.isVal a = true) (env : PySem.Env) (whole : Sem Value) : isTrue a env whole = (do let v ← whole; standAt a.pos; holding [v] (truthy v)) := by
  cases a <;> first | rfl | (simp [Hf.isVal] at h; done) | (rename_i op x p; cases op <;> first | rfl | (simp [Hf.isVal] at h))
def noComp : Expr → Bool
  | .ListComp _ _ _ _ => false
  | .SetComp _ _ _ _ => false
  | .DictComp _ _ _ _ _ => false
  | _ => true
theorem no_swap {e : Expr} (h : noComp e = true) (t : Option Expr) (l : Nat) (env : PySem.Env) : swapsWith e t l env = pure false := by cases e <;> first | rfl | (simp [noComp] at h)
def noTup : Expr → Bool
  | .Tuple _ _ _ => false
  | _ => true
theorem no_pair {tg e : Expr} (h : noTup e = true) (env : PySem.Env) : swappedStores [tg] e env = pure none := by cases e <;> first | (cases tg <;> rfl) | (simp [noTup] at h)
def isName : Expr → Bool
  | .Name _ _ => true
  | _ => false
theorem name_pair {tg e : Expr} (h : isName tg = true) (env : PySem.Env) : swappedStores [tg] e env = pure none := by cases tg <;> first | rfl | (simp [isName] at h)
/-! ### built-ins -/
def Bi.nm : Bi → String
  | .len => "len" | .abs => "abs" | .int => "int" | .all => "all" | .any => "any" | .sum => "sum" | .max => "max" | .max2 => "max" | .min2 => "min" | .repr => "repr"
def biM (b : Bi) (k : Env → Store → Res (List T)) : Env → Store → Res T := fun r S => (k r S).bind fun xs S => Res.of (b.ev (xs.map (look S))) S
mutual
theorem py_nodict : ∀ t : T, t.py.hasDict = false
  | .non => rfl
  | .bl _ => rfl
  | .int _ => rfl
  | .str _ => rfl
  | .tup xs => pys_nodict xs
  | .lst xs => pys_nodict xs
  | .dic _ => rfl
  | .ref _ => rfl
  | .fn _ => rfl
  | .ins _ _ => rfl
theorem pys_nodict : ∀ xs : List T, PyData.hasDictAll (T.pys xs) = false
  | [] => rfl
  | x :: xs => by
    simp only [T.pys, PyData.hasDictAll, py_nodict x, pys_nodict xs]; rfl
end
section
variable {X : Cx} {d : D} {W : WX} {a b e : Expr} {es : List Expr} {pos p2 p apos : Pos} {ma mb : Env → Store → Res T} {k : Env → Store → Res (List T)}
def rRepr (K : PySem.W.Frag) : List V → Hp → VK → Prop := fun vs H Q => ∃ a t, vs = [.ref a] ∧ Dp K H (.ref a) t ∧ t.showable = true ∧ t.hasDict = false ∧ t.depth ≤ 60 ∧ t.shown.length ≤ sizeLine ∧ Q (.str t.shown) H
theorem call_reprT (hg : X.A.guards = some []) (hu : X.A.units + 64 < cLine) : CallR X (.builtin "repr") (rRepr X.K) := by
  intro pins s σ H vs us Q I r h
  obtain ⟨a, t, rfl, dp, h1, h2, h3, h4, q⟩ := h
  cases r with
  | cons ru rn =>
    cases rn
    cases ru
    obtain ⟨as, rd⟩ := Dp.reads I t (.ref a) (.ref a) dp rfl
    exact PySem.repr_of_reads' rd h1 (PyData.noDict_hsm h2) hg (by omega) (fun _ _ e => e) (fun h' u tk k => ⟨.str t.shown, H, I.kept (h' := h') (t' := tk) k, ⟨u, rfl⟩, q⟩) h4
theorem bi_repr (hK : d.K = X.K) : BiOk X d .repr (rRepr X.K) := by
  intro G S H xs vs t Q R rv e k
  obtain ⟨x, rfl⟩ : ∃ x, xs = [x] := by
    match xs, e with
    | [x], _ => exact ⟨x, rfl⟩
    | [], e => simp [Bi.ev] at e
    | _ :: _ :: _, e => simp [Bi.ev] at e
  have e : (if x.showable = true then some (T.str x.show) else none) = some t := e
  split at e <;> try contradiction
  rename_i h
  cases e
  unfold T.showable at h
  simp only [Bool.and_eq_true, decide_eq_true_eq] at h
  obtain ⟨⟨⟨⟨⟨h1, h2⟩, h3⟩, h4⟩, h5⟩, h6⟩ := h
  obtain ⟨v, rfl, r1⟩ := rd1 rfl rv
  have dp := rd_dp R h2 r1
  rw [hK] at dp
  have hv : ∃ a, v = .ref a := by
    cases x <;> simp only [T.seq] at h1 <;> try contradiction
    · obtain ⟨a, _, e, _⟩ := r1
      exact ⟨a, e⟩
    · obtain ⟨a, _, e, _⟩ := r1
      exact ⟨a, e⟩
  obtain ⟨a, rfl⟩ := hv
  have el : x.show.length = x.py.shown.length := by unfold T.show; simp [PySem.Str.length]
  have es : sk x.show = x.py.shown := by unfold T.show; simp [sk]
  refine ⟨a, x.py, rfl, dp, h3, py_nodict x, by rw [py_depth x h2]; exact h4, by rw [← el, ← lim_eq]; exact h5, k G _ H (Step.refl _ _) R ⟨by rw [es], by rw [← lim_eq]; exact h5, h6⟩⟩
theorem s_bi (b : Bi) (hgd : X.A.guards = some []) (hu : X.A.units + 64 < cLine) (hK : d.K = X.K) (hc : X.calm = true) (hg : Gl X (PySem.Str.ofString b.nm)) (hm : X.mg (PySem.Str.ofString b.nm) = none) (ha : PA X (e :: es) (tWs d W k))
    (he : starEach (e :: es) X.env = (false, eval e X.env) :: starEach es X.env) (hpl : (backTo pos (starEach es X.env)).any (·.1) = false) : PE X (.Call (.Name (PySem.Str.ofString b.nm) p) (e :: es) [] pos) (tE d W (biM b k)) := by
  cases b
  · exact s_biB call_len Bi.len.ev (bi_len (X := X) hK) hg hm (by decide +kernel) (by decide) (by decide) ha he hpl
  · exact s_biB call_abs Bi.abs.ev (bi_abs (X := X)) hg hm (by decide +kernel) (by decide) (by decide) ha he hpl
  · exact s_biT call_int1 Bi.int.ev (bi_int (X := X)) hg hm (by decide +kernel) (by decide) (by decide) ha he hpl
  · exact s_biB (cr_all hc) Bi.all.ev (bi_all (X := X)) hg hm (by decide +kernel) (by decide) (by decide) ha he hpl
  · exact s_biB (cr_any hc) Bi.any.ev (bi_any (X := X)) hg hm (by decide +kernel) (by decide) (by decide) ha he hpl
  · exact s_biB (cr_sum hc) Bi.sum.ev (bi_sum (X := X)) hg hm (by decide +kernel) (by decide) (by decide) ha he hpl
  · exact s_biB (cr_max hc) Bi.max.ev (bi_max (X := X)) hg hm (by decide +kernel) (by decide) (by decide) ha he hpl
  · exact s_biB (call_max2 hc) Bi.max2.ev (bi_max2 (X := X)) hg hm (by decide +kernel) (by decide) (by decide) ha he hpl
  · exact s_biB (call_min2 hc) Bi.min2.ev (bi_min2 (X := X)) hg hm (by decide +kernel) (by decide) (by decide) ha he hpl
  · exact s_biB (call_reprT hgd hu) Bi.repr.ev (bi_repr (X := X) hK) hg hm (by decide +kernel) (by decide) (by decide) ha he hpl
/-! ### ''.join -/
def joinM (ma : Env → Store → Res T) : Env → Store → Res T := fun r S => (ma r S).bind fun x S => match look S x with
    | .lst xs => (match joined xs with
      | some z => if z.length ≤ sizeLim then .ok (.str z) S else .bad
      | none => .bad)
    | _ => .bad
theorem joined_rep {G : Gh} : ∀ {xs : List T} {vs : List V} {z : List Nat}, RepAll d G xs vs → joined xs = some z → ∃ ys : List (List Nat), vs = (ys.map sk).map V.str ∧ z = ys.flatten ∧ (z.all fun c => decide (c < 0x110000)) = true
  | [], [], z, _, e => by cases e; exact ⟨[], rfl, rfl, rfl⟩
  | [], _ :: _, _, r, _ => r.elim
  | _ :: _, [], _, r, _ => r.elim
  | x :: xs, v :: vs, z, r, e => by
    cases x <;> simp only [joined] at e <;> try contradiction
    rename_i s
    obtain ⟨w, e1, rfl⟩ := Option.map_eq_some_iff.mp e
    obtain ⟨⟨rfl, _, h3⟩, r2⟩ := r
    obtain ⟨ys, rfl, rfl, h4⟩ := joined_rep r2 e1
    exact ⟨s :: ys, rfl, rfl, by rw [List.all_append, h3, h4]; rfl⟩
theorem joinL_nil : ∀ ys : List (List Nat), TL.joinL [] ys = ys.flatten
  | [] => rfl
  | [p] => by simp [TL.joinL]
  | p :: q :: r => by
    have := joinL_nil (q :: r)
    simp only [TL.joinL, List.nil_append]
    rw [this]; simp
theorem sum_len : ∀ ys : List (List Nat), ((ys.map sk).map (·.length)).sum = ys.flatten.length
  | [] => rfl
  | y :: ys => by
    have e : (sk y).length = y.length := by simp [PySem.Str.length]
    simp only [List.map_cons, List.sum_cons, List.flatten_cons, List.length_append, e]
    rw [sum_len ys]
theorem s_join {j : Nat} {cp : Pos} {q : PySem.Str} (hq : q = sk []) (ha : PE X a (tW d W ma)) (hst : starEach [a] X.env = [(false, eval a X.env)]) (hline : (apos.endLine == pos.line) = true) :
    PE X (.Call (.Attribute (.Constant (.str q) j cp) "join" apos) [a] [] pos) (tE d W (joinM ma)) := by
  subst hq
  refine PE_imp (pe_m1 F.slot_str_join F.type_str_join mt_join pe_str ha hst rfl hline) fun σ H Q ⟨G, r, S, RS, RE, q⟩ => ?_
  refine ⟨⟨_, rfl⟩, G, r, S, RS, RE, q.bind fun x S1 G1 v H1 s1 R1 rv q1 => ?_⟩
  have rd := rv.rd R1 (RE.step s1)
  revert q1 rd
  cases look S1 x <;> intro q1 rd <;> try exact q1.elim
  rename_i xs
  obtain ⟨l, vs, rfl, hl, z, ra⟩ := rd
  have q1 : Post d W σ (RV d r σ H) G1 H1 Q (match joined xs with
      | some z => if z.length ≤ sizeLim then .ok (.str z) S1 else .bad
      | none => .bad) := q1
  cases ej : joined xs with
  | none => rw [ej] at q1; exact q1.elim
  | some zz =>
    rw [ej] at q1
    have q1 : Post d W σ (RV d r σ H) G1 H1 Q (if zz.length ≤ sizeLim then .ok (.str zz) S1 else .bad) := q1
    split at q1 <;> try exact q1.elim
    rename_i hz
    obtain ⟨ys, rfl, rfl, h4⟩ := joined_rep ra ej
    have e1 : Txt.join (sk []) (ys.map sk) = sk ys.flatten := by
      have := SX.join_S [] ys
      rw [joinL_nil] at this
      exact this
    refine ⟨sk [], l, ys.map sk, rfl, rfl, .inl (.inl hl), ?_, ?_⟩
    · rw [sum_len]
      have : (sk []).length = 0 := rfl
      rw [this, Nat.mul_zero, Nat.add_zero]
      exact hz
    · rw [e1]
      exact q1 G1 _ H1 (Step.refl _ _) R1 ⟨rfl, by rw [← lim_eq]; exact hz, h4⟩
end
end Hf
end

section
set_option Elab.async false
set_option linter.all false
set_option maxRecDepth 100000
set_option maxHeartbeats 4000000
/-! HfS17: is this text this small syntax? the expressions. -/
namespace Hf
open PySem PySem.Spec PyProof.Rows L2
inductive Bnd where
  | fn (f np : Nat)
  | val (t : T)
  | exc (c : Nat)
/-- what is told of the global names -/
structure Gam where
  names : List (PySem.Str × Bnd)
  free : List PySem.Str
def glC (sc : Scope) (x : PySem.Str) : Bool := decide (sc.names.lookup x = some .globalImplicit) && !(x == ("__debug__" : PySem.Str)) && !(x == ("__classdict__" : PySem.Str))
def visC (sc : Scope) (x : PySem.Str) : Bool := (match sc.names.lookup x with
  | some .local => true
  | some .cell => true
  | some .free => true
  | _ => false) && !(x == ("__debug__" : PySem.Str)) && !(x == ("__classdict__" : PySem.Str))
def blt (Γ : Gam) (sc : Scope) (x : PySem.Str) : Bool := glC sc x && Γ.free.contains x
def constC (t : T) (e : Expr) : Bool := match e with
  | .Constant c _ _ => (match t with
    | .non => decide (c = .none)
    | .bl b => decide (c = .bool b)
    | .int i => decide (c = .int i)
    | .str s => decide (c = .str (sk s)) && decide (s.length ≤ 16777216) && s.all fun k => decide (k < 0x110000)
    | _ => false)
  | _ => false
def nameC (N : List PySem.Str) (sc : Scope) (i : Nat) (e : Expr) : Bool := match e with
  | .Name x _ => decide (N[i]? = some x) && visC sc x
  | _ => false
def Op2.ast : Op2 → Operator
  | .add => .Add | .sub => .Sub | .mul => .Mult | .mod => .Mod | .fdiv => .FloorDiv
def opC (o : Op2) (p : Operator) : Bool := decide (p = o.ast)
/-- a store of a name -/
def locC (N : List PySem.Str) (sc raw : Scope) (i : Nat) (e : Expr) : Bool := match e with
  | .Name x _ => decide (N[i]? = some x) && (match sc.names.lookup x with
    | some .local => true
    | some .cell => decide (raw.names.lookup x = some .cell)
    | _ => false)
  | _ => false
def locsC (N : List PySem.Str) (sc raw : Scope) : List Nat → List Expr → Bool
  | [], [] => true
  | i :: is, e :: es => locC N sc raw i e && locsC N sc raw is es
  | _, _ => false
def tgC (N : List PySem.Str) (sc raw : Scope) (tg : Tg) (e : Expr) : Bool := match tg with
  | .n i => locC N sc raw i e
  | .t is => (match e with
    | .Tuple es _ _ => locsC N sc raw is es
    | _ => false)
def ownOf (N : List PySem.Str) (tg : Tg) : List (PySem.Str × Nat) := tg.slots.map fun i => (N[i]?.getD "", i)
def isTupTg (e : Expr) : Bool := match e with
  | .Tuple _ _ _ => true
  | _ => false
def keysC : List T → List (Option Expr) → Bool
  | [], [] => true
  | .str s :: ks, some k :: es => constC (.str s) k && keysC ks es
  | _, _ => false
def valsC : List E → List Expr → Bool
  | [], [] => true
  | .k t :: ts, e :: es => constC t e && valsC ts es
  | _, _ => false
def keyNats : List T → List (List Nat)
  | .str s :: ks => s :: keyNats ks
  | _ => []
def chkT : Expr → Bool
  | .IfExp _ _ _ _ => false
  | _ => true
section
variable (Γ : Gam) (N : List PySem.Str)
mutual
def chkE : Option Bool → Bool → Scope → E → Expr → Bool
  | _, _, _, .k t, e => constC t e
  | _, _, sc, .v i, e => nameC N sc i e
  | _, _, sc, .g _ t, e => (match e with
    | .Name x _ => glC sc x && (match Γ.names.lookup x with
      | some (.val u) => T.beq t u
      | _ => false)
    | _ => false)
  | _, h, sc, .tup es, e => (match e with
    | .Tuple l _ _ => l.all noStar && decide (l.length ≤ 1000) && chkEs h sc es l
    | _ => false)
  | _, h, sc, .disp es, e => (match e with
    | .List l _ => l.all noStar && decide (l.length ≤ 1000) && chkEs h sc es l
    | _ => false)
  | _, h, sc, .comp elt tg it, e => (match e with
    | .ListComp el [⟨tgE, itE, [], 0⟩] scope _ => !h && noSet itE && chkE (some (isTupTg tgE)) false sc it itE && blkC N sc scope (ownOf N tg) && tgC N (relS scope sc) scope tg tgE && chkE none false (relS scope sc) elt el
    | _ => false)
  | _, h, sc, .compI elt tg it t, e => (match e with
    | .ListComp el [⟨tgE, itE, [c], 0⟩] scope _ => !h && noSet itE && chkE (some (isTupTg tgE)) false sc it itE && blkC N sc scope (ownOf N tg) && tgC N (relS scope sc) scope tg tgE && chkE none false (relS scope sc) elt el && chkT c && chkE none false (relS scope sc) t c
    | _ => false)
  | _, h, sc, .lof a, e => (match e with
    | .Call (.Name x _) [b] [] _ => decide (x = "list") && blt Γ sc x && noStar b && chkE none h sc a b
    | _ => false)
  | _, h, sc, .tof a, e => (match e with
    | .Call (.Name x _) [b] [] _ => decide (x = "tuple") && blt Γ sc x && noStar b && chkE none h sc a b
    | _ => false)
  | _, h, sc, .sorted a, e => (match e with
    | .Call (.Name x _) [b] [] _ => decide (x = "sorted") && blt Γ sc x && noStar b && chkE none h sc a b
    | _ => false)
  | _, h, sc, .lrng a, e => (match e with
    | .Call (.Name x _) [.Call (.Name y _) [b] [] _] [] _ => !h && decide (x = "list") && blt Γ sc x && decide (y = "range") && blt Γ sc y && noStar b && chkE none h sc a b
    | _ => false)
  | _, h, sc, .trng a, e => (match e with
    | .Call (.Name x _) [.Call (.Name y _) [b] [] _] [] _ => !h && decide (x = "tuple") && blt Γ sc x && decide (y = "range") && blt Γ sc y && noStar b && chkE none h sc a b
    | _ => false)
  | _, h, sc, .sub a i, e => (match e with
    | .Subscript b j _ => noSlice j && chkE none h sc a b && chkE none h sc i j
    | _ => false)
  | _, h, sc, .slice a l u, e => (match e with
    | .Subscript b (.Slice (some x) (some y) none _) _ => chkE none h sc a b && chkE none h sc l x && chkE none h sc u y
    | _ => false)
  | _, h, sc, .sliceL a l, e => (match e with
    | .Subscript b (.Slice (some x) none none _) _ => chkE none h sc a b && chkE none h sc l x
    | _ => false)
  | _, h, sc, .sliceR a u, e => (match e with
    | .Subscript b (.Slice none (some y) none _) _ => chkE none h sc a b && chkE none h sc u y
    | _ => false)
  | _, h, sc, .op o a b, e => (match e with
    | .BinOp x p y _ => opC o p && chkE none h sc a x && chkE none h sc b y
    | _ => false)
  | _, h, sc, .cat a b, e => (match e with
    | .BinOp x .Add y _ => chkE none h sc a x && chkE none h sc b y
    | _ => false)
  | _, h, sc, .rep a b, e => (match e with
    | .BinOp x .Mult y _ => chkE none h sc a x && chkE none h sc b y
    | _ => false)
  | _, h, sc, .neg a, e => (match e with
    | .UnaryOp .USub x _ => chkE none h sc a x
    | _ => false)
  | _, h, sc, .cmp c a b, e => (match e with
    | .Compare x [p] [y] _ => decide (p = c.ast) && noSet y && chkE none h sc a x && chkE none h sc b y
    | _ => false)
  | _, h, sc, .chain c c' a b z, e => (match e with
    | .Compare x [p, p'] [y, u] _ => decide (p = c.ast) && decide (p' = c'.ast) && noSet u && chkE none h sc a x && chkE none h sc b y && chkE none h sc z u
    | _ => false)
  | _, h, sc, .isK n a t, e => (match e with
    | .Compare x [p] [y] _ => decide (p = isAst n) && (kV' t).isSome && constC t y && chkE none h sc a x
    | _ => false)
  | _, h, sc, .and a b, e => (match e with
    | .BoolOp .And [x, y] _ => chkT x && chkT y && chkE none h sc a x && chkE none h sc b y
    | .BoolOp .And (x :: y :: z :: r) p => chkT x && chkE none h sc a x && chkE none h sc b (.BoolOp .And (y :: z :: r) p)
    | _ => false)
  | _, h, sc, .or a b, e => (match e with
    | .BoolOp .Or [x, y] _ => chkT x && chkT y && chkE none h sc a x && chkE none h sc b y
    | .BoolOp .Or (x :: y :: z :: r) p => chkT x && chkE none h sc a x && chkE none h sc b (.BoolOp .Or (y :: z :: r) p)
    | _ => false)
  | _, h, sc, .not a, e => (match e with
    | .UnaryOp .Not x _ => chkT x && chkE none h sc a x
    | _ => false)
  | _, h, sc, .ife c a b, e => (match e with
    | .IfExp t x y _ => chkT t && chkE none h sc c t && chkE none h sc a x && chkE none h sc b y
    | _ => false)
  | _, h, sc, .call f es, e => (match e with
    | .Call (.Name x _) l [] _ => !h && l.all noStar && glC sc x && (match Γ.names.lookup x with
      | some (.fn g np) => decide (g = f) && decide (np = es.length)
      | _ => false) && chkEs h sc es l
    | _ => false)
  | _, h, sc, .bi b es, e => (match e with
    | .Call (.Name x _) (y :: l) [] _ => !h && decide (x = PySem.Str.ofString b.nm) && blt Γ sc x && noStar y && l.all noStar && chkEs h sc es (y :: l)
    | _ => false)
  | _, h, sc, .isi a ty, e => (match e with
    | .Call (.Name x _) [y, .Name z _] [] _ => decide (x = "isinstance") && blt Γ sc x && noStar y && decide (z = PySem.Str.ofString ty.nm) && blt Γ sc z && chkE none h sc a y
    | _ => false)
  | _, h, sc, .isi2 a ty ty2, e => (match e with
    | .Call (.Name x _) [y, .Tuple [.Name z _, .Name u _] _ _] [] _ => decide (x = "isinstance") && blt Γ sc x && noStar y && decide (z = PySem.Str.ofString ty.nm) && blt Γ sc z && decide (u = PySem.Str.ofString ty2.nm) && blt Γ sc u && chkE none h sc a y
    | _ => false)
  | _, _, sc, .isx i c, e => (match e with
    | .Call (.Name x _) [y, .Name z _] [] _ => decide (x = "isinstance") && blt Γ sc x && nameC N sc i y && glC sc z && (match Γ.names.lookup z with
      | some (.exc c') => decide (c' = c)
      | _ => false)
    | _ => false)
  | _, h, sc, .cell a, e => (match a with
    | .disp _ => chkE none h sc a e
    | .comp _ _ _ => chkE none h sc a e
    | _ => false)
  | _, h, sc, .join a, e => (match e with
    | .Call (.Attribute (.Constant (.str q) _ _) m ap) [y] [] p => decide (q = sk []) && decide (m = "join") && noStar y && (ap.endLine == p.line) && chkE none h sc a y
    | _ => false)
  | _, _, _, .dict ks es, e => (match e with
    | .Dict keys values _ => keysC ks keys && valsC es values && decide (keys.length = values.length) && decide (0 < keys.length) && decide (keys.length ≤ 15) && decide (keyNats ks).Nodup
    | _ => false)
  | md, h, sc, .rng a, e => (match e with
    | .Call (.Name x _) [b] [] _ => md.isSome && decide (x = "range") && blt Γ sc x && noStar b && chkE none h sc a b
    | _ => false)
  | md, h, sc, .rng2 a b, e => (match e with
    | .Call (.Name x _) [y, z] [] _ => md.isSome && decide (x = "range") && blt Γ sc x && noStar y && noStar z && chkE none h sc a y && chkE none h sc b z
    | _ => false)
  | md, h, sc, .enum a, e => (match e with
    | .Call (.Name x _) [y] [] _ => decide (md = some true) && decide (x = "enumerate") && blt Γ sc x && noStar y && chkE none h sc a y
    | _ => false)
  | _, _, _, _, _ => false
def chkEs : Bool → Scope → List E → List Expr → Bool
  | _, _, [], [] => true
  | h, sc, e :: es, x :: xs => chkE none h sc e x && chkEs h sc es xs
  | _, _, _, _ => false
end
theorem chkE_k (md : Option Bool) (h : Bool) (sc : Scope) (t : T) (e : Expr) : chkE Γ N md h sc (.k t) e = constC t e := by simp only [chkE]
theorem chkEs_nil (h : Bool) (sc : Scope) : chkEs Γ N h sc [] [] = true := by simp only [chkEs]
end
end Hf
end

section
set_option Elab.async false
set_option linter.all false
set_option maxRecDepth 100000
set_option maxHeartbeats 4000000
/-! HfS18: the expressions keep what the evaluator says. -/
namespace Hf
open PySem PySem.Spec PyProof.Rows L2
/-- what the layer knows of an error's class, to raise it -/
def RaiseOk (X : Cx) (x : PySem.Str) (C : Addr) : Prop := ∃ (bmB : List Value) (B newId initId : String), ExcBaseFacts B newId initId bmB ∧ PySem.W.excIn X.K C bmB newId = true ∧ PySem.W.keepIn X.K (.ref C) = true ∧ Raises X (.ref C)
structure Ok (Γ : Gam) (N : List PySem.Str) (sub : Nat → Nat → Bool) (cf : Nat → List T → Store → Res T) (n : Nat) (hot : Bool) (sc : Scope) (X : Cx) (d : D) (W : WX) : Prop where
  hK : d.K = X.K
  hw : d.w = X.w
  hN : X.N = N
  nd : N.Nodup
  hsc : X.env.scope = sc
  un : X.A.units + 64 < cLine
  calm : hot = false → X.calm = true ∧ RoomG (2 * n + 1) X.A ∧ Takes X W ∧ d.pn = []
  val : ∀ x t, Γ.names.lookup x = some (.val t) → ∃ u v, X.mg x = some u ∧ RelV v u ∧ ∀ G, RepV d G t v
  fn : ∀ x f np, Γ.names.lookup x = some (.fn f np) → ∃ fa fd ps, X.mg x = some (.ref fa) ∧ d.fa f = some fa ∧ PySem.W.keepIn X.K (.ref fa) = true ∧ Binds X.K fd ps [] ∧ ps.length = np ∧ FnG X.prog X.w X.K X.mg X.base (2 * n) fa fd ps (spT d np (cf f))
  exc : ∀ x c, Γ.names.lookup x = some (.exc c) → ∃ C, d.xa c = some C ∧ X.mg x = some (.ref C) ∧ IsxOk X d sub c C ∧ RaiseOk X x C ∧ ∀ e E, d.xa e = some E → PySem.W.exmOne X.K (.ref E) (.ref C) = some (sub e c) ∧ PySem.W.kitOne X.K (.ref E) (.ref C) = some (sub e c)
  free : ∀ x, Γ.free.contains x = true → X.mg x = none
section
variable {Γ : Gam} {N : List PySem.Str} {sub : Nat → Nat → Bool} {cf : Nat → List T → Store → Res T} {n : Nat} {hot : Bool} {sc : Scope} {X : Cx} {d : D} {W : WX}
theorem Ok.gl (o : Ok Γ N sub cf n hot sc X d W) {x : PySem.Str} (h : glC sc x = true) : Gl X x ∧ (x == ("__debug__" : PySem.Str)) = false ∧ (x == ("__classdict__" : PySem.Str)) = false := by
  unfold glC at h
  simp only [Bool.and_eq_true, decide_eq_true_eq, Bool.not_eq_true'] at h
  refine ⟨?_, h.1.2, h.2⟩
  show X.env.scope.names.lookup x = _
  rw [o.hsc]; exact h.1.1
theorem Ok.blt (o : Ok Γ N sub cf n hot sc X d W) {x : PySem.Str} (h : Hf.blt Γ sc x = true) : Gl X x ∧ X.mg x = none := by
  unfold Hf.blt at h
  simp only [Bool.and_eq_true] at h
  exact ⟨(o.gl h.1).1, o.free x h.2⟩
theorem Ok.name (o : Ok Γ N sub cf n hot sc X d W) {i : Nat} {e : Expr} (h : nameC N sc i e = true) : ∃ x p, e = .Name x p ∧ X.N[i]? = some x ∧ Vis X.env.scope x ∧ (x == ("__debug__" : PySem.Str)) = false ∧ (x == ("__classdict__" : PySem.Str)) = false := by
  cases e <;> simp only [nameC] at h <;> try contradiction
  rename_i x p
  unfold visC at h
  simp only [Bool.and_eq_true, decide_eq_true_eq, Bool.not_eq_true'] at h
  obtain ⟨h1, ⟨h2, h3⟩, h4⟩ := h
  refine ⟨x, p, rfl, by rw [o.hN]; exact h1, ?_, h3, h4⟩
  unfold Vis
  rw [o.hsc]
  split at h2 <;> first | contradiction | simp_all
theorem Ok.loc (o : Ok Γ N sub cf n hot sc X d W) {i : Nat} {e : Expr} {raw : Scope} (h : locC N sc raw i e = true) : ∃ x p, e = .Name x p ∧ X.N[i]? = some x ∧ Loc X.env.scope x ∧ (X.env.scope.names.lookup x = some .local ∨ raw.names.lookup x = some .cell) := by
  cases e <;> simp only [locC] at h <;> try contradiction
  rename_i x p
  simp only [Bool.and_eq_true, decide_eq_true_eq] at h
  obtain ⟨h1, h2⟩ := h
  have hx : X.N[i]? = some x := by rw [o.hN]; exact h1
  split at h2 <;> try contradiction
  · rename_i hl
    have e1 : X.env.scope.names.lookup x = some .local := by rw [o.hsc]; exact hl
    exact ⟨x, p, rfl, hx, .inl e1, .inl e1⟩
  · rename_i hl
    have e1 : X.env.scope.names.lookup x = some .cell := by rw [o.hsc]; exact hl
    exact ⟨x, p, rfl, hx, .inr e1, .inr (of_decide_eq_true h2)⟩
/-- the context of a comprehension's block -/
theorem Ok.blk (o : Ok Γ N sub cf n false sc X d W) {s : Shared} {H : Hp} {scope : Scope} {C : Addr} {cl : List (PySem.Str × Addr)} {fp : List Addr} : Ok Γ N sub cf n false (relS scope sc) (X.blk s H scope (compEnvC scope cl C X.env) fp) d W0 := by
  obtain ⟨c1, c2, c3, c4⟩ := o.calm rfl
  refine ⟨o.hK, o.hw, o.hN, o.nd, ?_, o.un, fun _ => ⟨c1, c2, fun u s' ⟨_, _, _, _, _, _, _, _, _, _, _, _, _, _, _, _, w⟩ => w, c4⟩, o.val, o.fn, fun x c h => ?_, o.free⟩
  · show relabel scope X.env = relS scope sc
    rw [← o.hsc]; rfl
  · obtain ⟨C, h1, h2, h3, ⟨b1, b2, b3, b4, r1, r2, r3, r4⟩, h5⟩ := o.exc x c h
    exact ⟨C, h1, h2, (fun a e hm => absurd (c4 ▸ hm) (by simp)), ⟨b1, b2, b3, b4, r1, r2, r3, r4⟩, h5⟩
/-! ### constants -/
theorem const_of {t : T} {e : Expr} (h : constC t e = true) : ∃ v, PE X e (tC v) ∧ ∀ G, RepV d G t v := by
  cases e <;> simp only [constC] at h <;> try contradiction
  cases t <;> simp only [decide_eq_true_eq, Bool.and_eq_true] at h <;> try contradiction
  · subst h; exact ⟨_, pe_non, fun _ => rfl⟩
  · subst h; exact ⟨_, pe_bl, fun _ => rfl⟩
  · subst h; exact ⟨_, pe_int, fun _ => rfl⟩
  · obtain ⟨⟨rfl, h2⟩, h3⟩ := h
    exact ⟨_, pe_str, fun _ => ⟨rfl, by rw [sizeLine_eq]; exact h2, h3⟩⟩
/-! ### targets -/
theorem locs_of (o : Ok Γ N sub cf n hot sc X d W) {raw : Scope} (hf : ∀ x, raw.names.lookup x = some .cell → X.fn x = true) : ∀ {is : List Nat} {es : List Expr}, locsC N sc raw is es = true → PGs X es (gNames is) ∧ es.length = is.length ∧ es.all noStar = true
  | [], [], _ => ⟨pgs_nil, rfl, rfl⟩
  | [], _ :: _, h => by simp [locsC] at h
  | _ :: _, [], h => by simp [locsC] at h
  | i :: is, e :: es, h => by
    simp only [locsC, Bool.and_eq_true] at h
    obtain ⟨x, p, rfl, h1, h2, h3⟩ := o.loc h.1
    obtain ⟨k1, k2, k3⟩ := locs_of o hf h.2
    refine ⟨pgs_cons (pg_name (by rw [o.hN]; exact o.nd) h1 h2 ?_) k1, by simp [k2], by simp [k3, noStar]⟩
    rcases h3 with h3 | h3
    · exact .inr h3
    · exact .inl (hf x h3)
theorem assignEach_len : ∀ (es : List Expr) (env : PySem.Env), es.all noStar = true → (assignEach es env).length = es.length ∧ (assignEach es env).findIdx? (·.1) = none
  | [], _, _ => ⟨rfl, rfl⟩
  | e :: es, env, h => by
    simp only [List.all_cons, Bool.and_eq_true] at h
    obtain ⟨k1, k2⟩ := assignEach_len es env h.2
    have e1 : assignEach (e :: es) env = (false, assign e env) :: assignEach es env := by
      have := h.1
      cases e <;> first | rfl | (simp [noStar] at this)
    rw [e1]
    refine ⟨by simp [k1], ?_⟩
    rw [List.findIdx?_cons]
    simp [k2]
theorem tg_of (o : Ok Γ N sub cf n hot sc X d W) (hc : X.calm = true) {raw : Scope} (hf : ∀ x, raw.names.lookup x = some .cell → X.fn x = true) {tg : Tg} {e : Expr} (h : tgC N sc raw tg e = true) : PG X e (tBind X.K tg) := by
  cases tg with
  | n i =>
    obtain ⟨x, p, rfl, h1, h2, h3⟩ := o.loc h
    refine pg_name (by rw [o.hN]; exact o.nd) h1 h2 ?_
    rcases h3 with h3 | h3
    · exact .inr h3
    · exact .inl (hf x h3)
  | t is =>
    cases e <;> simp only [tgC] at h <;> try contradiction
    rename_i es k p
    obtain ⟨k1, k2, k3⟩ := locs_of o hf h
    obtain ⟨k4, k5⟩ := assignEach_len es X.env k3
    exact pg_tup hc k1 (by rw [k4, k2]) k5
end
end Hf
end

section
set_option Elab.async false
set_option linter.all false
set_option maxRecDepth 100000
set_option maxHeartbeats 4000000
/-! HfS19: the expressions keep what the evaluator says. -/
namespace Hf
open PySem PySem.Spec PyProof.Rows L2
def isIt : E → Bool
  | .rng _ => true
  | .rng2 _ _ => true
  | .enum _ => true
  | _ => false
def isNew : E → Bool
  | .disp _ => true
  | .comp _ _ _ => true
  | .compI _ _ _ _ => true
  | .lof _ => true
  | .lrng _ => true
  | .sorted _ => true
  | .cat _ _ => true
  | .rep _ _ => true
  | _ => false
def isBool : Expr → Bool
  | .BoolOp _ _ _ => true
  | _ => false
section
variable {Γ : Gam} {N : List PySem.Str} {P : Prog} {cf mk : Nat → List T → Store → Res T} {n : Nat} {hot : Bool} {sc : Scope} {X : Cx} {d : D} {W : WX} {md : Option Bool} {e : Expr} {e' : E}
structure Sound (P : Prog) (cf mk : Nat → List T → Store → Res T) (e' : E) (X : Cx) (d : D) (W : WX) (e : Expr) : Prop where
  ex : PE X e (tE d W fun r S => ev P cf mk r e' S)
  new : isNew e' = true → PE X e (tN d W fun r S => ev P cf mk r e' S)
  test : chkT e = true → PT X e (tBo d W fun r S => ev P cf mk r e' S)
  whole : isBool e = true → PW X e (tBo d W fun r S => ev P cf mk r e' S)
theorem Sound.val (h : PE X e (tE d W fun r S => ev P cf mk r e' S)) (hn : isNew e' = false) (hv : isVal e = true) : Sound P cf mk e' X d W e :=
  ⟨h, (fun z => absurd (hn ▸ z) (by simp)), fun _ => s_valT h (val_test hv _), (fun z => by cases e <;> first | (simp [isVal] at hv; done) | cases z)⟩
theorem Sound.ofNew (h : PE X e (tN d W fun r S => ev P cf mk r e' S)) (hv : isVal e = true) : Sound P cf mk e' X d W e :=
  ⟨s_ofNew h, fun _ => h, fun _ => s_valT (s_ofNew h) (val_test hv _), (fun z => by cases e <;> first | (simp [isVal] at hv; done) | cases z)⟩
theorem w_of (o : Ok Γ N P.sub cf n hot sc X d W) (h : chkE Γ N md hot sc e' e = true) (s : PE X e (tE d W fun r S => ev P cf mk r e' S)) : PE X e (tW d W fun r S => view r e' S (ev P cf mk r e' S)) := by
  cases e' with
  | v i =>
    simp only [chkE] at h
    obtain ⟨x, p, rfl, h1, h2, h3, h4⟩ := o.name h
    exact s_varW h1 h2 h3 h4
  | _ => exact s_toW s
theorem evs_len : ∀ {es : List E} {r : Env} {S : Store} {xs : List T} {S' : Store}, evs P cf mk r es S = .ok xs S' → xs.length = es.length
  | [], r, S, xs, S', h => by simp only [evs] at h; cases h; rfl
  | e :: es, r, S, xs, S', h => by
    simp only [evs] at h
    cases e1 : ev P cf mk r e S with
    | bad => rw [e1] at h; cases h
    | exn c S1 => rw [e1] at h; cases h
    | ok x S1 =>
      rw [e1] at h
      simp only [Res.bind] at h
      cases e2 : evs P cf mk r es S1 with
      | bad => rw [e2] at h; cases h
      | exn c S1 => rw [e2] at h; cases h
      | ok ys S2 =>
        rw [e2] at h
        cases h
        simp [evs_len e2]
theorem chkEs_len : ∀ {es : List E} {l : List Expr}, chkEs Γ N hot sc es l = true → es.length = l.length
  | [], [], _ => rfl
  | [], _ :: _, h => by simp [chkEs] at h
  | _ :: _, [], h => by simp [chkEs] at h
  | e :: es, x :: l, h => by
    simp only [chkEs, Bool.and_eq_true] at h
    simp [chkEs_len h.2]
theorem val_k {t : T} (h : constC t e = true) : isVal e = true := by cases e <;> first | rfl | (simp [constC] at h; done)
theorem s_op (o : Ok Γ N P.sub cf n hot sc X d W) {a b : Expr} {pos : Pos} {ma mb : Env → Store → Res T} (op : Op2) (ha : PE X a (tE d W ma)) (hb : PE X b (tE d W mb)) : PE X (.BinOp a op.ast b pos) (tE d W fun r S => (ma r S).bind fun x S => (mb r S).bind fun y S => Res.of (op.ev x y) S) := by
  cases op
  · exact s_add o.hK ha hb
  · exact s_sub2 ha hb
  · exact s_mul o.hK ha hb
  · exact s_mod ha hb
  · exact s_fdiv ha hb
theorem it_none (h : chkE Γ N none hot sc e' e = true) : isIt e' = false := by
  cases e' <;> first | rfl | (simp only [chkE] at h; split at h <;> simp at h)
theorem new_val (hn : isNew e' = true) (h : chkE Γ N md hot sc e' e = true) : isVal e = true := by
  cases e' <;> first | (cases hn; done) | (simp only [chkE] at h; split at h <;> first | rfl | (cases h; done))
theorem dict_of : ∀ {ks : List T} {es : List E} {keys : List (Option Expr)} {values : List Expr} {pos : Pos}, keysC ks keys = true → valsC es values = true → keys.length = values.length →
    ∃ (ts : List T) (vs : List V), (∀ r S, evs P cf mk r es S = .ok ts S) ∧ ks = (keyNats ks).map T.str ∧ PPs X pos keys values (((keyNats ks).zip vs).map fun p => (tC (.str (sk p.1)), tC p.2)) ∧ (∀ G, RepAll d G ts vs) ∧ (keyNats ks).length = vs.length ∧ (keyNats ks).length = ts.length ∧ keys.all (·.isSome) = true ∧ (keyNats ks).length = keys.length
  | [], es, keys, values, pos, h1, h2, hl => by
    cases keys with
    | cons _ _ => simp [keysC] at h1
    | nil =>
      cases values with
      | cons _ _ => simp at hl
      | nil =>
        cases es with
        | cons e es => cases e <;> simp [valsC] at h2
        | nil => exact ⟨[], [], fun r S => by simp only [evs], rfl, pps_nil, fun _ => trivial, rfl, rfl, rfl, rfl⟩
  | k :: ks, es, keys, values, pos, h1, h2, hl => by
    cases keys with
    | nil => cases k <;> simp [keysC] at h1
    | cons ko keys =>
      cases k <;> cases ko <;> simp only [keysC, Bool.and_eq_true] at h1 <;> try contradiction
      rename_i s ke
      cases values with
      | nil => simp at hl
      | cons v values =>
        cases es with
        | nil => simp [valsC] at h2
        | cons e es =>
          cases e <;> simp only [valsC, Bool.and_eq_true] at h2 <;> try contradiction
          rename_i t
          obtain ⟨ts, vs, k1, k2, k3, k4, k5, k6, k7, k8⟩ := dict_of (pos := pos) h1.2 h2.2 (by simpa using hl)
          obtain ⟨w, w1, w2⟩ := const_of (X := X) (d := d) h2.1
          obtain ⟨u, u1, u2⟩ := const_of (X := X) (d := d) h1.1
          have eu : u = .str (sk s) := (u2 ⟨fun _ => none, []⟩).1
          subst eu
          refine ⟨t :: ts, w :: vs, fun r S => ?_, ?_, pps_cons u1 w1 k3, fun G => ⟨w2 G, k4 G⟩, ?_, ?_, ?_, ?_⟩
          · simp only [evs, ev, k1, Res.bind]
          · simp only [keyNats, List.map_cons]; rw [← k2]
          · simp [keyNats, k5]
          · simp [keyNats, k6]
          · simp [k7]
          · simp [keyNats, k8]
theorem itM_eq {r : Env} {S : Store} {it : E} : (itM (view r it S (ev P cf mk r it S))) = itM (view r it S (ev P cf mk r it S)) := rfl
theorem still_view {m : Env → Store → Res T} : ∀ r S p S', (fun r S => itM (m r S)) r S = .ok p S' → Still p.1 p.2 S' := fun r S p S' h => still_itM h
theorem compF_yes {tg : Tg} {me : Env → Store → Res T} {r : Env} : (fun x S => match bindT tg x (wipeE r tg.slots) with
      | some r' => (me r' S).bind fun y S => .ok (some y) S
      | none => .bad) = compF tg (fun _ S => .ok true S) me r := by
  funext x S
  unfold compF
  cases bindT tg x (wipeE r tg.slots) with
  | none => rfl
  | some r' =>
    show _ = (if true = true then (me r' S).bind fun y S => .ok (some y) S else .ok none S)
    rw [if_pos rfl]
theorem own_map {tg : Tg} : (ownOf N tg).map (·.2) = tg.slots := by
  unfold ownOf
  rw [List.map_map]
  exact List.map_id' _
theorem toB_fun {m : Env → Store → Res T} : (fun r S => toB0 (m r S)) = toB m := rfl
theorem pts_yes : PTs X [] (tG d W RB fun _ S => .ok true S) := by
  refine ⟨fun pins s σ H Q I ⟨G, r, S, RS, RE, q⟩ => pts_nil.run pins s σ H Q I ?_⟩
  exact q G true H (Step.refl _ _) RS rfl
theorem chain_eq {c c' : Cmp} {ma mb mc : Env → Store → Res T} : chainM c c' ma mb mc = fun r S => (ma r S).bind fun x S => (mb r S).bind fun y S => (match c.ev x y with
    | some true => (mc r S).bind fun z S => Res.of ((c'.ev y z).map .bl) S
    | some false => .ok (.bl false) S
    | none => .bad) := rfl
theorem Sound.tst {m : Env → Store → Res T} (he : PE X e (tE d W m)) (ht : PT X e (tBo d W m)) (hm : (fun r S => ev P cf mk r e' S) = m) (hn : isNew e' = false) (hb : isBool e = false) : Sound P cf mk e' X d W e :=
  ⟨by rw [hm]; exact he, (fun z => absurd (hn ▸ z) (by simp)), fun _ => by rw [hm]; exact ht, (fun z => absurd (hb ▸ z) (by simp))⟩
theorem Sound.bool {m : Env → Store → Res T} (he : PE X e (tE d W m)) (ht : PW X e (tBo d W m)) (hm : (fun r S => ev P cf mk r e' S) = m) (hn : isNew e' = false) : Sound P cf mk e' X d W e :=
  ⟨by rw [hm]; exact he, (fun z => absurd (hn ▸ z) (by simp)), fun _ => by rw [hm]; exact ht.pt, fun _ => by rw [hm]; exact ht⟩
theorem i_of {it : E} {tgE itE : Expr} (o : Ok Γ N P.sub cf n false sc X d W) (h : chkE Γ N (some (isTupTg tgE)) false sc it itE = true) (s1 : isIt it = true → PI X tgE itE (tItE d W fun r S => itM (ev P cf mk r it S))) (s2 : isIt it = false → Sound P cf mk it X d W itE) :
    PI X tgE itE (tIt d W fun r S => itM (view r it S (ev P cf mk r it S))) := by
  by_cases hi : isIt it = true
  · have := s1 hi
    cases it <;> first | (cases hi; done) | exact i_weak this
  · have hi : isIt it = false := by simpa using hi
    exact i_any o.hK (w_of o h (s2 hi).ex)
/-- what is to be shown of each -/
def SA (Γ : Gam) (N : List PySem.Str) (P : Prog) (cf mk : Nat → List T → Store → Res T) (n : Nat) (e' : E) : Prop := ∀ {hot : Bool} {sc : Scope} {X : Cx} {d : D} {W : WX} {md : Option Bool} {e : Expr}, Ok Γ N P.sub cf n hot sc X d W → chkE Γ N md hot sc e' e = true → isIt e' = false → Sound P cf mk e' X d W e
def SI (Γ : Gam) (N : List PySem.Str) (P : Prog) (cf mk : Nat → List T → Store → Res T) (n : Nat) (it : E) : Prop := ∀ {sc : Scope} {X : Cx} {d : D} {W : WX} {tgE itE : Expr}, Ok Γ N P.sub cf n false sc X d W → chkE Γ N (some (isTupTg tgE)) false sc it itE = true → isIt it = true → PI X tgE itE (tItE d W fun r S => itM (ev P cf mk r it S))
def SEs (Γ : Gam) (N : List PySem.Str) (P : Prog) (cf mk : Nat → List T → Store → Res T) (n : Nat) (es : List E) : Prop := ∀ {hot : Bool} {sc : Scope} {X : Cx} {d : D} {W : WX} {l : List Expr}, Ok Γ N P.sub cf n hot sc X d W → chkEs Γ N hot sc es l = true → l.all noStar = true → PA X l (tAs d W fun r S => evs P cf mk r es S)
def SVs (Γ : Gam) (N : List PySem.Str) (P : Prog) (cf mk : Nat → List T → Store → Res T) (n : Nat) (es : List E) : Prop := ∀ {hot : Bool} {sc : Scope} {X : Cx} {d : D} {W : WX} {l : List Expr}, Ok Γ N P.sub cf n hot sc X d W → chkEs Γ N hot sc es l = true → l.all noStar = true → PA X l (tWs d W fun r S => evVs P cf mk r es S)
theorem q_k (t : T)  : SA Γ N P cf mk n (.k t) := by
  intro hot sc X d W md e o h _
  simp only [chkE] at h
  obtain ⟨v, h1, h2⟩ := const_of (d := d) h
  refine .val ?_ rfl (val_k h)
  simp only [ev]
  exact s_const h1 h2

theorem q_v (i : Nat)  : SA Γ N P cf mk n (.v i) := by
  intro hot sc X d W md e o h _
  simp only [chkE] at h
  obtain ⟨x, p, rfl, h1, h2, h3, h4⟩ := o.name h
  refine .val ?_ rfl rfl
  simp only [ev]
  exact s_var h1 h2 h3 h4

theorem q_g (nm : List Nat) (t : T)  : SA Γ N P cf mk n (.g nm t) := by
  intro hot sc X d W md e o h _
  simp only [chkE] at h
  split at h <;> try contradiction
  rename_i x p
  simp only [Bool.and_eq_true] at h
  obtain ⟨h1, h2⟩ := h
  obtain ⟨g1, g2, g3⟩ := o.gl h1
  split at h2 <;> try contradiction
  rename_i u hl
  have e1 := T.beq_eq h2
  subst e1
  obtain ⟨u, v, k1, k2, k3⟩ := o.val x _ hl
  refine .val ?_ rfl rfl
  simp only [ev]
  exact s_const (pe_glob g1 k1 k2 g2) k3

theorem q_tup (es : List E) (ie_es : SEs Γ N P cf mk n es) : SA Γ N P cf mk n (.tup es) := by
  intro hot sc X d W md e o h _
  simp only [chkE] at h
  split at h <;> try contradiction
  simp only [Bool.and_eq_true, decide_eq_true_eq] at h
  obtain ⟨⟨h1, h2⟩, h3⟩ := h
  have hs := ie_es o h3 h1
  refine .val ?_ rfl rfl
  simp only [ev]
  exact s_tup hs (by rw [sizeLine_eq]; omega) fun r S xs S' q => by rw [evs_len q, chkEs_len h3]

theorem q_disp (es : List E) (ie_es : SEs Γ N P cf mk n es) : SA Γ N P cf mk n (.disp es) := by
  intro hot sc X d W md e o h _
  simp only [chkE] at h
  split at h <;> try contradiction
  simp only [Bool.and_eq_true, decide_eq_true_eq] at h
  obtain ⟨⟨h1, h2⟩, h3⟩ := h
  have hs := ie_es o h3 h1
  refine .ofNew ?_ rfl
  simp only [ev]
  exact s_disp hs (by rw [sizeLine_eq]; omega) fun r S xs S' q => by rw [evs_len q, chkEs_len h3]

theorem q_comp (elt : E) (tg : Tg) (it : E) (ih_elt : SA Γ N P cf mk n elt) (ih_it : SA Γ N P cf mk n it) (ii_it : SI Γ N P cf mk n it) : SA Γ N P cf mk n (.comp elt tg it) := by
  intro hot sc X d W md e o h _
  simp only [chkE] at h
  split at h <;> try contradiction
  rename_i el tgE itE scope pos
  simp only [Bool.and_eq_true, Bool.not_eq_true'] at h
  obtain ⟨⟨⟨⟨⟨h1, h2⟩, h3⟩, h4⟩, h5⟩, h6⟩ := h
  subst h1
  obtain ⟨c1, c2, c3, c4⟩ := o.calm rfl
  have hi := i_of o h3 (fun hi => ii_it o h3 hi) (fun hi => ih_it o h3 hi)
  have ok := blkOk_by (o.hsc ▸ o.hN ▸ h4)
  refine .ofNew ?_ rfl
  simp only [ev, compF_yes]
  exact s_compM (mt := fun _ S => .ok true S) (me := fun r S => ev P cf mk r elt S) o.hK c1 (o.hN ▸ o.nd) own_map still_view hi ok
    (fun s H C cl fp => tg_of (o.blk) c1 (fun x hx => by simp [hx]) h5) (fun s H C cl fp => pts_yes) (fun s H C cl fp => (ih_elt o.blk h6 (it_none h6)).ex) (no_fold h2 _)

theorem q_compI (elt : E) (tg : Tg) (it : E) (t : E) (ih_elt : SA Γ N P cf mk n elt) (ih_it : SA Γ N P cf mk n it) (ii_it : SI Γ N P cf mk n it) (ih_t : SA Γ N P cf mk n t) : SA Γ N P cf mk n (.compI elt tg it t) := by
  intro hot sc X d W md e o h _
  simp only [chkE] at h
  split at h <;> try contradiction
  rename_i el tgE itE cc scope pos
  simp only [Bool.and_eq_true, Bool.not_eq_true'] at h
  obtain ⟨⟨⟨⟨⟨⟨⟨h1, h2⟩, h3⟩, h4⟩, h5⟩, h6⟩, h7⟩, h8⟩ := h
  subst h1
  obtain ⟨c1, c2, c3, c4⟩ := o.calm rfl
  have hi := i_of o h3 (fun hi => ii_it o h3 hi) (fun hi => ih_it o h3 hi)
  have ok := blkOk_by (o.hsc ▸ o.hN ▸ h4)
  refine .ofNew ?_ rfl
  simp only [ev]
  exact s_compM (mt := toB fun r S => ev P cf mk r t S) (me := fun r S => ev P cf mk r elt S) o.hK c1 (o.hN ▸ o.nd) own_map still_view hi ok
    (fun s H C cl fp => tg_of (o.blk) c1 (fun x hx => by simp [hx]) h5) (fun s H C cl fp => pts_one ((ih_t o.blk h8 (it_none h8)).test h7)) (fun s H C cl fp => (ih_elt o.blk h6 (it_none h6)).ex) (no_fold h2 _)

theorem q_lof (a : E) (ih_a : SA Γ N P cf mk n a) : SA Γ N P cf mk n (.lof a) := by
  intro hot sc X d W md e o h _
  simp only [chkE] at h
  split at h <;> try contradiction
  simp only [Bool.and_eq_true, decide_eq_true_eq] at h
  obtain ⟨⟨⟨rfl, h2⟩, h3⟩, h4⟩ := h
  obtain ⟨g1, g2⟩ := o.blt h2
  have sa := ih_a o h4 (it_none h4)
  refine .ofNew ?_ rfl
  simp only [ev]
  exact s_lof o.hK g1 g2 (w_of o h4 sa.ex) (star_cons h3 _ _)

theorem q_tof (a : E) (ih_a : SA Γ N P cf mk n a) : SA Γ N P cf mk n (.tof a) := by
  intro hot sc X d W md e o h _
  simp only [chkE] at h
  split at h <;> try contradiction
  simp only [Bool.and_eq_true, decide_eq_true_eq] at h
  obtain ⟨⟨⟨rfl, h2⟩, h3⟩, h4⟩ := h
  obtain ⟨g1, g2⟩ := o.blt h2
  have sa := ih_a o h4 (it_none h4)
  refine .val ?_ rfl rfl
  simp only [ev]
  exact s_tof o.hK g1 g2 (w_of o h4 sa.ex) (star_cons h3 _ _)

theorem q_sorted (a : E) (ih_a : SA Γ N P cf mk n a) : SA Γ N P cf mk n (.sorted a) := by
  intro hot sc X d W md e o h _
  simp only [chkE] at h
  split at h <;> try contradiction
  simp only [Bool.and_eq_true, decide_eq_true_eq] at h
  obtain ⟨⟨⟨rfl, h2⟩, h3⟩, h4⟩ := h
  obtain ⟨g1, g2⟩ := o.blt h2
  have sa := ih_a o h4 (it_none h4)
  refine .ofNew ?_ rfl
  simp only [ev]
  exact s_sorted g1 g2 (w_of o h4 sa.ex) (star_cons h3 _ _)

theorem q_sub (a : E) (i : E) (ih_a : SA Γ N P cf mk n a) (ih_i : SA Γ N P cf mk n i) : SA Γ N P cf mk n (.sub a i) := by
  intro hot sc X d W md e o h _
  simp only [chkE] at h
  split at h <;> try contradiction
  simp only [Bool.and_eq_true] at h
  obtain ⟨⟨h1, h2⟩, h3⟩ := h
  have sa := ih_a o h2 (it_none h2)
  have sb := ih_i o h3 (it_none h3)
  refine .val ?_ rfl rfl
  simp only [ev]
  exact s_sub o.hK o.hw o.un (plain_ix h1) (w_of o h2 sa.ex) sb.ex

theorem q_slice (a : E) (l : E) (u : E) (ih_a : SA Γ N P cf mk n a) (ih_l : SA Γ N P cf mk n l) (ih_u : SA Γ N P cf mk n u) : SA Γ N P cf mk n (.slice a l u) := by
  intro hot sc X d W md e o h _
  simp only [chkE] at h
  split at h <;> try contradiction
  simp only [Bool.and_eq_true] at h
  obtain ⟨⟨h1, h2⟩, h3⟩ := h
  have sa := ih_a o h1 (it_none h1)
  have sb := ih_l o h2 (it_none h2)
  have sc' := ih_u o h3 (it_none h3)
  refine .val ?_ rfl rfl
  simp only [ev]
  exact s_slice o.hK (w_of o h1 sa.ex) sb.ex sc'.ex

theorem q_sliceL (a : E) (l : E) (ih_a : SA Γ N P cf mk n a) (ih_l : SA Γ N P cf mk n l) : SA Γ N P cf mk n (.sliceL a l) := by
  intro hot sc X d W md e o h _
  simp only [chkE] at h
  split at h <;> try contradiction
  simp only [Bool.and_eq_true] at h
  obtain ⟨h1, h2⟩ := h
  have sa := ih_a o h1 (it_none h1)
  have sb := ih_l o h2 (it_none h2)
  refine .val ?_ rfl rfl
  simp only [ev]
  exact s_sliceL o.hK (w_of o h1 sa.ex) sb.ex

theorem q_sliceR (a : E) (l : E) (ih_a : SA Γ N P cf mk n a) (ih_l : SA Γ N P cf mk n l) : SA Γ N P cf mk n (.sliceR a l) := by
  intro hot sc X d W md e o h _
  simp only [chkE] at h
  split at h <;> try contradiction
  simp only [Bool.and_eq_true] at h
  obtain ⟨h1, h2⟩ := h
  have sa := ih_a o h1 (it_none h1)
  have sb := ih_l o h2 (it_none h2)
  refine .val ?_ rfl rfl
  simp only [ev]
  exact s_sliceR o.hK (w_of o h1 sa.ex) sb.ex

theorem q_op (op : Op2) (a : E) (b : E) (ih_a : SA Γ N P cf mk n a) (ih_b : SA Γ N P cf mk n b) : SA Γ N P cf mk n (.op op a b) := by
  intro hot sc X d W md e o h _
  simp only [chkE] at h
  split at h <;> try contradiction
  simp only [Bool.and_eq_true] at h
  obtain ⟨⟨h1, h2⟩, h3⟩ := h
  have sa := ih_a o h2 (it_none h2)
  have sb := ih_b o h3 (it_none h3)
  refine .val ?_ rfl rfl
  simp only [ev]
  have hp := of_decide_eq_true h1
  subst hp
  exact s_op o op sa.ex sb.ex

theorem q_cat (a : E) (b : E) (ih_a : SA Γ N P cf mk n a) (ih_b : SA Γ N P cf mk n b) : SA Γ N P cf mk n (.cat a b) := by
  intro hot sc X d W md e o h _
  simp only [chkE] at h
  split at h <;> try contradiction
  simp only [Bool.and_eq_true] at h
  obtain ⟨h2, h3⟩ := h
  have sa := ih_a o h2 (it_none h2)
  have sb := ih_b o h3 (it_none h3)
  refine .ofNew ?_ rfl
  simp only [ev]
  exact s_cat (w_of o h2 sa.ex) (w_of o h3 sb.ex)

theorem q_neg (a : E) (ih_a : SA Γ N P cf mk n a) : SA Γ N P cf mk n (.neg a) := by
  intro hot sc X d W md e o h _
  simp only [chkE] at h
  split at h <;> try contradiction
  have sa := ih_a o h (it_none h)
  refine .val ?_ rfl rfl
  simp only [ev]
  exact s_neg sa.ex

theorem q_cmp (c : Cmp) (a : E) (b : E) (ih_a : SA Γ N P cf mk n a) (ih_b : SA Γ N P cf mk n b) : SA Γ N P cf mk n (.cmp c a b) := by
  intro hot sc X d W md e o h _
  simp only [chkE] at h
  split at h <;> try contradiction
  simp only [Bool.and_eq_true, decide_eq_true_eq] at h
  obtain ⟨⟨⟨rfl, h1⟩, h2⟩, h3⟩ := h
  have sa := ih_a o h2 (it_none h2)
  have sb := ih_b o h3 (it_none h3)
  obtain ⟨r2, hc⟩ := c_all o.hK o.hw o.un c
  exact .tst (s_cmp hc (no_marks h1 _) (w_of o h2 sa.ex) (w_of o h3 sb.ex)) (s_cmpT hc (no_marks h1 _) (w_of o h2 sa.ex) (w_of o h3 sb.ex)) (by funext r S; simp only [ev]; rfl) rfl rfl

theorem q_chain (c : Cmp) (c' : Cmp) (a : E) (b : E) (z : E) (ih_a : SA Γ N P cf mk n a) (ih_b : SA Γ N P cf mk n b) (ih_z : SA Γ N P cf mk n z) : SA Γ N P cf mk n (.chain c c' a b z) := by
  intro hot sc X d W md e o h _
  simp only [chkE] at h
  split at h <;> try contradiction
  simp only [Bool.and_eq_true, decide_eq_true_eq] at h
  obtain ⟨⟨⟨⟨⟨rfl, rfl⟩, h1⟩, h2⟩, h3⟩, h4⟩ := h
  have sa := ih_a o h2 (it_none h2)
  have sb := ih_b o h3 (it_none h3)
  have sz := ih_z o h4 (it_none h4)
  obtain ⟨r2, hc⟩ := c_all o.hK o.hw o.un c
  obtain ⟨r3, hc'⟩ := c_all o.hK o.hw o.un c'
  exact .tst (s_chain hc hc' (no_last h1 _ _) sa.ex sb.ex sz.ex) (s_chainT hc hc' (no_last h1 _ _) sa.ex sb.ex sz.ex) (by funext r S; simp only [ev]; rfl) rfl rfl

theorem q_isK (ng : Bool) (a : E) (t : T) (ih_a : SA Γ N P cf mk n a) : SA Γ N P cf mk n (.isK ng a t) := by
  intro hot sc X d W md e o h _
  simp only [chkE] at h
  split at h <;> try contradiction
  simp only [Bool.and_eq_true, decide_eq_true_eq] at h
  obtain ⟨⟨⟨rfl, h1⟩, h2⟩, h3⟩ := h
  have sa := ih_a o h3 (it_none h3)
  obtain ⟨w, hw⟩ := Option.isSome_iff_exists.mp h1
  obtain ⟨v, k1, k2⟩ := const_of (d := d) h2
  have hvw : v = w := by
    have hr := k2 ⟨fun _ => none, []⟩
    cases t <;> simp only [kV'] at hw <;> try contradiction
    · cases hw; exact hr
    · cases hw; exact hr
  subst hvw
  exact .tst (s_isK hw k1 sa.ex) (s_isKT hw k1 sa.ex) (by funext r S; simp only [ev]; rfl) rfl rfl

theorem q_not (a : E) (ih_a : SA Γ N P cf mk n a) : SA Γ N P cf mk n (.not a) := by
  intro hot sc X d W md e o h _
  simp only [chkE] at h
  split at h <;> try contradiction
  simp only [Bool.and_eq_true] at h
  have sa := ih_a o h.2 (it_none h.2)
  exact .tst (s_not sa.ex) (s_notT (sa.test h.1)) (by funext r S; simp only [ev]; rfl) rfl rfl

theorem q_call (f : Nat) (es : List E) (ie_es : SEs Γ N P cf mk n es) : SA Γ N P cf mk n (.call f es) := by
  intro hot sc X d W md e o h _
  simp only [chkE] at h
  split at h <;> try contradiction
  rename_i x p l pos
  simp only [Bool.and_eq_true, Bool.not_eq_true'] at h
  obtain ⟨⟨⟨⟨h1, h2⟩, h3⟩, h4⟩, h5⟩ := h
  subst h1
  obtain ⟨c1, c2, c3, c4⟩ := o.calm rfl
  obtain ⟨g1, g2, g3⟩ := o.gl h3
  split at h4 <;> try contradiction
  rename_i g np hl
  simp only [Bool.and_eq_true, decide_eq_true_eq] at h4
  obtain ⟨rfl, rfl⟩ := h4
  obtain ⟨fa, fd, ps, k1, k2, k3, k4, k5, k6⟩ := o.fn x _ _ hl
  have hs := ie_es o h5 h2
  refine .val ?_ rfl rfl
  simp only [ev]
  cases l with
  | nil =>
    have hes : es = [] := by cases es <;> first | rfl | (simp [chkEs] at h5)
    subst hes
    simp only [evs]
    exact s_call0 rfl k6 (c2.mono (by omega)) g1 k1 k3 k4 c3 g2
  | cons y l =>
    simp only [List.all_cons, Bool.and_eq_true] at h2
    exact s_call (fun r S xs S' q => evs_len q) k6 (c2.mono (by omega)) g1 k1 k3 k4 c3 hs g2 (star_cons h2.1 _ _) (star_none _ h2.2 _ _)

theorem q_bi (b : Bi) (es : List E) (iv_es : SVs Γ N P cf mk n es) : SA Γ N P cf mk n (.bi b es) := by
  intro hot sc X d W md e o h _
  simp only [chkE] at h
  split at h <;> try contradiction
  rename_i x p y l pos
  simp only [Bool.and_eq_true, Bool.not_eq_true', decide_eq_true_eq] at h
  obtain ⟨⟨⟨⟨⟨h1, rfl⟩, h4⟩, h5⟩, h6⟩, h7⟩ := h
  subst h1
  obtain ⟨c1, c2, c3, c4⟩ := o.calm rfl
  obtain ⟨g1, g2⟩ := o.blt h4
  have hs := iv_es o h7 (by simp [h5, h6])
  refine .val ?_ rfl rfl
  simp only [ev]
  exact s_bi b c2.g o.un o.hK c1 g1 g2 hs (star_cons h5 _ _) (star_none _ h6 _ _)

theorem q_isi (a : E) (ty : Ty) (ih_a : SA Γ N P cf mk n a) : SA Γ N P cf mk n (.isi a ty) := by
  intro hot sc X d W md e o h _
  simp only [chkE] at h
  split at h <;> try contradiction
  simp only [Bool.and_eq_true, decide_eq_true_eq] at h
  obtain ⟨⟨⟨⟨⟨rfl, h1⟩, h2⟩, rfl⟩, h3⟩, h4⟩ := h
  obtain ⟨g1, g2⟩ := o.blt h1
  obtain ⟨g3, g4⟩ := o.blt h3
  have sa := ih_a o h4 (it_none h4)
  refine .val ?_ rfl rfl
  simp only [ev]
  exact s_isi ty o.hK (w_of o h4 sa.ex) g1 g2 g3 g4 (star_cons h2 _ _)

theorem q_isi2 (a : E) (ty : Ty) (ty2 : Ty) (ih_a : SA Γ N P cf mk n a) : SA Γ N P cf mk n (.isi2 a ty ty2) := by
  intro hot sc X d W md e o h _
  simp only [chkE] at h
  split at h <;> try contradiction
  simp only [Bool.and_eq_true, decide_eq_true_eq] at h
  obtain ⟨⟨⟨⟨⟨⟨⟨rfl, h1⟩, h2⟩, rfl⟩, h3⟩, rfl⟩, h5⟩, h4⟩ := h
  obtain ⟨g1, g2⟩ := o.blt h1
  obtain ⟨g3, g4⟩ := o.blt h3
  obtain ⟨g5, g6⟩ := o.blt h5
  have sa := ih_a o h4 (it_none h4)
  refine .val ?_ rfl rfl
  simp only [ev]
  exact s_isi2 ty ty2 o.hK (w_of o h4 sa.ex) g1 g2 g3 g4 g5 g6 (star_cons h2 _ _)

theorem q_join (a : E) (ih_a : SA Γ N P cf mk n a) : SA Γ N P cf mk n (.join a) := by
  intro hot sc X d W md e o h _
  simp only [chkE] at h
  split at h <;> try contradiction
  simp only [Bool.and_eq_true, decide_eq_true_eq] at h
  obtain ⟨⟨⟨⟨h0, rfl⟩, h1⟩, h2⟩, h3⟩ := h
  have sa := ih_a o h3 (it_none h3)
  refine .val ?_ rfl rfl
  simp only [ev]
  exact s_join h0 (w_of o h3 sa.ex) (star_cons h1 _ _) h2

theorem q_cell (a : E) (ih_a : SA Γ N P cf mk n a) : SA Γ N P cf mk n (.cell a) := by
  intro hot sc X d W md e o h _
  simp only [chkE] at h
  have hn : isNew a = true ∧ chkE Γ N none hot sc a e = true := by
    split at h <;> first | exact ⟨rfl, h⟩ | cases h
  have sa := ih_a o hn.2 (it_none hn.2)
  refine .val ?_ rfl (new_val hn.1 hn.2)
  simp only [ev]
  exact s_cell (sa.new hn.1)

theorem q_and (a : E) (b : E) (ih_a : SA Γ N P cf mk n a) (ih_b : SA Γ N P cf mk n b) : SA Γ N P cf mk n (.and a b) := by
  intro hot sc X d W md e o h _
  simp only [chkE] at h
  split at h <;> try contradiction
  · simp only [Bool.and_eq_true] at h
    obtain ⟨⟨⟨h1, h2⟩, h3⟩, h4⟩ := h
    have sa := ih_a o h3 (it_none h3)
    have sb := ih_b o h4 (it_none h4)
    exact .bool (s_and sa.ex (pe_one sb.ex)) (s_andT (sa.test h1) (pw_and1 (sb.test h2))) (by funext r S; simp only [ev]; rfl) rfl
  · simp only [Bool.and_eq_true] at h
    obtain ⟨⟨h1, h3⟩, h4⟩ := h
    have sa := ih_a o h3 (it_none h3)
    have sb := ih_b o h4 (it_none h4)
    exact .bool (s_and sa.ex sb.ex) (s_andT (sa.test h1) (sb.whole rfl)) (by funext r S; simp only [ev]; rfl) rfl

theorem q_or (a : E) (b : E) (ih_a : SA Γ N P cf mk n a) (ih_b : SA Γ N P cf mk n b) : SA Γ N P cf mk n (.or a b) := by
  intro hot sc X d W md e o h _
  simp only [chkE] at h
  split at h <;> try contradiction
  · simp only [Bool.and_eq_true] at h
    obtain ⟨⟨⟨h1, h2⟩, h3⟩, h4⟩ := h
    have sa := ih_a o h3 (it_none h3)
    have sb := ih_b o h4 (it_none h4)
    exact .bool (s_or sa.ex (pe_one sb.ex)) (s_orT (sa.test h1) (pw_or1 (sb.test h2))) (by funext r S; simp only [ev]; rfl) rfl
  · simp only [Bool.and_eq_true] at h
    obtain ⟨⟨h1, h3⟩, h4⟩ := h
    have sa := ih_a o h3 (it_none h3)
    have sb := ih_b o h4 (it_none h4)
    exact .bool (s_or sa.ex sb.ex) (s_orT (sa.test h1) (sb.whole rfl)) (by funext r S; simp only [ev]; rfl) rfl

theorem q_ife (c : E) (a : E) (b : E) (ih_c : SA Γ N P cf mk n c) (ih_a : SA Γ N P cf mk n a) (ih_b : SA Γ N P cf mk n b) : SA Γ N P cf mk n (.ife c a b) := by
  intro hot sc X d W md e o h _
  simp only [chkE] at h
  split at h <;> try contradiction
  simp only [Bool.and_eq_true] at h
  obtain ⟨⟨⟨h1, h2⟩, h3⟩, h4⟩ := h
  have sc' := ih_c o h2 (it_none h2)
  have sa := ih_a o h3 (it_none h3)
  have sb := ih_b o h4 (it_none h4)
  refine ⟨?_, (fun z => by cases z), (fun z => by cases z), (fun z => by cases z)⟩
  simp only [ev]
  exact s_ife (sc'.test h1) sa.ex sb.ex

theorem q_lrng (a : E) (ih_a : SA Γ N P cf mk n a) : SA Γ N P cf mk n (.lrng a) := by
  intro hot sc X d W md e o h _
  simp only [chkE] at h
  split at h <;> try contradiction
  simp only [Bool.and_eq_true, Bool.not_eq_true', decide_eq_true_eq] at h
  obtain ⟨⟨⟨⟨⟨⟨h1, rfl⟩, h2⟩, rfl⟩, h3⟩, h4⟩, h5⟩ := h
  subst h1
  obtain ⟨c1, c2, c3, c4⟩ := o.calm rfl
  obtain ⟨g1, g2⟩ := o.blt h2
  obtain ⟨g3, g4⟩ := o.blt h3
  have sa := ih_a o h5 (it_none h5)
  refine .ofNew ?_ rfl
  simp only [ev]
  exact s_lrng c1 g1 g2 g3 g4 sa.ex (star_cons h4 _ _)

theorem q_trng (a : E) (ih_a : SA Γ N P cf mk n a) : SA Γ N P cf mk n (.trng a) := by
  intro hot sc X d W md e o h _
  simp only [chkE] at h
  split at h <;> try contradiction
  simp only [Bool.and_eq_true, Bool.not_eq_true', decide_eq_true_eq] at h
  obtain ⟨⟨⟨⟨⟨⟨h1, rfl⟩, h2⟩, rfl⟩, h3⟩, h4⟩, h5⟩ := h
  subst h1
  obtain ⟨c1, c2, c3, c4⟩ := o.calm rfl
  obtain ⟨g1, g2⟩ := o.blt h2
  obtain ⟨g3, g4⟩ := o.blt h3
  have sa := ih_a o h5 (it_none h5)
  refine .val ?_ rfl rfl
  simp only [ev]
  exact s_trng c1 g1 g2 g3 g4 sa.ex (star_cons h4 _ _)

theorem q_rep (a : E) (b : E) (ih_a : SA Γ N P cf mk n a) (ih_b : SA Γ N P cf mk n b) : SA Γ N P cf mk n (.rep a b) := by
  intro hot sc X d W md e o h _
  simp only [chkE] at h
  split at h <;> try contradiction
  simp only [Bool.and_eq_true] at h
  obtain ⟨h2, h3⟩ := h
  have sa := ih_a o h2 (it_none h2)
  have sb := ih_b o h3 (it_none h3)
  refine .ofNew ?_ rfl
  simp only [ev]
  exact s_rep (w_of o h2 sa.ex) sb.ex

theorem q_isx (i : Nat) (c : Nat)  : SA Γ N P cf mk n (.isx i c) := by
  intro hot sc X d W md e o h _
  simp only [chkE] at h
  split at h <;> try contradiction
  simp only [Bool.and_eq_true, decide_eq_true_eq] at h
  obtain ⟨⟨⟨⟨rfl, h1⟩, h2⟩, h3⟩, h4⟩ := h
  obtain ⟨g1, g2⟩ := o.blt h1
  obtain ⟨x, p, rfl, n1, n2, n3, n4⟩ := o.name h2
  obtain ⟨g3, g4, g5⟩ := o.gl h3
  split at h4 <;> try contradiction
  rename_i c' hl
  have hc := of_decide_eq_true h4
  subst hc
  obtain ⟨C, k1, k2, k3, _⟩ := o.exc _ _ hl
  refine .val ?_ rfl rfl
  simp only [ev]
  exact s_isx k3 n1 n2 n3 n4 g3 k2 g4 g1 g2

theorem q_dict (ks : List T) (es : List E)  : SA Γ N P cf mk n (.dict ks es) := by
  intro hot sc X d W md e o h _
  simp only [chkE] at h
  split at h <;> try contradiction
  simp only [Bool.and_eq_true, decide_eq_true_eq] at h
  obtain ⟨⟨⟨⟨⟨h1, h2⟩, h3⟩, h4⟩, h5⟩, h6⟩ := h
  obtain ⟨ts, vs, k1, k2, k3, k4, k5, k6, k7, k8⟩ := dict_of (X := X) (d := d) (P := P) (cf := cf) (mk := mk) h1 h2 h3
  refine .val ?_ rfl rfl
  simp only [ev, k1]
  rw [k2]
  exact s_dict k3 k7 h3 (by intro z; subst z; simp at h4) h5 k5 (by omega) h6 k4 k6
theorem q_enil : SEs Γ N P cf mk n [] := by
  intro hot sc X d W l o h hl
  cases l with
  | cons _ _ => simp [chkEs] at h
  | nil =>
    simp only [evs]
    exact s_nil
theorem q_econs (e' : E) (es : List E) (ih : SA Γ N P cf mk n e') (ie : SEs Γ N P cf mk n es) : SEs Γ N P cf mk n (e' :: es) := by
  intro hot sc X d W l o h hl
  cases l with
  | nil => simp [chkEs] at h
  | cons e l =>
    simp only [chkEs, Bool.and_eq_true] at h
    simp only [List.all_cons, Bool.and_eq_true] at hl
    have sa := ih o h.1 (it_none h.1)
    have ss := ie o h.2 hl.2
    simp only [evs]
    exact s_cons sa.ex ss (star_cons hl.1 _ _)
theorem q_vnil : SVs Γ N P cf mk n [] := by
  intro hot sc X d W l o h hl
  cases l with
  | cons _ _ => simp [chkEs] at h
  | nil =>
    simp only [evVs]
    exact s_nilW
theorem q_vcons (e' : E) (es : List E) (ih : SA Γ N P cf mk n e') (ie : SVs Γ N P cf mk n es) : SVs Γ N P cf mk n (e' :: es) := by
  intro hot sc X d W l o h hl
  cases l with
  | nil => simp [chkEs] at h
  | cons e l =>
    simp only [chkEs, Bool.and_eq_true] at h
    simp only [List.all_cons, Bool.and_eq_true] at hl
    have sa := ih o h.1 (it_none h.1)
    have ss := ie o h.2 hl.2
    simp only [evVs]
    exact s_consW (w_of o h.1 sa.ex) ss (star_cons hl.1 _ _)
theorem q_irng (a : E) (ih_a : SA Γ N P cf mk n a) : SI Γ N P cf mk n (.rng a) := by
  intro sc X d W tgE itE o h _
  simp only [chkE] at h
  split at h <;> try contradiction
  simp only [Bool.and_eq_true, decide_eq_true_eq] at h
  obtain ⟨⟨⟨⟨h0, rfl⟩, h1⟩, h2⟩, h3⟩ := h
  obtain ⟨g1, g2⟩ := o.blt h1
  have sa := ih_a o h3 (it_none h3)
  simp only [ev]
  exact i_rng g1 g2 sa.ex (star_cons h2 _ _)
theorem q_irng2 (a b : E) (ih_a : SA Γ N P cf mk n a) (ih_b : SA Γ N P cf mk n b) : SI Γ N P cf mk n (.rng2 a b) := by
  intro sc X d W tgE itE o h _
  simp only [chkE] at h
  split at h <;> try contradiction
  simp only [Bool.and_eq_true, decide_eq_true_eq] at h
  obtain ⟨⟨⟨⟨⟨⟨h0, rfl⟩, h1⟩, h2⟩, h3⟩, h4⟩, h5⟩ := h
  obtain ⟨g1, g2⟩ := o.blt h1
  have sa := ih_a o h4 (it_none h4)
  have sb := ih_b o h5 (it_none h5)
  simp only [ev]
  exact i_rng2 g1 g2 sa.ex sb.ex (star_cons h2 _ _) (star_cons h3 _ _)
theorem q_ienum (a : E) (ih_a : SA Γ N P cf mk n a) : SI Γ N P cf mk n (.enum a) := by
  intro sc X d W tgE itE o h _
  simp only [chkE] at h
  split at h <;> try contradiction
  simp only [Bool.and_eq_true, decide_eq_true_eq] at h
  obtain ⟨⟨⟨⟨h0, rfl⟩, h1⟩, h2⟩, h3⟩ := h
  obtain ⟨g1, g2⟩ := o.blt h1
  have sa := ih_a o h3 (it_none h3)
  have ht : isTupTg tgE = true := Option.some.inj h0
  cases tgE <;> first | (cases ht; done) | skip
  simp only [ev]
  exact i_enum o.hK g1 g2 sa.ex (star_cons h2 _ _)
mutual
theorem snd : ∀ e' : E, SA Γ N P cf mk n e'
  | .k t => q_k _ 
  | .v i => q_v _ 
  | .g nm t => q_g _ _ 
  | .tup es => q_tup _ (sndEs es)
  | .disp es => q_disp _ (sndEs es)
  | .comp elt tg it => q_comp _ _ _ (snd elt) (snd it) (sndIE it)
  | .compI elt tg it t => q_compI _ _ _ _ (snd elt) (snd it) (sndIE it) (snd t)
  | .lof a => q_lof _ (snd a)
  | .tof a => q_tof _ (snd a)
  | .sorted a => q_sorted _ (snd a)
  | .sub a i => q_sub _ _ (snd a) (snd i)
  | .slice a l u => q_slice _ _ _ (snd a) (snd l) (snd u)
  | .sliceL a l => q_sliceL _ _ (snd a) (snd l)
  | .sliceR a l => q_sliceR _ _ (snd a) (snd l)
  | .op op a b => q_op _ _ _ (snd a) (snd b)
  | .cat a b => q_cat _ _ (snd a) (snd b)
  | .neg a => q_neg _ (snd a)
  | .cmp c a b => q_cmp _ _ _ (snd a) (snd b)
  | .chain c c' a b z => q_chain _ _ _ _ _ (snd a) (snd b) (snd z)
  | .isK ng a t => q_isK _ _ _ (snd a)
  | .not a => q_not _ (snd a)
  | .call f es => q_call _ _ (sndEs es)
  | .bi b es => q_bi _ _ (sndVs es)
  | .isi a ty => q_isi _ _ (snd a)
  | .isi2 a ty ty2 => q_isi2 _ _ _ (snd a)
  | .join a => q_join _ (snd a)
  | .cell a => q_cell _ (snd a)
  | .and a b => q_and _ _ (snd a) (snd b)
  | .or a b => q_or _ _ (snd a) (snd b)
  | .ife c a b => q_ife _ _ _ (snd c) (snd a) (snd b)
  | .lrng a => q_lrng _ (snd a)
  | .trng a => q_trng _ (snd a)
  | .rep a b => q_rep _ _ (snd a) (snd b)
  | .isx i c => q_isx _ _ 
  | .dict ks es => q_dict _ _ 
  | .f _ _ => fun _ h _ => by simp [chkE] at h
  | .comp2 _ _ _ _ _ => fun _ h _ => by simp [chkE] at h
  | .callV _ _ => fun _ h _ => by simp [chkE] at h
  | .meth _ _ _ => fun _ h _ => by simp [chkE] at h
  | .mk _ _ => fun _ h _ => by simp [chkE] at h
  | .attr _ _ => fun _ h _ => by simp [chkE] at h
  | .index _ _ => fun _ h _ => by simp [chkE] at h
  | .setlen _ _ _ => fun _ h _ => by simp [chkE] at h
  | .rng _ => fun _ _ h => nomatch h
  | .rng2 _ _ => fun _ _ h => nomatch h
  | .enum _ => fun _ _ h => nomatch h
theorem sndEs : ∀ es : List E, SEs Γ N P cf mk n es
  | [] => q_enil
  | e' :: es => q_econs _ _ (snd e') (sndEs es)
theorem sndVs : ∀ es : List E, SVs Γ N P cf mk n es
  | [] => q_vnil
  | e' :: es => q_vcons _ _ (snd e') (sndVs es)
theorem sndIE : ∀ it : E, SI Γ N P cf mk n it
  | .rng a => q_irng _ (snd a)
  | .rng2 a b => q_irng2 _ _ (snd a) (snd b)
  | .enum a => q_ienum _ (snd a)
  | .k _ => fun _ _ h => nomatch h
  | .v _ => fun _ _ h => nomatch h
  | .g _ _ => fun _ _ h => nomatch h
  | .f _ _ => fun _ _ h => nomatch h
  | .tup _ => fun _ _ h => nomatch h
  | .disp _ => fun _ _ h => nomatch h
  | .comp _ _ _ => fun _ _ h => nomatch h
  | .compI _ _ _ _ => fun _ _ h => nomatch h
  | .comp2 _ _ _ _ _ => fun _ _ h => nomatch h
  | .lof _ => fun _ _ h => nomatch h
  | .lrng _ => fun _ _ h => nomatch h
  | .trng _ => fun _ _ h => nomatch h
  | .tof _ => fun _ _ h => nomatch h
  | .sorted _ => fun _ _ h => nomatch h
  | .sub _ _ => fun _ _ h => nomatch h
  | .slice _ _ _ => fun _ _ h => nomatch h
  | .sliceL _ _ => fun _ _ h => nomatch h
  | .sliceR _ _ => fun _ _ h => nomatch h
  | .op _ _ _ => fun _ _ h => nomatch h
  | .cat _ _ => fun _ _ h => nomatch h
  | .rep _ _ => fun _ _ h => nomatch h
  | .neg _ => fun _ _ h => nomatch h
  | .cmp _ _ _ => fun _ _ h => nomatch h
  | .chain _ _ _ _ _ => fun _ _ h => nomatch h
  | .isK _ _ _ => fun _ _ h => nomatch h
  | .and _ _ => fun _ _ h => nomatch h
  | .or _ _ => fun _ _ h => nomatch h
  | .not _ => fun _ _ h => nomatch h
  | .ife _ _ _ => fun _ _ h => nomatch h
  | .call _ _ => fun _ _ h => nomatch h
  | .callV _ _ => fun _ _ h => nomatch h
  | .meth _ _ _ => fun _ _ h => nomatch h
  | .mk _ _ => fun _ _ h => nomatch h
  | .attr _ _ => fun _ _ h => nomatch h
  | .bi _ _ => fun _ _ h => nomatch h
  | .isi _ _ => fun _ _ h => nomatch h
  | .isi2 _ _ _ => fun _ _ h => nomatch h
  | .isx _ _ => fun _ _ h => nomatch h
  | .cell _ => fun _ _ h => nomatch h
  | .join _ => fun _ _ h => nomatch h
  | .index _ _ => fun _ _ h => nomatch h
  | .setlen _ _ _ => fun _ _ h => nomatch h
  | .dict _ _ => fun _ _ h => nomatch h
end
end
end Hf
end

section
set_option Elab.async false
set_option linter.all false
set_option maxRecDepth 100000
set_option maxHeartbeats 4000000
/-! HfS20: is this text this small syntax? the statements. -/
namespace Hf
open PySem PySem.Spec PyProof.Rows L2
section
variable (Γ : Gam) (N : List PySem.Str)
def excC (sc : Scope) (x : PySem.Str) (c : Nat) : Bool := glC sc x && (match Γ.names.lookup x with
  | some (.exc c') => decide (c' = c)
  | _ => false)
mutual
def chkS : Bool → Scope → S → Stmt → Bool
  | h, sc, .asg tg e', st => (match st with
    | .Assign [tgE] e _ => !h && noStar tgE && noComp e && (noTup e || isName tgE) && tgC N sc sc tg tgE && chkE Γ N none h sc e' e
    | _ => false)
  | h, sc, .own i e', st => (match st with
    | .Assign [.Name x p] e _ => !h && noComp e && isNew e' && locC N sc sc i (.Name x p) && chkE Γ N none h sc e' e
    | _ => false)
  | h, sc, .push i e', st => (match st with
    | .Expr (.Call (.Attribute (.Name x p) m ap) [e] [] cp) _ => !h && decide (m = "append") && nameC N sc i (.Name x p) && noStar e && (ap.endLine == cp.line) && chkE Γ N none h sc e' e
    | _ => false)
  | h, sc, .ext i e', st => (match st with
    | .Expr (.Call (.Attribute (.Name x p) m ap) [e] [] cp) _ => !h && decide (m = "extend") && nameC N sc i (.Name x p) && noStar e && isNew e' && (ap.endLine == cp.line) && chkE Γ N none h sc e' e
    | _ => false)
  | h, sc, .seti i k e', st => (match st with
    | .Assign [.Subscript (.Name x p) y _] e _ => !h && noComp e && noTup e && noSlice y && nameC N sc i (.Name x p) && chkE Γ N none h sc k y && chkE Γ N none h sc e' e
    | _ => false)
  | h, sc, .setc a k e', st => (match st with
    | .Assign [.Subscript x y _] e _ => !h && noComp e && noTup e && noSlice y && chkE Γ N none h sc a x && chkE Γ N none h sc k y && chkE Γ N none h sc e' e
    | _ => false)
  | h, sc, .pushc a e', st => (match st with
    | .Expr (.Call (.Attribute o m ap) [e] [] cp) _ => !h && decide (m = "append") && noCall o && noStar e && (ap.endLine == cp.line) && chkE Γ N none h sc a o && chkE Γ N none h sc e' e
    | _ => false)
  | h, sc, .ex e', st => (match st with
    | .Expr e _ => noComp e && chkE Γ N none h sc e' e
    | _ => false)
  | h, sc, .ret e', st => (match st with
    | .Return (some e) _ => chkE Γ N none h sc e' e
    | _ => false)
  | _, _, .retN, st => (match st with
    | .Return none _ => true
    | _ => false)
  | h, sc, .ife c a b, st => (match st with
    | .If t x y _ => chkT t && chkE Γ N none h sc c t && chkB h sc a x && chkB h sc b y
    | _ => false)
  | h, sc, .loop tg it b, st => (match st with
    | .For tgE itE body [] _ => !h && noSet itE && chkE Γ N (some (isTupTg tgE)) false sc it itE && tgC N sc sc tg tgE && chkB h sc b body
    | _ => false)
  | h, sc, .raise c, st => (match st with
    | .Raise (some (.Call (.Name x _) [.Constant (.str _) _ _] [] _)) none _ => !h && excC Γ sc x c
    | _ => false)
  | h, sc, .tryx b c hb, st => (match st with
    | .Try body [.ExceptHandler (some (.Name x _)) none (s :: suite) _] [] [] _ => !h && excC Γ sc x c && chkB h sc b body && chkB true sc hb (s :: suite)
    | _ => false)
  | h, sc, .tryn b c i hb, st => (match st with
    | .Try body [.ExceptHandler (some (.Name x _)) (some m) (s :: suite) _] [] [] _ => !h && decide (N[i]? = some m) && decide (sc.names.lookup m = some .local) && excC Γ sc x c && chkB h sc b body && chkB true sc hb (s :: suite)
    | _ => false)
  | h, sc, .tryn2 b c hb c2 hb2 i, st => (match st with
    | .Try body [.ExceptHandler (some (.Name x _)) (some m) (s :: suite) _, .ExceptHandler (some (.Name x2 _)) (some m2) (s2 :: suite2) _] [] [] _ => !h && decide (N[i]? = some m) && decide (m2 = m) && decide (sc.names.lookup m = some .local) && excC Γ sc x c && excC Γ sc x2 c2 && chkB h sc b body && chkB true sc hb (s :: suite) && chkB true sc hb2 (s2 :: suite2)
    | _ => false)
  | _, _, .brk, st => (match st with
    | .Break _ => true
    | _ => false)
  | _, _, .cont, st => (match st with
    | .Continue _ => true
    | _ => false)
  | _, _, .pass, st => (match st with
    | .Pass _ => true
    | _ => false)
  | _, _, _, _ => false
def chkB : Bool → Scope → List S → List Stmt → Bool
  | _, _, [], sts => sts.isEmpty
  | h, sc, s :: l, sts => (match s with
    | .frz _ => chkB h sc l sts
    | _ => false) || (match sts with
    | [] => false
    | st :: sts => chkS h sc s st && chkB h sc l sts)
end
theorem chkS_pass (h : Bool) (sc : Scope) (p : Pos) : chkS Γ N h sc .pass (.Pass p) = true := by simp only [chkS]
theorem chkB_nil (h : Bool) (sc : Scope) : chkB Γ N h sc [] [] = true := by simp only [chkB]; rfl
end
section
variable {Γ : Gam} {N : List PySem.Str} {P : Prog} {cf mk : Nat → List T → Store → Res T} {n : Nat} {hot : Bool} {sc : Scope} {X : Cx} {d : D} {W : WX}
/-- the classes of errors ask isinstance rightly -/
def ExcsOk (X : Cx) (d : D) : Prop := ∀ e E, d.xa e = some E → ExcC X.K E
structure OkS (Γ : Gam) (N : List PySem.Str) (sub : Nat → Nat → Bool) (cf : Nat → List T → Store → Res T) (n : Nat) (hot : Bool) (sc : Scope) (X : Cx) (d : D) (W : WX) : Prop where
  o : Ok Γ N sub cf n hot sc X d W
  st : X.stack = X.env :: X.outer
  fr : X.env.frame = some X.env.locals
  fn : X.fn = fun _ => true
  po : hot = false → PassesOwn (model X.prog X.w) X.A X.env X.xe
  xs : ExcsOk X d
def SS (Γ : Gam) (N : List PySem.Str) (P : Prog) (cf mk : Nat → List T → Store → Res T) (n : Nat) (s : S) : Prop := ∀ {hot : Bool} {sc : Scope} {X : Cx} {d : D} {W : WX} {st : Stmt}, OkS Γ N P.sub cf n hot sc X d W → chkS Γ N hot sc s st = true → PS X st (tS d W (ex P cf mk s))
def SB (Γ : Gam) (N : List PySem.Str) (P : Prog) (cf mk : Nat → List T → Store → Res T) (n : Nat) (l : List S) : Prop := ∀ {hot : Bool} {sc : Scope} {X : Cx} {d : D} {W : WX} {sts : List Stmt}, OkS Γ N P.sub cf n hot sc X d W → chkB Γ N hot sc l sts = true → PSs X sts (tS d W (exs P cf mk l))
theorem OkS.tr (k : OkS Γ N P.sub cf n false sc X d W) {pn : List (Addr × Obj)} {xe : Value → Shared → Prop} {W' : WX} (tk : Takes (X.tr pn xe) W') (po : PassesOwn (model X.prog X.w) X.A X.env xe) : OkS Γ N P.sub cf n false sc (X.tr pn xe) d W' := by
  obtain ⟨c1, c2, c3, c4⟩ := k.o.calm rfl
  refine ⟨⟨k.o.hK, k.o.hw, k.o.hN, k.o.nd, k.o.hsc, k.o.un, fun _ => ⟨c1, c2, tk, c4⟩, k.o.val, k.o.fn, fun x c h => ?_, k.o.free⟩, k.st, k.fr, k.fn, fun _ => po, fun e E h => k.xs e E h⟩
  obtain ⟨C, h1, h2, h3, ⟨b1, b2, b3, b4, r1, r2, r3, r4⟩, h5⟩ := k.o.exc x c h
  exact ⟨C, h1, h2, (fun a e hm => absurd (c4 ▸ hm) (by simp)), ⟨b1, b2, b3, b4, r1, r2, r3, r4⟩, h5⟩
theorem const_at {t : T} {v : V} {p : List (Addr × Nat)} (h : ∀ G, RepV d G t v) : ∀ G, RepV (d.at p) G t v := fun G => RepV.at t (h G)
theorem fnG_at {k : Nat} {fa : Addr} {fd : FuncData} {ps : List PySem.Str} {np : Nat} {sem : List T → Store → Res T} {p : List (Addr × Nat)} (F : FnG X.prog X.w X.K X.mg X.base k fa fd ps (spT d np sem)) : FnG X.prog X.w X.K X.mg X.base k fa fd ps (spT (d.at p) np sem) := by
  have imp : ∀ vs H Q E, spT (d.at p) np sem vs H Q E → spT d np sem vs H Q E := fun vs H Q E ⟨hl, G, xs, S, R, ra, q⟩ => by
    refine ⟨hl, G, xs, S, R.back, RepAll.at (d := d.at p) (p := d.pn) xs ra, ?_⟩
    cases es : sem xs S with
    | bad => rw [es] at q; exact q
    | exn c S' => rw [es] at q; exact fun x G' H' ex s' R' => q x G' H' ex s' R'.at
    | ok t S' => rw [es] at q; exact fun G' v H' s' R' rv => q G' v H' s' R'.at (RepV.at t rv)
  exact ⟨fun vs H Q E h => F.len vs H Q E (imp _ _ _ _ h), fun A outer s H args us vs Q E hr e0 hb r h => F.run A outer s H args us vs Q E hr e0 hb r (imp _ _ _ _ h)⟩
theorem OkS.suite (k : OkS Γ N P.sub cf n false sc X d W) {a : Addr} {oe : Obj} {e : Nat} {C : Addr} {pn : List (Addr × Obj)} (hx : d.xa e = some C) (hz : Zc (.ref C) none oe) (hf : ∃ vs, oe.data = .fields vs) :
    OkS Γ N P.sub cf n true sc (X.suite a ((a, oe) :: pn)) (d.at [(a, e)]) W0 := by
  refine ⟨⟨k.o.hK, k.o.hw, k.o.hN, k.o.nd, k.o.hsc, k.o.un, (fun z => by cases z), fun x t h => ?_, fun x f np h => ?_, fun x c h => ?_, k.o.free⟩, k.st, k.fr, k.fn, (fun z => by cases z), fun e E h => k.xs e E h⟩
  · obtain ⟨u, v, h1, h2, h3⟩ := k.o.val x t h
    exact ⟨u, v, h1, h2, const_at h3⟩
  · obtain ⟨fa, fd, ps, k1, k2, k3, k4, k5, k6⟩ := k.o.fn x f np h
    exact ⟨fa, fd, ps, k1, k2, k3, k4, k5, fnG_at k6⟩
  · obtain ⟨C', h1, h2, h3, ⟨b1, b2, b3, b4, r1, r2, r3, r4⟩, h5⟩ := k.o.exc x c h
    refine ⟨C', h1, h2, fun a' e' hm => ?_, ⟨b1, b2, b3, b4, r1, r2, r3, r4⟩, h5⟩
    have hm := List.mem_singleton.mp hm
    cases hm
    exact ⟨C, hx, call_isE (k.xs e C hx) hz hf, (h5 e C hx).2⟩
theorem OkS.cls (k : OkS Γ N P.sub cf n false sc X d W) {x : PySem.Str} {c : Nat} (h : excC Γ sc x c = true) : ∃ C, d.xa c = some C ∧ ClsX X d P.sub x c (.ref C) ∧ RaiseOk X x C ∧ X.mg x = some (.ref C) ∧ Gl X x ∧ (x == ("__debug__" : PySem.Str)) = false := by
  unfold excC at h
  simp only [Bool.and_eq_true] at h
  obtain ⟨g1, g2, g3⟩ := k.o.gl h.1
  have h2 := h.2
  split at h2 <;> try contradiction
  rename_i c' hl
  have hc := of_decide_eq_true h2
  subst hc
  obtain ⟨C, h1, h2, h3, h4, h5⟩ := k.o.exc x _ hl
  exact ⟨C, h1, ⟨⟨g1, g2, .inl h2⟩, fun e E he => (h5 e E he).1⟩, h4, h2, g1, g2⟩
theorem assign_one {tg : Expr} (h : noStar tg = true) (env : PySem.Env) : (assignEach [tg] env).map (·.2) = [assign tg env] := by cases tg <;> first | rfl | (simp [noStar] at h)
theorem no_sole {t e : Expr} (h : noComp e = true) (l : Nat) (env : PySem.Env) : swapsWithSole [t] e l env = pure false := no_swap h (some t) l env
theorem toB_if {m : Env → Store → Res T} {m1 m2 : Env → Store → SRes} {r : Env} {S : Store} : ((m r S).toS r fun x S => match x with
    | .bl true => m1 r S
    | .bl false => m2 r S
    | _ => .bad) = ifM (toB m) m1 m2 r S := by
  unfold ifM toB
  cases m r S with
  | ok t S' => cases t <;> first | rfl | (rename_i b; cases b <;> rfl)
  | _ => rfl
theorem eq_fun {s : S} {m : Env → Store → SRes} (h : ∀ r S, ex P cf mk s r S = m r S) : ex P cf mk s = m := by funext r S; exact h r S
theorem p_asg (tg : Tg) (e' : E) : SS Γ N P cf mk n (.asg tg e') := by
  intro hot sc X d W st k h
  simp only [chkS] at h
  split at h <;> try contradiction
  simp only [Bool.and_eq_true, Bool.not_eq_true', Bool.or_eq_true] at h
  obtain ⟨⟨⟨⟨⟨h1, h2⟩, h3⟩, h4⟩, h5⟩, h6⟩ := h
  subst h1
  obtain ⟨c1, c2, c3, c4⟩ := k.o.calm rfl
  have sa := snd (mk := mk) e' k.o h6 (it_none h6)
  rw [eq_fun (m := asgM tg fun r S => ev P cf mk r e' S) fun r S => by simp only [ex]; rfl]
  exact s_asg k.o.hK sa.ex (tg_of k.o c1 (fun x hx => by rw [k.fn]) h5) (no_swap h3 _ _ _) (h4.elim (fun z => no_pair z _) fun z => name_pair z _) (assign_one h2 _)
theorem p_own (i : Nat) (e' : E) : SS Γ N P cf mk n (.own i e') := by
  intro hot sc X d W st k h
  simp only [chkS] at h
  split at h <;> try contradiction
  rename_i x p e pos
  simp only [Bool.and_eq_true, Bool.not_eq_true'] at h
  obtain ⟨⟨⟨⟨h1, h2⟩, h3⟩, h4⟩, h5⟩ := h
  subst h1
  have sa := snd (mk := mk) e' k.o h5 (it_none h5)
  obtain ⟨x', p', he, n1, n2, n3⟩ := k.o.loc h4
  cases he
  rw [eq_fun (m := ownM i fun r S => ev P cf mk r e' S) fun r S => by simp only [ex]; rfl]
  exact s_own (by rw [k.o.hN]; exact k.o.nd) n1 n2 (sa.new h3) (no_swap h2 _ _ _) (.inl (by rw [k.fn]))
theorem p_push (i : Nat) (e' : E) : SS Γ N P cf mk n (.push i e') := by
  intro hot sc X d W st k h
  simp only [chkS] at h
  split at h <;> try contradiction
  simp only [Bool.and_eq_true, Bool.not_eq_true', decide_eq_true_eq] at h
  obtain ⟨⟨⟨⟨⟨h1, rfl⟩, h3⟩, h4⟩, h5⟩, h6⟩ := h
  subst h1
  have sa := snd (mk := mk) e' k.o h6 (it_none h6)
  obtain ⟨x', p', he, n1, n2, n3, n4⟩ := k.o.name h3
  cases he
  rw [eq_fun (m := pushM i fun r S => ev P cf mk r e' S) fun r S => by simp only [ex]; rfl]
  exact s_push n1 n2 n3 n4 sa.ex (star_cons h4 _ _) (few_of h4 _ _) h5 rfl
theorem p_ext (i : Nat) (e' : E) : SS Γ N P cf mk n (.ext i e') := by
  intro hot sc X d W st k h
  simp only [chkS] at h
  split at h <;> try contradiction
  simp only [Bool.and_eq_true, Bool.not_eq_true', decide_eq_true_eq] at h
  obtain ⟨⟨⟨⟨⟨⟨h1, rfl⟩, h3⟩, h4⟩, h0⟩, h5⟩, h6⟩ := h
  subst h1
  have sa := snd (mk := mk) e' k.o h6 (it_none h6)
  obtain ⟨x', p', he, n1, n2, n3, n4⟩ := k.o.name h3
  cases he
  rw [eq_fun (m := extM i fun r S => ev P cf mk r e' S) fun r S => by simp only [ex]; rfl]
  exact s_ext n1 n2 n3 n4 (sa.new h0) (star_cons h4 _ _) (few_of h4 _ _) h5 rfl
theorem p_seti (i : Nat) (kk e' : E) : SS Γ N P cf mk n (.seti i kk e') := by
  intro hot sc X d W st k h
  simp only [chkS] at h
  split at h <;> try contradiction
  simp only [Bool.and_eq_true, Bool.not_eq_true'] at h
  obtain ⟨⟨⟨⟨⟨⟨h1, h2⟩, h3⟩, h4⟩, h5⟩, h6⟩, h7⟩ := h
  subst h1
  have sk' := snd (mk := mk) kk k.o h6 (it_none h6)
  have sa := snd (mk := mk) e' k.o h7 (it_none h7)
  obtain ⟨x', p', he, n1, n2, n3, n4⟩ := k.o.name h5
  cases he
  rw [eq_fun (m := setiM i (fun r S => ev P cf mk r kk S) fun r S => ev P cf mk r e' S) fun r S => by simp only [ex]; rfl]
  exact s_seti n1 n2 n3 n4 sa.ex sk'.ex (plain_set h4) (no_sole h2 _ _) (no_pair h3 _)
theorem p_setc (a kk e' : E) : SS Γ N P cf mk n (.setc a kk e') := by
  intro hot sc X d W st k h
  simp only [chkS] at h
  split at h <;> try contradiction
  simp only [Bool.and_eq_true, Bool.not_eq_true'] at h
  obtain ⟨⟨⟨⟨⟨⟨h1, h2⟩, h3⟩, h4⟩, h5⟩, h6⟩, h7⟩ := h
  subst h1
  have so := snd (mk := mk) a k.o h5 (it_none h5)
  have sk' := snd (mk := mk) kk k.o h6 (it_none h6)
  have sa := snd (mk := mk) e' k.o h7 (it_none h7)
  rw [eq_fun (m := setcM (fun r S => ev P cf mk r a S) (fun r S => ev P cf mk r kk S) fun r S => ev P cf mk r e' S) fun r S => by simp only [ex]; rfl]
  exact s_setc so.ex sa.ex sk'.ex (plain_set h4) (no_sole h2 _ _) (no_pair h3 _)
theorem p_pushc (a e' : E) : SS Γ N P cf mk n (.pushc a e') := by
  intro hot sc X d W st k h
  simp only [chkS] at h
  split at h <;> try contradiction
  simp only [Bool.and_eq_true, Bool.not_eq_true', decide_eq_true_eq] at h
  obtain ⟨⟨⟨⟨⟨⟨h1, rfl⟩, h3⟩, h4⟩, h5⟩, h6⟩, h7⟩ := h
  subst h1
  have so := snd (mk := mk) a k.o h6 (it_none h6)
  have sa := snd (mk := mk) e' k.o h7 (it_none h7)
  rw [eq_fun (m := pushcM (fun r S => ev P cf mk r a S) fun r S => ev P cf mk r e' S) fun r S => by simp only [ex]; rfl]
  exact s_pushc so.ex sa.ex (no_base h3 _ _ _) (star_cons h4 _ _) (few_of h4 _ _) h5 rfl
theorem p_ex (e' : E) : SS Γ N P cf mk n (.ex e') := by
  intro hot sc X d W st k h
  simp only [chkS] at h
  split at h <;> try contradiction
  simp only [Bool.and_eq_true] at h
  have sa := snd (mk := mk) e' k.o h.2 (it_none h.2)
  rw [eq_fun (m := exM fun r S => ev P cf mk r e' S) fun r S => by simp only [ex]; rfl]
  exact s_ex sa.ex (no_swap h.1 _ _ _)
theorem p_ret (e' : E) : SS Γ N P cf mk n (.ret e') := by
  intro hot sc X d W st k h
  simp only [chkS] at h
  split at h <;> try contradiction
  have sa := snd (mk := mk) e' k.o h (it_none h)
  rw [eq_fun (m := retM fun r S => ev P cf mk r e' S) fun r S => by simp only [ex]; rfl]
  exact s_ret sa.ex
theorem p_retN : SS Γ N P cf mk n .retN := by
  intro hot sc X d W st k h
  simp only [chkS] at h
  split at h <;> try contradiction
  rw [eq_fun (m := fun _ S => .ret .non S) fun r S => by simp only [ex]]
  exact s_retN
theorem p_ife (c : E) (a b : List S) (ha : SB Γ N P cf mk n a) (hb : SB Γ N P cf mk n b) : SS Γ N P cf mk n (.ife c a b) := by
  intro hot sc X d W st k h
  simp only [chkS] at h
  split at h <;> try contradiction
  simp only [Bool.and_eq_true] at h
  obtain ⟨⟨⟨h1, h2⟩, h3⟩, h4⟩ := h
  have sc' := snd (mk := mk) c k.o h2 (it_none h2)
  rw [eq_fun (m := ifM (toB fun r S => ev P cf mk r c S) (exs P cf mk a) (exs P cf mk b)) fun r S => by simp only [ex]; exact toB_if (m := fun r S => ev P cf mk r c S)]
  exact s_if (sc'.test h1) (ha k h3) (hb k h4)
theorem p_loop (tg : Tg) (it : E) (b : List S) (hb : SB Γ N P cf mk n b) : SS Γ N P cf mk n (.loop tg it b) := by
  intro hot sc X d W st k h
  simp only [chkS] at h
  split at h <;> try contradiction
  simp only [Bool.and_eq_true, Bool.not_eq_true'] at h
  obtain ⟨⟨⟨⟨h1, h2⟩, h3⟩, h4⟩, h5⟩ := h
  subst h1
  obtain ⟨c1, c2, c3, c4⟩ := k.o.calm rfl
  rw [eq_fun (m := loopM tg (fun r S => itM (ev P cf mk r it S)) (exs P cf mk b)) fun r S => by simp only [ex]; rfl]
  refine s_loop k.o.hK (fun r S p S' q => still_itM q) (k.po rfl) c1 ?_ (tg_of k.o c1 (fun x hx => by rw [k.fn]) h4) (hb k h5) (no_fold h2 _)
  by_cases hi : isIt it = true
  · exact sndIE it k.o h3 hi
  · exact i_anyE k.o.hK (snd it k.o h3 (by simpa using hi)).ex
theorem p_raise (c : Nat) : SS Γ N P cf mk n (.raise c) := by
  intro hot sc X d W st k h
  simp only [chkS] at h
  split at h <;> try contradiction
  simp only [Bool.and_eq_true, Bool.not_eq_true'] at h
  obtain ⟨h1, h2⟩ := h
  subst h1
  obtain ⟨c1, c2, c3, c4⟩ := k.o.calm rfl
  obtain ⟨C, h1, _, ⟨b1, b2, b3, b4, r1, r2, r3, r4⟩, h4, h5, h6⟩ := k.cls h2
  rw [eq_fun (m := fun r S => .exn c r S) fun r S => by simp only [ex]]
  exact s_raise c1 c3 h1 (pmk_own r1 r2 h4 r3 r4 h5 h6)
theorem p_tryx (b : List S) (c : Nat) (hb : List S) (ib : SB Γ N P cf mk n b) (ih : SB Γ N P cf mk n hb) : SS Γ N P cf mk n (.tryx b c hb) := by
  intro hot sc X d W st k h
  simp only [chkS] at h
  split at h <;> try contradiction
  simp only [Bool.and_eq_true, Bool.not_eq_true'] at h
  obtain ⟨⟨⟨h1, h2⟩, h3⟩, h4⟩ := h
  subst h1
  obtain ⟨c1, c2, c3, c4⟩ := k.o.calm rfl
  obtain ⟨C, k1, k2, _⟩ := k.cls h2
  rw [eq_fun (m := tryM P.sub (exs P cf mk b) [(c, none, exs P cf mk hb)]) fun r S => by
    simp only [ex]
    unfold tryM
    cases exs P cf mk b r S <;> rfl]
  exact s_try k.st k.fr (by rw [k.o.hN]; exact k.o.nd) c3 c4 (fun W' pn xe tk po => ib (k.tr tk po) h3) (.plain k2 (fun a oe e E pn hx hz hf => ih (k.suite hx hz hf) h4) .nil)
theorem p_tryn (b : List S) (c i : Nat) (hb : List S) (ib : SB Γ N P cf mk n b) (ih : SB Γ N P cf mk n hb) : SS Γ N P cf mk n (.tryn b c i hb) := by
  intro hot sc X d W st k h
  simp only [chkS] at h
  split at h <;> try contradiction
  simp only [Bool.and_eq_true, Bool.not_eq_true', decide_eq_true_eq] at h
  obtain ⟨⟨⟨⟨⟨h1, h5⟩, h6⟩, h2⟩, h3⟩, h4⟩ := h
  subst h1
  obtain ⟨c1, c2, c3, c4⟩ := k.o.calm rfl
  obtain ⟨C, k1, k2, _⟩ := k.cls h2
  rw [eq_fun (m := tryM P.sub (exs P cf mk b) [(c, some i, exs P cf mk hb)]) fun r S => by
    simp only [ex]
    unfold tryM
    cases exs P cf mk b r S <;> rfl]
  exact s_try k.st k.fr (by rw [k.o.hN]; exact k.o.nd) c3 c4 (fun W' pn xe tk po => ib (k.tr tk po) h3) (.named (by rw [k.o.hN]; exact h5) (by show X.env.scope.names.lookup _ = _; rw [k.o.hsc]; exact h6) k2 (fun a oe e E pn hx hz hf => ih (k.suite hx hz hf) h4) .nil)
theorem p_tryn2 (b : List S) (c : Nat) (hb : List S) (c2 : Nat) (hb2 : List S) (i : Nat) (ib : SB Γ N P cf mk n b) (ih : SB Γ N P cf mk n hb) (ih2 : SB Γ N P cf mk n hb2) : SS Γ N P cf mk n (.tryn2 b c hb c2 hb2 i) := by
  intro hot sc X d W st k h
  simp only [chkS] at h
  split at h <;> try contradiction
  simp only [Bool.and_eq_true, Bool.not_eq_true', decide_eq_true_eq] at h
  obtain ⟨⟨⟨⟨⟨⟨⟨⟨h1, h5⟩, rfl⟩, h6⟩, h2⟩, h7⟩, h3⟩, h4⟩, h8⟩ := h
  subst h1
  obtain ⟨c1, c2', c3, c4⟩ := k.o.calm rfl
  obtain ⟨C, k1, k2, _⟩ := k.cls h2
  obtain ⟨C2, k3, k4, _⟩ := k.cls h7
  rw [eq_fun (m := tryM P.sub (exs P cf mk b) [(c, some i, exs P cf mk hb), (c2, some i, exs P cf mk hb2)]) fun r S => by
    simp only [ex]
    unfold tryM
    cases exs P cf mk b r S <;> rfl]
  have n1 := (show X.N[i]? = some _ from by rw [k.o.hN]; exact h5)
  have n2 := k.o.hsc.symm ▸ h6
  exact s_try k.st k.fr (by rw [k.o.hN]; exact k.o.nd) c3 c4 (fun W' pn xe tk po => ib (k.tr tk po) h3)
    (.named n1 n2 k2 (fun a oe e E pn hx hz hf => ih (k.suite hx hz hf) h4) (.named n1 n2 k4 (fun a oe e E pn hx hz hf => ih2 (k.suite hx hz hf) h8) .nil))
theorem p_brk : SS Γ N P cf mk n .brk := by
  intro hot sc X d W st k h
  simp only [chkS] at h
  split at h <;> try contradiction
  rw [eq_fun (m := fun r S => .brk r S) fun r S => by simp only [ex]]
  exact s_brk
theorem p_cont : SS Γ N P cf mk n .cont := by
  intro hot sc X d W st k h
  simp only [chkS] at h
  split at h <;> try contradiction
  rw [eq_fun (m := fun r S => .cnt r S) fun r S => by simp only [ex]]
  exact s_cnt
theorem p_pass : SS Γ N P cf mk n .pass := by
  intro hot sc X d W st k h
  simp only [chkS] at h
  split at h <;> try contradiction
  rw [eq_fun (m := fun r S => .nx r S) fun r S => by simp only [ex]]
  exact s_pass
theorem p_nil : SB Γ N P cf mk n [] := by
  intro hot sc X d W sts k h
  simp only [chkB] at h
  cases sts with
  | cons _ _ => simp at h
  | nil =>
    have : exs P cf mk [] = fun r S => .nx r S := by funext r S; simp only [exs]
    rw [this]
    exact s_snil
theorem p_cons (s : S) (l : List S) (hs : SS Γ N P cf mk n s) (hl : SB Γ N P cf mk n l) : SB Γ N P cf mk n (s :: l) := by
  intro hot sc X d W sts k h
  have e1 : exs P cf mk (s :: l) = seqM (ex P cf mk s) (exs P cf mk l) := by
    funext r S
    simp only [exs]
    rfl
  rw [e1]
  simp only [chkB, Bool.or_eq_true] at h
  rcases h with h | h
  · cases s <;> simp only [] at h <;> try contradiction
    rename_i i
    have e2 : ex P cf mk (.frz i) = frzM i := by
      funext r S
      simp only [ex]
      rfl
    rw [e2]
    exact s_frz (hl k h)
  · cases sts with
    | nil => cases h
    | cons st sts =>
      simp only [Bool.and_eq_true] at h
      exact s_scons (hs k h.1) (hl k h.2)
mutual
theorem sndS : ∀ s : S, SS Γ N P cf mk n s
  | .asg tg e => p_asg tg e
  | .own i e => p_own i e
  | .push i e => p_push i e
  | .ext i e => p_ext i e
  | .seti i k e => p_seti i k e
  | .setc a k e => p_setc a k e
  | .pushc a e => p_pushc a e
  | .attr _ _ _ => fun _ h => by simp [chkS] at h
  | .ex e => p_ex e
  | .ret e => p_ret e
  | .retN => p_retN
  | .ife c a b => p_ife c a b (sndB a) (sndB b)
  | .loop tg it b => p_loop tg it b (sndB b)
  | .raise c => p_raise c
  | .tryx b c h => p_tryx b c h (sndB b) (sndB h)
  | .tryn b c i h => p_tryn b c i h (sndB b) (sndB h)
  | .tryn2 b c h c2 h2 i => p_tryn2 b c h c2 h2 i (sndB b) (sndB h) (sndB h2)
  | .frz _ => fun _ h => by simp [chkS] at h
  | .brk => p_brk
  | .cont => p_cont
  | .pass => p_pass
theorem sndB : ∀ l : List S, SB Γ N P cf mk n l
  | [] => p_nil
  | s :: l => p_cons s l (sndS s) (sndB l)
end
end
end Hf
end

section
set_option Elab.async false
set_option linter.all false
set_option maxRecDepth 100000
set_option maxHeartbeats 4000000
/-! HfS21: every def of the text keeps what the evaluator says, by the fuel. -/
namespace Hf
open PySem PySem.Spec PyProof.Rows L2
/-- a def of the text beside its small syntax -/
structure DefOk (Γ : Gam) (K : PySem.W.Frag) (D : FDef) (fa : Addr) (fd : FuncData) (ps : List PySem.Str) : Prop where
  ex : ∃ (name qual : PySem.Str) (params : Arguments) (body : List Stmt) (scope : Scope) (dvs : List V) (kws : List (PySem.Str × V)) (N : List PySem.Str), FunD K name qual params body scope dvs kws fa fd ∧ FnScope N ps scope ∧ N.length = D.ns ∧ chkB Γ N false scope D.body body = true
  np : ps.length = D.np
  bd : Binds K fd ps []
/-- what the top has left behind -/
structure TopOk (Γ : Gam) (P : Prog) (K : PySem.W.Frag) (mg : PySem.Str → Option Value) (w : World) (d : D) : Prop where
  hK : d.K = K
  hw : d.w = w
  pn : d.pn = []
  val : ∀ x t, Γ.names.lookup x = some (.val t) → ∃ u v, mg x = some u ∧ RelV v u ∧ ∀ G, RepV d G t v
  fn : ∀ x f np, Γ.names.lookup x = some (.fn f np) → ∃ D fa fd ps, P.defs f = some D ∧ D.np = np ∧ mg x = some (.ref fa) ∧ d.fa f = some fa ∧ DefOk Γ K D fa fd ps
  exc : ∀ x c, Γ.names.lookup x = some (.exc c) → ∃ C, d.xa c = some C ∧ mg x = some (.ref C) ∧ (∃ (bmB : List Value) (B newId initId : String), ExcBaseFacts B newId initId bmB ∧ PySem.W.excIn K C bmB newId = true ∧ PySem.W.keepIn K (.ref C) = true ∧ PySem.W.subIn K (.ref C) (.type "BaseException") = some true ∧ PySem.W.typeIn K (.ref C) = some (.type "type")) ∧
    ∀ e E, d.xa e = some E → PySem.W.exmOne K (.ref E) (.ref C) = some (P.sub e c) ∧ PySem.W.kitOne K (.ref E) (.ref C) = some (P.sub e c)
  xs : ∀ e E, d.xa e = some E → ExcC K E
  free : ∀ x, Γ.free.contains x = true → mg x = none
section
variable {Γ : Gam} {P : Prog} {K : PySem.W.Frag} {mg : PySem.Str → Option Value} {w : World} {d : D} {prog : Program} {base : Heap}
theorem fn_all (tp : TopOk Γ P K mg w d) : ∀ (n : Nat) {f : Nat} {D : FDef} {fa : Addr} {fd : FuncData} {ps : List PySem.Str}, P.defs f = some D → DefOk Γ K D fa fd ps → FnG prog w K mg base (2 * n) fa fd ps (spT d D.np (call P n f))
  | 0, f, D, fa, fd, ps, hD, ok => by
    have no : ∀ vs H Q E, ¬ spT d D.np (call P 0 f) vs H Q E := fun vs H Q E ⟨_, G, xs, S, _, _, q⟩ => by
      simp only [call] at q
      exact q
    exact ⟨fun vs H Q E h => (no _ _ _ _ h).elim, fun A outer s H args us vs Q E _ _ _ _ h => (no _ _ _ _ h).elim⟩
  | n + 1, f, D, fa, fd, ps, hD, ok => by
    obtain ⟨name, qual, params, body, scope, dvs, kws, N, F, SC, hns, hchk⟩ := ok.ex
    obtain ⟨oc, od, dV, kV, doc, pm, an, cdv, ct, osl, rfl, lk, hcd, _, _⟩ := F.ex
    have e1 : call P (n + 1) f = runM ps.length N.length (exs P (call P n) (make P n) D.body) := by
      funext xs S
      simp only [call, hD]
      unfold runF runM startE
      rw [ok.np, hns]
    rw [e1, ← ok.np]
    refine fn_tree (k := 2 * n + 1) lk hcd SC fun X W hp hw hXK hmg hbase hN hsc hfn hcalm hfr hst hroom tk po => ?_
    refine sndB (mk := make P n) D.body ⟨⟨tp.hK.trans hXK.symm, tp.hw.trans hw.symm, hN, SC.nd, hsc, by have := hroom.r.units; omega, fun _ => ⟨hcalm, hroom, tk, tp.pn⟩, fun x t h => ?_, fun x f' np h => ?_, fun x c h => ?_, fun x h => by rw [hmg]; exact tp.free x h⟩, hst, hfr, hfn, fun _ => po, fun e E h => by rw [hXK]; exact tp.xs e E h⟩ hchk
    · obtain ⟨u, v, h1, h2, h3⟩ := tp.val x t h
      exact ⟨u, v, by rw [hmg]; exact h1, h2, h3⟩
    · obtain ⟨D', fa', fd', ps', k1, k2, k3, k4, k5⟩ := tp.fn x f' np h
      have IH := fn_all tp n k1 k5
      obtain ⟨_, _, _, _, _, _, _, _, F', _⟩ := k5.ex
      refine ⟨fa', fd', ps', by rw [hmg]; exact k3, k4, by rw [hXK]; exact F'.kp, by rw [hXK]; exact k5.bd, by rw [k5.np]; exact k2, ?_⟩
      rw [hp, hw, hXK, hmg, hbase, ← k2]
      exact IH
    · obtain ⟨C, h1, h2, ⟨b1, b2, b3, b4, r0, r1, r2, r3, r4⟩, h5⟩ := tp.exc x c h
      exact ⟨C, h1, by rw [hmg]; exact h2, (fun a e hm => by rw [tp.pn] at hm; cases hm), ⟨b1, b2, b3, b4, r0, by rw [hXK]; exact r1, by rw [hXK]; exact r2, raises_own (by rw [hXK]; exact r3) (by rw [hXK]; exact r4)⟩, fun e E he => by rw [hXK]; exact h5 e E he⟩
end
end Hf
end

section
set_option Elab.async false
set_option linter.all false
set_option maxRecDepth 100000
set_option maxHeartbeats 4000000
/-! HfS22: the law's end. -/
namespace Hf
open PySem PySem.Spec PyProof.Rows L2
/-- no list stands in the module's own part -/
def NoLists (K : PySem.W.Frag) : Prop := ∀ b o, K.lookup b = some o → o.cls ≠ .type "list"
theorem law_callG {P : Program} {w : World} {K : PySem.W.Frag} {mg mb : PySem.Str → Option Value} {k : Nat} {fa a : Addr} {fd : FuncData} {x : PySem.Str} {sp : Sp} {s₁ : Shared} {vs : List Value} {ns : List Int}
    (KX : K.In s₁.heap) (hns : s₁.heap.Ns mainGlobals mg) (hb : s₁.heap.Ns builtinsNs mb) (hbb : ∀ x : PySem.Str, x ≠ "__name__" → mb x = bootBuiltins x) (hlim : s₁.heap.NoLimit) (hg : s₁.gens = #[])
    (ha : s₁.heap.get? a = some { cls := .type "list", data := .seq vs.toArray }) (hi : IntsAre vs ns) (hl : ns.length ≤ sizeLine) (hr : RoomG k callerA) (nl : NoLists K)
    (F : ∀ base : Heap, K.In base → base.Ns mainGlobals mg → FnG P w K mg base k fa fd [x] sp) (hbind : ∀ (s : Shared) (u : Value), BindsTo s fd ⟨[u], []⟩ [(x, u)])
    (hsp : ∀ H : Hp, Only H → L2.Rd H a (.lst (ns.map V.int)) → sp [.ref a] H (fun v _ => v = .bl true) fun _ _ _ => False)
    (hCX : ∀ H e s', L2.CX P w [] H s₁ (fun _ _ _ => False) e s' → False) :
    codeAny (model P w) callerA (.call (.ref fa) ⟨[.ref a], []⟩) (fun r s' => r = .ok (.ret (.bool true)) ∧ OldK s₁.heap s'.heap ∧ s'.os = s₁.os ∧ AllBare s'.gens) s₁ := by
  have rv := vals_ints hi
  have lenV := hi.length
  have hKa : K.lookup a = none := by
    cases hk : K.lookup a with
    | none => rfl
    | some o =>
      have e := KX a o hk
      rw [ha] at e
      cases e
      exact absurd rfl (nl a _ hk)
  obtain ⟨H, hH⟩ : ∃ H : Hp, H = fun b => if b = a then some (.frz { cls := .type "list", data := .seq vs.toArray } (.lst (ns.map V.int))) else none := ⟨_, rfl⟩
  have Ha : H a = some (.frz { cls := .type "list", data := .seq vs.toArray } (.lst (ns.map V.int))) := by rw [hH]; exact if_pos rfl
  have Hn : ∀ b, b ≠ a → H b = none := fun b hb => by rw [hH]; exact if_neg hb
  have hO : Only H := fun b => by
    by_cases hb : b = a
    · rw [hb]; exact .inr ⟨_, _, Ha⟩
    · exact .inl (Hn b hb)
  have hA : ∀ b, H b ≠ none → b = a := fun b z => by
    by_cases hb : b = a
    · exact hb
    · exact absurd (Hn b hb) z
  have hok : HOk P w H s₁.heap := fun b u z => by
    by_cases hb : b = a
    · subst hb
      rw [Ha] at z; cases z
      exact ⟨ha, by rw [List.length_map]; exact hl, vs, _, rv, ha⟩
    · rw [Hn b hb] at z; cases z
  have base_of : ∀ {b : Addr} {o : Obj}, s₁.heap.get? b = some o → H b = none → (hidT s₁.heap H).get? b = some o := fun e n => hidT_get e n
  have noA : ∀ {b : Addr} {o : Obj} {es : Array DictEntry} {ep : Nat}, s₁.heap.get? b = some o → o.data = .dict es ep → H b = none := fun {b o es ep} e d => by
    cases q : H b with
    | none => rfl
    | some u =>
      have e' : b = a := hA b (by rw [q]; simp)
      subst e'
      rw [ha] at e; cases e
      have d' : Data.seq vs.toArray _ = Data.dict es ep := d
      cases d'
  have nsK : ∀ {b : Addr} {m : PySem.Str → Option Value}, s₁.heap.Ns b m → (hidT s₁.heap H).Ns b m := fun {b m} ⟨o, es, ep, e, d, r⟩ => ⟨o, es, ep, base_of e (noA e d), d, r⟩
  have hKb : K.In (hidT s₁.heap H) := fun b o e => base_of (KX b o e) (by
    cases q : H b with
    | none => rfl
    | some u =>
      have e' : b = a := hA b (by rw [q]; simp)
      subst e'
      rw [hKa] at e; cases e)
  have hM : Mod K mg (hidT s₁.heap H) := ⟨hKb, nsK hns, ⟨mb, nsK hb, hbb⟩, let ⟨mc, h1, h2⟩ := hlim; ⟨mc, nsK h1, h2⟩⟩
  have e0 : Env0 P w K mg (hidT s₁.heap H) callerA [] s₁ H := ⟨rfl, hM, fun b o e => of_hidT e, Nat.le_of_eq (hidT_size _ _), trivial, fun b hb => absurd (show b ∈ ([] : List Addr) from hb) (by simp), hok, .of_eq hg⟩
  refine codeAny_mono ((F _ hKb (nsK hns)).run callerA [] s₁ H ⟨[.ref a], []⟩ [.ref a] [.ref a] _ _ hr e0 (hbind s₁ (.ref a)) (.cons rfl .nil) (hsp H hO (.inr ⟨_, Ha⟩))) fun r s' h => ?_
  cases r with
  | error e => exact (hCX H e s' h).elim
  | ok fl =>
    cases fl with
    | next => exact False.elim h
    | brk => exact False.elim h
    | cont => exact False.elim h
    | ret u =>
      obtain ⟨v, H', os, bare, un, hok', r', q⟩ := h
      have q' : v = .bl true := q
      subst q'
      obtain rfl : u = Value.bool true := r'
      refine ⟨rfl, OldK.of_keep fun b o e => ?_, os, bare⟩
      cases q : H b with
      | none => exact un.keep b o e q (by intro z; exact absurd (show b ∈ ([] : List Addr) from z) (by simp)) (by simp)
      | some u =>
        rcases hO b with z | ⟨ob, xs, z⟩
        · rw [q] at z; cases z
        · have z2 := un.frzs b ob _ z
          obtain ⟨e1, _⟩ := hok b _ z
          obtain ⟨e2, _⟩ := hok' b _ z2
          rw [e] at e1; cases e1
          exact e2
/-- the law's promise, from the evaluator's answer -/
theorem sp_law {d : D} {n : Nat} {sem : List T → Store → Res T} {ns : List Int} {H : Hp} {a : Addr} (hn : n = 1) (hl : ns.length ≤ sizeLine) (hO : Only H) (hr : L2.Rd H a (.lst (ns.map V.int))) (law : ∃ S', sem [.lst (ns.map .int)] [] = .ok (.bl true) S') :
    spT d n sem [.ref a] H (fun v _ => v = .bl true) fun _ _ _ => False := by
  obtain ⟨S', e⟩ := law
  refine ⟨hn.symm ▸ rfl, ⟨H, []⟩, [.lst (ns.map .int)], [], ⟨fun _ _ z => z, rfl, fun n xs z => by simp at z, List.nodup_nil, fun _ z => by cases z⟩, ⟨⟨a, ns.map V.int, rfl, hr, by rw [List.length_map]; exact hl, ints_reps ns⟩, trivial⟩, ?_⟩
  rw [e]
  exact fun G' v H' _ _ rv => rv
/-- a law by trees: F gives what the top has left, the law's def among it -/
theorem walk_ofG {l : PySem.W.OpenLaw} {n k : Nat} {q : Program} {loose : List PySem.Str} {XP : (PySem.Str → Option Value) → Heap → Prop} {YP : World → Heap → Prop} {d : DefRec} {x : PySem.Str}
    (hn : l.most = some n) (hn2 : n ≤ sizeLine) (hdf : d.params.defaults = []) (hr : Room k callerA)
    (F : ∀ (w : World) (mg : PySem.Str → Option Value) (fa : Addr) (h : Heap), YP w h → h.Ns mainGlobals mg → mg d.name = some (.ref fa) →
      ∃ (K : PySem.W.Frag) (fd : FuncData) (sp : Sp), K.In h ∧ NoLists K ∧ (∀ (s : Shared) (u : Value), BindsTo s fd ⟨[u], []⟩ [(x, u)]) ∧
        (∀ (H : Hp) (a : Addr) (ns : List Int), ns.length ≤ n → Only H → L2.Rd H a (.lst (ns.map V.int)) → sp [.ref a] H (fun v _ => v = .bl true) fun _ _ _ => False) ∧
        ∀ base : Heap, K.In base → base.Ns mainGlobals mg → FnG l.prog w K mg base k fa fd [x] sp)
    (hCX : ∀ (w : World) (H : Hp) (s : Shared) (e : Value) (s' : Shared), L2.CX l.prog w [] H s (fun _ _ _ => False) e s' → False) :
    PySem.W.WalkO q loose XP YP l.row.toRowW d [] (fun f vs => PySem.call f vs) := by
  refine Att.attach_call hn hdf fun w s₀ s₁ mg mb fa o pm cd doc a vs ns G Y ho hd hcd hmg hobj hints hlen hg => ?_
  obtain ⟨K, fd, sp, KX, nl, hb, hsp, hF⟩ := F w mg fa _ Y G.T.g hmg
  exact law_callG KX G.T.g G.T.b G.T.builtins G.T.nolimit hg hobj hints (Nat.le_trans hlen hn2) ⟨hr, rfl⟩ nl hF hb (fun H hO hS => hsp H a ns hlen hO hS) fun H e s' => hCX w H s₁ e s'
/-- nothing is wished of an error: none is let out -/
theorem cx_none {P : Program} {w : World} {H : Hp} {s : Shared} {e : Value} {s' : Shared} (h : L2.CX P w [] H s (fun _ _ _ => False) e s') : False := by
  obtain ⟨_, _, _, _, _, _, _, _, _, _, _, _, h⟩ := h
  exact h
end Hf
end

section
set_option Elab.async false
set_option linter.all false
set_option maxRecDepth 100000
set_option maxHeartbeats 4000000
/-! HfS23: the module's own values as trees, checked. -/
namespace Hf
open PySem PySem.Spec PyProof.Rows L2
section
variable (K : PySem.W.Frag) (ts : List Addr)
mutual
def vB : T → Value → Bool
  | .non, u => (match u with
    | .none => true
    | _ => false)
  | .bl b, u => (match u with
    | .bool c => b == c
    | _ => false)
  | .int i, u => (match u with
    | .int j _ => decide (i = j)
    | _ => false)
  | .str s, u => (match u with
    | .str x _ => decide (x = sk s) && decide (s.length ≤ 16777216) && s.all fun k => decide (k < 0x110000)
    | _ => false)
  | .tup xs, u => (match u with
    | .ref a => (match K.lookup a with
      | some ⟨c, _, .seq its _, _⟩ => decide (c = .type "tuple") && decide (its.size ≤ 16777216) && vsB xs its.toList
      | _ => false)
    | _ => false)
  | .dic kvs, u => (match u with
    | .ref a => ts.contains a && (match K.lookup a with
      | some ⟨_, _, .dict es _, _⟩ => kB kvs es.toList
      | _ => false)
    | _ => false)
  | _, _ => false
def vsB : List T → List Value → Bool
  | [], [] => true
  | x :: xs, u :: us => vB x u && vsB xs us
  | _, _ => false
def kB : List (T × T) → List DictEntry → Bool
  | [], [] => true
  | (k, x) :: xs, e :: es => (match k with
    | .str s => (match e.key with
      | .str y _ => decide (y = sk s)
      | _ => false)
    | _ => false) && vB x e.val && kB xs es
  | _, _ => false
end
end
section
variable {K : PySem.W.Frag} {w : World} {d : D} {ts : List Addr}
theorem kB_find : ∀ {kvs : List (T × T)} {es : List DictEntry} {vs : List V} (z : List Nat), kB K ts kvs es = true → Vals vs (es.map (·.val)) → es.any (·.refKey) = false ∧ ((es.find? (·.key.isStr (sk z)) = none ∧ dlookV (kvs.map (·.1)) vs z = none) ∨ ∃ e v, es.find? (·.key.isStr (sk z)) = some e ∧ dlookV (kvs.map (·.1)) vs z = some v ∧ RelV v e.val)
  | [], [], vs, z, _, r => by
    cases r
    exact ⟨rfl, .inl ⟨rfl, rfl⟩⟩
  | [], _ :: _, _, _, h, _ => by simp [kB] at h
  | _ :: _, [], _, _, h, _ => by simp [kB] at h
  | (k, x) :: kvs, e :: es, vs, z, h, r => by
    simp only [kB, Bool.and_eq_true] at h
    obtain ⟨⟨h1, h2⟩, h3⟩ := h
    cases k <;> simp only [] at h1 <;> try contradiction
    rename_i s
    cases ek : e.key <;> rw [ek] at h1 <;> simp only [] at h1 <;> try contradiction
    rename_i y t
    have hy := of_decide_eq_true h1
    subst hy
    cases r with
    | cons r rr =>
      rename_i v vs
      obtain ⟨a1, a2⟩ := kB_find z h3 rr
      refine ⟨?_, ?_⟩
      · show (e.refKey || es.any (·.refKey)) = false
        rw [a1]
        unfold PySem.DictEntry.refKey
        rw [ek]; rfl
      · by_cases q : s = z
        · subst q
          refine .inr ⟨e, v, ?_, ?_, r⟩
          · rw [List.find?_cons]
            have : e.key.isStr (sk s) = true := by rw [ek]; simp [Value.isStr]
            rw [this]
          · show (if s = s then some v else _) = _
            rw [if_pos rfl]
        · have f1 : e.key.isStr (sk z) = false := by
            rw [ek]
            have : ¬ sk s = sk z := fun e => q (skInj e)
            simp [Value.isStr, this]
          rw [List.find?_cons, f1]
          have f2 : dlookV (((T.str s, x) :: kvs).map (·.1)) (v :: vs) z = dlookV (kvs.map (·.1)) vs z := by
            show (if s = z then some v else dlookV (kvs.map (·.1)) vs z) = _
            rw [if_neg q]
          rw [f2]
          exact a2
mutual
theorem vB_ok (hK : d.K = K) (hw : d.w = w) (kd : ∀ a, ts.contains a = true → ∃ es n, KDict K w a es n) : ∀ (t : T) {u : Value}, vB K ts t u = true → ∃ v, RelV v u ∧ ∀ G, RepV d G t v
  | .non, u, h => by
    cases u <;> simp [vB] at h
    exact ⟨.non, rfl, fun _ => rfl⟩
  | .bl b, u, h => by
    cases u <;> simp [vB] at h
    subst h
    exact ⟨.bl _, rfl, fun _ => rfl⟩
  | .int i, u, h => by
    cases u <;> simp [vB] at h
    subst h
    exact ⟨.int _, ⟨_, rfl⟩, fun _ => rfl⟩
  | .str s, u, h => by
    cases u <;> simp only [vB, Bool.and_eq_true, decide_eq_true_eq] at h <;> try contradiction
    obtain ⟨⟨rfl, h2⟩, h3⟩ := h
    exact ⟨.str _, ⟨_, rfl⟩, fun _ => ⟨rfl, by rw [sizeLine_eq]; exact h2, h3⟩⟩
  | .tup xs, u, h => by
    cases u <;> simp only [vB] at h <;> try contradiction
    rename_i a
    split at h <;> try contradiction
    rename_i c dd its n sl hl
    simp only [Bool.and_eq_true, decide_eq_true_eq] at h
    obtain ⟨⟨rfl, h2⟩, h3⟩ := h
    obtain ⟨vs, r1, r2⟩ := vsB_ok hK hw kd xs h3
    have hz : vs.length ≤ sizeLine := by rw [r1.length, sizeLine_eq]; simpa using h2
    exact ⟨.ref a, rfl, fun G => ⟨a, vs, rfl, .inr ⟨_, its, n, by rw [hK]; exact hl, rfl, rfl, by rw [sizeLine_eq]; exact h2, r1⟩, hz, r2 G⟩⟩
  | .dic kvs, u, h => by
    cases u <;> simp only [vB, Bool.and_eq_true] at h <;> try contradiction
    rename_i a
    obtain ⟨h1, h2⟩ := h
    split at h2 <;> try contradiction
    rename_i c dd es n sl hl
    obtain ⟨es', n', KD⟩ := kd a h1
    have he := KD.at_
    rw [hl] at he
    cases he
    obtain ⟨vs, r1, r2⟩ := kB_ok hK hw kd kvs h2
    refine ⟨.ref a, rfl, fun G => ⟨a, vs, rfl, .inr ⟨es, n, by rw [hK, hw]; exact KD, fun z => ?_⟩, r2 G⟩⟩
    obtain ⟨f1, f2⟩ := kB_find z h2 r1
    rw [hK]
    unfold PySem.W.nsIn
    rw [hl]
    rcases f2 with ⟨g1, g2⟩ | ⟨e, v, g1, g2, g3⟩
    · refine ⟨none, ?_, by rw [g2]; exact trivial⟩
      simp only [g1, f1]
      rfl
    · refine ⟨some e.val, ?_, by rw [g2]; exact g3⟩
      simp only [g1]
  | .lst _, _, h => by simp [vB] at h
  | .ref _, _, h => by simp [vB] at h
  | .fn _, _, h => by simp [vB] at h
  | .ins _ _, _, h => by simp [vB] at h
theorem kB_ok (hK : d.K = K) (hw : d.w = w) (kd : ∀ a, ts.contains a = true → ∃ es n, KDict K w a es n) : ∀ (xs : List (T × T)) {es : List DictEntry}, kB K ts xs es = true → ∃ vs, Vals vs (es.map (·.val)) ∧ ∀ G, RepKs d G xs vs
  | [], es, h => by
    cases es with
    | cons _ _ => simp [kB] at h
    | nil => exact ⟨[], .nil, fun _ => trivial⟩
  | (k, x) :: xs, es, h => by
    cases es with
    | nil => simp [kB] at h
    | cons e es =>
      simp only [kB, Bool.and_eq_true] at h
      obtain ⟨v, r1, r2⟩ := vB_ok hK hw kd x h.1.2
      obtain ⟨vs, s1, s2⟩ := kB_ok hK hw kd xs h.2
      exact ⟨v :: vs, .cons r1 s1, fun G => ⟨r2 G, s2 G⟩⟩
theorem vsB_ok (hK : d.K = K) (hw : d.w = w) (kd : ∀ a, ts.contains a = true → ∃ es n, KDict K w a es n) : ∀ (xs : List T) {us : List Value}, vsB K ts xs us = true → ∃ vs, Vals vs us ∧ ∀ G, RepAll d G xs vs
  | [], us, h => by
    cases us with
    | cons _ _ => simp [vsB] at h
    | nil => exact ⟨[], .nil, fun _ => trivial⟩
  | x :: xs, us, h => by
    cases us with
    | nil => simp [vsB] at h
    | cons u us =>
      simp only [vsB, Bool.and_eq_true] at h
      obtain ⟨v, r1, r2⟩ := vB_ok hK hw kd x h.1
      obtain ⟨vs, s1, s2⟩ := vsB_ok hK hw kd xs h.2
      exact ⟨v :: vs, .cons r1 s1, fun G => ⟨r2 G, s2 G⟩⟩
end
end
end Hf
end

section
set_option Elab.async false
set_option linter.all false
set_option maxRecDepth 100000
set_option maxHeartbeats 4000000
/-! HfS24: what the top has left behind, from the head's facts. -/
namespace Hf
open PySem PySem.Spec PyProof.Rows L2
/-- what a text names: defs (name, number, parameters), values, errors, what stays a built-in -/
structure Tell where
  fns : List (PySem.Str × Nat × Nat)
  vals : List (PySem.Str × T)
  excs : List (PySem.Str × Nat)
  free : List PySem.Str
def Tell.gam (t : Tell) : Gam := ⟨t.fns.map (fun p => (p.1, .fn p.2.1 p.2.2)) ++ t.vals.map (fun p => (p.1, .val p.2)) ++ t.excs.map (fun p => (p.1, .exc p.2)), t.free⟩
def Tell.d (t : Tell) (K : PySem.W.Frag) (w : World) : D where
  K := K
  w := w
  fa := fun f => (t.fns.find? fun p => decide (p.2.1 = f)).map fun p => He.ga K p.1
  ca := fun _ => none
  xa := fun c => (t.excs.find? fun p => decide (p.2 = c)).map fun p => He.ga K p.1
  an := fun _ => ""
  as := []
  pn := []
  sf := none
def excCB (K : PySem.W.Frag) (D : Addr) : Bool :=
  decide (PySem.W.findIn K (.ref D) "__getattribute__" = some (some (.builtin "BaseException.__getattribute__"))) && decide (PySem.W.findIn K (.ref D) "__getattr__" = some none) && decide (PySem.W.subIn K (.ref D) (.type "BaseException") = some true) && PySem.W.hasDictIn K D &&
    decide (PySem.W.findIn K (.ref D) "__class__" = some (some (.builtin "object.__class__"))) && decide (PySem.W.specialIn K (.builtin "object.__class__") "__get__" = some (some (.builtin "getset_descriptor.__get__"))) && decide (PySem.W.takesIn K (.builtin "object.__class__") = some true) && decide (PySem.W.mroIn K D (.type "object") = some true)
theorem excCB_ok {K : PySem.W.Frag} {D : Addr} (h : excCB K D = true) : ExcC K D := by
  unfold excCB at h
  simp only [Bool.and_eq_true, decide_eq_true_eq] at h
  obtain ⟨⟨⟨⟨⟨⟨⟨h1, h2⟩, h3⟩, h4⟩, h5⟩, h6⟩, h7⟩, h8⟩ := h
  exact ⟨h1, h2, h3, h4, h5, h6, h7, h8⟩
def noListB (K : PySem.W.Frag) : Bool := K.all fun p => !decide (p.2.cls = .type "list")
theorem noListB_ok {K : PySem.W.Frag} (h : noListB K = true) : NoLists K := fun b o e q => by
  have := List.all_eq_true.mp h _ (He.lookup_mem e)
  simp [q] at this
/-- more facts of the module's part -/
def exB (t : Tell) (sub : Nat → Nat → Bool) (ts : List (PySem.W.Frag → Addr)) (K : PySem.W.Frag) : Bool :=
  noListB K && (t.vals.all fun p => match PySem.W.nsIn K mainGlobals p.1 with
    | some (some u) => vB K (ts.map fun f => f K) p.2 u
    | _ => false) && (t.excs.all fun p => excCB K (He.ga K p.1) && t.excs.all fun q =>
      decide (PySem.W.exmOne K (.ref (He.ga K q.1)) (.ref (He.ga K p.1)) = some (sub q.2 p.2)) && decide (PySem.W.kitOne K (.ref (He.ga K q.1)) (.ref (He.ga K p.1)) = some (sub q.2 p.2)))
def Tell.wfB (t : Tell) : Bool := (t.fns.all fun p => decide ((t.fns.find? fun q => decide (q.2.1 = p.2.1)).map (·.1) = some p.1)) && t.excs.all fun p => decide ((t.excs.find? fun q => decide (q.2 = p.2)).map (·.1) = some p.1)
theorem mem_gam {t : Tell} {x : PySem.Str} {b : Bnd} (h : t.gam.names.lookup x = some b) : (∃ f np, b = .fn f np ∧ (x, f, np) ∈ t.fns) ∨ (∃ u, b = .val u ∧ (x, u) ∈ t.vals) ∨ ∃ c, b = .exc c ∧ (x, c) ∈ t.excs := by
  have m : (x, b) ∈ t.gam.names := PySem.mem_of_lookup h
  unfold Tell.gam at m
  simp only [List.mem_append, List.mem_map] at m
  rcases m with (⟨p, hp, e⟩ | ⟨p, hp, e⟩) | ⟨p, hp, e⟩
  · cases e; exact .inl ⟨_, _, rfl, hp⟩
  · cases e; exact .inr (.inl ⟨_, rfl, hp⟩)
  · cases e; exact .inr (.inr ⟨_, rfl, hp⟩)
theorem top_ok {t : Tell} {P : Prog} {K : PySem.W.Frag} {mg : PySem.Str → Option Value} {w : World} {h : Heap} {ts : List (PySem.W.Frag → Addr)} (KX : K.In h) (G : h.Ns mainGlobals mg) (wf : t.wfB = true)
    (hf : ∀ p ∈ t.fns, (He.Fa.glo p.1).ok K = true) (hx : ∀ p ∈ t.excs, (He.Fa.glo p.1).ok K = true ∧ (He.Fa.exc p.1).ok K = true) (hfr : ∀ x ∈ t.free, (He.Fa.free x).ok K = true) (ex : exB t P.sub ts K = true)
    (kd : ∀ f ∈ ts, ∃ es n, KDict K w (f K) es n) (hd : ∀ p ∈ t.fns, ∃ D fd ps, P.defs p.2.1 = some D ∧ D.np = p.2.2 ∧ DefOk t.gam K D (He.ga K p.1) fd ps) : TopOk t.gam P K mg w (t.d K w) ∧ NoLists K := by
  unfold exB at ex
  simp only [Bool.and_eq_true, List.all_eq_true] at ex
  obtain ⟨⟨e1, e2⟩, e3⟩ := ex
  unfold Tell.wfB at wf
  simp only [Bool.and_eq_true, List.all_eq_true, decide_eq_true_eq] at wf
  obtain ⟨w1, w2⟩ := wf
  have hfa : ∀ p ∈ t.fns, (t.d K w).fa p.2.1 = some (He.ga K p.1) := fun p hp => by
    have q := w1 p hp
    show (t.fns.find? _).map _ = _
    cases r : t.fns.find? fun q => decide (q.2.1 = p.2.1) with
    | none => rw [r] at q; cases q
    | some z =>
      rw [r] at q
      have q' : z.1 = p.1 := Option.some.inj q
      show some (He.ga K z.1) = _
      rw [q']
  have hxa : ∀ p ∈ t.excs, (t.d K w).xa p.2 = some (He.ga K p.1) := fun p hp => by
    have q := w2 p hp
    show (t.excs.find? _).map _ = _
    cases r : t.excs.find? fun q => decide (q.2 = p.2) with
    | none => rw [r] at q; cases q
    | some z =>
      rw [r] at q
      have q' : z.1 = p.1 := Option.some.inj q
      show some (He.ga K z.1) = _
      rw [q']
  have xa_of : ∀ {c : Nat} {C : Addr}, (t.d K w).xa c = some C → ∃ p ∈ t.excs, p.2 = c ∧ C = He.ga K p.1 := fun {c C} e => by
    have e : (t.excs.find? fun p => decide (p.2 = c)).map (fun p => He.ga K p.1) = some C := e
    obtain ⟨p, h1, h2⟩ := Option.map_eq_some_iff.mp e
    exact ⟨p, List.mem_of_find?_eq_some h1, by simpa using List.find?_some h1, h2.symm⟩
  refine ⟨⟨rfl, rfl, rfl, fun x u hl => ?_, fun x f np hl => ?_, fun x c hl => ?_, fun e E he => ?_, fun x hc => ?_⟩, noListB_ok e1⟩
  · rcases mem_gam hl with ⟨_, _, e, _⟩ | ⟨_, e, hm⟩ | ⟨_, e, _⟩ <;> cases e
    have q := e2 _ hm
    split at q <;> try contradiction
    rename_i v hv
    obtain ⟨vv, r1, r2⟩ := vB_ok (d := t.d K w) (w := w) rfl rfl (fun a ha => by
      have ha' : a ∈ ts.map fun f => f K := by simpa using ha
      obtain ⟨f, hf', rfl⟩ := List.mem_map.mp ha'
      exact kd f hf') u q
    exact ⟨v, vv, PySem.W.mg_of KX G hv, r1, r2⟩
  · rcases mem_gam hl with ⟨_, _, e, hm⟩ | ⟨_, e, _⟩ | ⟨_, e, _⟩ <;> cases e
    obtain ⟨D, fd, ps, k1, k2, k3⟩ := hd _ hm
    exact ⟨D, _, fd, ps, k1, k2, He.glo_ok KX G (hf _ hm), hfa _ hm, k3⟩
  · rcases mem_gam hl with ⟨_, _, e, _⟩ | ⟨_, e, _⟩ | ⟨_, e, hm⟩ <;> cases e
    obtain ⟨g1, g2⟩ := hx _ hm
    obtain ⟨k1, k2, k3, k4⟩ := He.exc_ok g2
    have q := e3 _ hm
    simp only [decide_eq_true_eq] at q
    refine ⟨_, hxa _ hm, He.glo_ok KX G g1, ⟨_, _, _, _, PySem.F.excBase_ValueError, k1, k2, k3, k4⟩, fun e E he => ?_⟩
    obtain ⟨p, hp, rfl, rfl⟩ := xa_of he
    exact q.2 p hp
  · obtain ⟨p, hp, rfl, rfl⟩ := xa_of he
    exact excCB_ok (e3 p hp).1
  · exact He.free_ok KX G (hfr x (by simpa [Tell.gam] using hc))
end Hf
end

section
/-! The small syntax of a linked text, printed by tr.py. -/
namespace Hf
namespace P20
def c_LONGEST : T := .int 8
def c_KINDS : T := .dic [(.str [116, 111, 108, 100], .tup [.str [110, 117, 109, 98, 101, 114, 115], .str [114, 111, 119, 115]]), (.str [111, 110, 101], .tup []), (.str [116, 114, 117, 116, 104], .tup []), (.str [98, 111, 116, 104], .tup [.str [107, 105, 110, 100], .str [107, 105, 110, 100]]), (.str [101, 105, 116, 104, 101, 114], .tup [.str [107, 105, 110, 100], .str [107, 105, 110, 100]]), (.str [109, 97, 112, 115], .tup [.str [107, 105, 110, 100], .str [107, 105, 110, 100]]), (.str [115, 101, 116, 115], .tup [.str [107, 105, 110, 100]]), (.str [112, 97, 114, 116], .tup [.str [110, 97, 109, 101], .str [107, 105, 110, 100], .str [102, 111, 114, 109, 117, 108, 97]])]
def c_TERMS : T := .dic [(.str [110, 97, 109, 101], .tup [.str [110, 97, 109, 101]]), (.str [115, 116, 97, 114], .tup []), (.str [102, 105, 120, 101, 100], .tup [.str [107, 105, 110, 100], .str [101, 108, 101, 109, 101, 110, 116, 115]]), (.str [99, 97, 108, 108], .tup [.str [107, 105, 110, 100], .str [107, 105, 110, 100], .str [108, 105, 115, 116, 115], .str [116, 101, 114, 109]]), (.str [112, 97, 105, 114], .tup [.str [116, 101, 114, 109], .str [116, 101, 114, 109]]), (.str [102, 105, 114, 115, 116], .tup [.str [116, 101, 114, 109]]), (.str [115, 101, 99, 111, 110, 100], .tup [.str [116, 101, 114, 109]]), (.str [108, 101, 102, 116], .tup [.str [116, 101, 114, 109], .str [107, 105, 110, 100]]), (.str [114, 105, 103, 104, 116], .tup [.str [107, 105, 110, 100], .str [116, 101, 114, 109]]), (.str [99, 97, 115, 101, 115], .tup [.str [116, 101, 114, 109], .str [110, 97, 109, 101], .str [116, 101, 114, 109], .str [110, 97, 109, 101], .str [116, 101, 114, 109]]), (.str [102, 117, 110], .tup [.str [110, 97, 109, 101], .str [107, 105, 110, 100], .str [116, 101, 114, 109]]), (.str [97, 112, 112], .tup [.str [116, 101, 114, 109], .str [116, 101, 114, 109]]), (.str [115, 101, 116], .tup [.str [110, 97, 109, 101], .str [107, 105, 110, 100], .str [102, 111, 114, 109, 117, 108, 97]]), (.str [119, 104, 101, 110], .tup [.str [102, 111, 114, 109, 117, 108, 97]]), (.str [105, 110, 116, 111], .tup [.str [110, 97, 109, 101], .str [107, 105, 110, 100], .str [102, 111, 114, 109, 117, 108, 97], .str [116, 101, 114, 109]]), (.str [111, 117, 116], .tup [.str [116, 101, 114, 109]]), (.str [116, 104, 101], .tup [.str [110, 97, 109, 101], .str [107, 105, 110, 100], .str [102, 111, 114, 109, 117, 108, 97]])]
def c_FORMULAS : T := .dic [(.str [116, 114, 117, 101], .tup []), (.str [102, 97, 108, 115, 101], .tup []), (.str [115, 111], .tup [.str [116, 101, 114, 109]]), (.str [101, 113, 117, 97, 108], .tup [.str [116, 101, 114, 109], .str [116, 101, 114, 109]]), (.str [105, 110], .tup [.str [116, 101, 114, 109], .str [116, 101, 114, 109]]), (.str [97, 110, 100], .tup [.str [102, 111, 114, 109, 117, 108, 97], .str [102, 111, 114, 109, 117, 108, 97]]), (.str [111, 114], .tup [.str [102, 111, 114, 109, 117, 108, 97], .str [102, 111, 114, 109, 117, 108, 97]]), (.str [105, 102], .tup [.str [102, 111, 114, 109, 117, 108, 97], .str [102, 111, 114, 109, 117, 108, 97]]), (.str [110, 111, 116], .tup [.str [102, 111, 114, 109, 117, 108, 97]]), (.str [97, 108, 108], .tup [.str [110, 97, 109, 101], .str [107, 105, 110, 100], .str [102, 111, 114, 109, 117, 108, 97]]), (.str [115, 111, 109, 101], .tup [.str [110, 97, 109, 101], .str [107, 105, 110, 100], .str [102, 111, 114, 109, 117, 108, 97]])]
def c_DERIVATIONS : T := .dic [(.str [103, 105, 118, 101, 110], .tup [.str [110, 117, 109, 98, 101, 114]]), (.str [116, 114, 117, 108, 121], .tup []), (.str [97, 98, 115, 117, 114, 100], .tup [.str [100, 101, 114, 105, 118, 97, 116, 105, 111, 110], .str [102, 111, 114, 109, 117, 108, 97]]), (.str [98, 111, 116, 104], .tup [.str [100, 101, 114, 105, 118, 97, 116, 105, 111, 110], .str [100, 101, 114, 105, 118, 97, 116, 105, 111, 110]]), (.str [111, 110, 101], .tup [.str [100, 101, 114, 105, 118, 97, 116, 105, 111, 110]]), (.str [111, 116, 104, 101, 114], .tup [.str [100, 101, 114, 105, 118, 97, 116, 105, 111, 110]]), (.str [108, 101, 102, 116], .tup [.str [100, 101, 114, 105, 118, 97, 116, 105, 111, 110], .str [102, 111, 114, 109, 117, 108, 97]]), (.str [114, 105, 103, 104, 116], .tup [.str [102, 111, 114, 109, 117, 108, 97], .str [100, 101, 114, 105, 118, 97, 116, 105, 111, 110]]), (.str [101, 105, 116, 104, 101, 114], .tup [.str [100, 101, 114, 105, 118, 97, 116, 105, 111, 110], .str [100, 101, 114, 105, 118, 97, 116, 105, 111, 110], .str [100, 101, 114, 105, 118, 97, 116, 105, 111, 110]]), (.str [115, 117, 112, 112, 111, 115, 101], .tup [.str [102, 111, 114, 109, 117, 108, 97], .str [100, 101, 114, 105, 118, 97, 116, 105, 111, 110]]), (.str [102, 111, 108, 108, 111, 119], .tup [.str [100, 101, 114, 105, 118, 97, 116, 105, 111, 110], .str [100, 101, 114, 105, 118, 97, 116, 105, 111, 110]]), (.str [100, 101, 110, 121], .tup [.str [102, 111, 114, 109, 117, 108, 97], .str [100, 101, 114, 105, 118, 97, 116, 105, 111, 110]]), (.str [99, 108, 97, 115, 104], .tup [.str [100, 101, 114, 105, 118, 97, 116, 105, 111, 110], .str [100, 101, 114, 105, 118, 97, 116, 105, 111, 110]]), (.str [97, 110, 121], .tup [.str [110, 97, 109, 101], .str [107, 105, 110, 100], .str [100, 101, 114, 105, 118, 97, 116, 105, 111, 110]]), (.str [97, 116], .tup [.str [100, 101, 114, 105, 118, 97, 116, 105, 111, 110], .str [116, 101, 114, 109]]), (.str [119, 105, 116, 110, 101, 115, 115], .tup [.str [110, 97, 109, 101], .str [107, 105, 110, 100], .str [102, 111, 114, 109, 117, 108, 97], .str [116, 101, 114, 109], .str [100, 101, 114, 105, 118, 97, 116, 105, 111, 110]]), (.str [116, 97, 107, 101], .tup [.str [100, 101, 114, 105, 118, 97, 116, 105, 111, 110], .str [110, 97, 109, 101], .str [100, 101, 114, 105, 118, 97, 116, 105, 111, 110]]), (.str [115, 97, 109, 101], .tup [.str [116, 101, 114, 109]]), (.str [115, 119, 97, 112], .tup [.str [100, 101, 114, 105, 118, 97, 116, 105, 111, 110], .str [110, 97, 109, 101], .str [107, 105, 110, 100], .str [102, 111, 114, 109, 117, 108, 97], .str [100, 101, 114, 105, 118, 97, 116, 105, 111, 110]]), (.str [114, 101, 99, 107, 111, 110], .tup [.str [116, 101, 114, 109]]), (.str [111, 110, 108, 121], .tup [.str [116, 101, 114, 109]]), (.str [112, 97, 114, 116, 115], .tup [.str [116, 101, 114, 109]]), (.str [97, 108, 105, 107, 101], .tup [.str [100, 101, 114, 105, 118, 97, 116, 105, 111, 110]]), (.str [109, 101, 109, 98, 101, 114, 115], .tup [.str [100, 101, 114, 105, 118, 97, 116, 105, 111, 110]]), (.str [116, 114, 117, 116, 104, 115], .tup [.str [100, 101, 114, 105, 118, 97, 116, 105, 111, 110]]), (.str [101, 110, 116, 101, 114], .tup [.str [110, 97, 109, 101], .str [107, 105, 110, 100], .str [102, 111, 114, 109, 117, 108, 97], .str [116, 101, 114, 109], .str [100, 101, 114, 105, 118, 97, 116, 105, 111, 110]]), (.str [108, 101, 97, 118, 101], .tup [.str [100, 101, 114, 105, 118, 97, 116, 105, 111, 110]]), (.str [109, 101, 97, 110], .tup [.str [100, 101, 114, 105, 118, 97, 116, 105, 111, 110]]), (.str [109, 101, 97, 110, 116], .tup [.str [100, 101, 114, 105, 118, 97, 116, 105, 111, 110]]), (.str [97, 112, 97, 114, 116], .tup [.str [100, 101, 114, 105, 118, 97, 116, 105, 111, 110]]), (.str [100, 114, 111, 112], .tup [.str [100, 101, 114, 105, 118, 97, 116, 105, 111, 110]]), (.str [115, 105, 100, 101, 115], .tup [.str [116, 101, 114, 109], .str [110, 97, 109, 101], .str [110, 97, 109, 101]]), (.str [119, 105, 116, 104, 105, 110], .tup [.str [116, 101, 114, 109]]), (.str [111, 117, 116, 115], .tup [.str [100, 101, 114, 105, 118, 97, 116, 105, 111, 110]]), (.str [102, 111, 117, 110, 100], .tup [.str [116, 101, 114, 109]])]
def c_SORTS : T := .dic [(.str [107, 105, 110, 100], c_KINDS), (.str [116, 101, 114, 109], c_TERMS), (.str [102, 111, 114, 109, 117, 108, 97], c_FORMULAS), (.str [100, 101, 114, 105, 118, 97, 116, 105, 111, 110], c_DERIVATIONS)]
def c_OVER : T := .tup [.tup [.str [116, 101, 114, 109], .str [99, 97, 115, 101, 115], .int 3, .int 2], .tup [.str [116, 101, 114, 109], .str [99, 97, 115, 101, 115], .int 5, .int 4], .tup [.str [116, 101, 114, 109], .str [102, 117, 110], .int 3, .int 1], .tup [.str [116, 101, 114, 109], .str [115, 101, 116], .int 3, .int 1], .tup [.str [116, 101, 114, 109], .str [116, 104, 101], .int 3, .int 1], .tup [.str [102, 111, 114, 109, 117, 108, 97], .str [97, 108, 108], .int 3, .int 1], .tup [.str [102, 111, 114, 109, 117, 108, 97], .str [115, 111, 109, 101], .int 3, .int 1], .tup [.str [100, 101, 114, 105, 118, 97, 116, 105, 111, 110], .str [97, 110, 121], .int 3, .int 1], .tup [.str [100, 101, 114, 105, 118, 97, 116, 105, 111, 110], .str [116, 97, 107, 101], .int 3, .int 2], .tup [.str [100, 101, 114, 105, 118, 97, 116, 105, 111, 110], .str [119, 105, 116, 110, 101, 115, 115], .int 3, .int 1], .tup [.str [100, 101, 114, 105, 118, 97, 116, 105, 111, 110], .str [115, 119, 97, 112], .int 4, .int 2], .tup [.str [100, 101, 114, 105, 118, 97, 116, 105, 111, 110], .str [101, 110, 116, 101, 114], .int 3, .int 1]]
def c_ALONE : T := .tup [.tup [.str [107, 105, 110, 100], .str [112, 97, 114, 116], .int 3, .int 1], .tup [.str [116, 101, 114, 109], .str [105, 110, 116, 111], .int 3, .int 1]]
/-- N: value sign -/
def d_is_name : FDef := ⟨1, 2, [
  .ife (.or (.not (.isi (.v 0) .str)) (.not (.chain .le .le (.k (.int 1)) (.bi .len [(.v 0)]) (.g [76, 79, 78, 71, 69, 83, 84] (c_LONGEST))))) [.ret (.k (.bl false))] [],
  .ret (.bi .all [(.comp (.chain .le .le (.k (.str [97])) (.v 1) (.k (.str [122]))) (.n 1) (.v 0))])]⟩
def Nd_is_name : List (List Nat) := [[118, 97, 108, 117, 101], [115, 105, 103, 110]]
/-- N: value part -/
def d_is_element : FDef := ⟨1, 2, [
  .ife (.isi (.v 0) .tup) [.ret (.bi .all [(.comp (.call 39 [(.v 1)]) (.n 1) (.v 0))])] [],
  .ret (.isi (.v 0) .int)]⟩
def Nd_is_element : List (List Nat) := [[118, 97, 108, 117, 101], [112, 97, 114, 116]]
/-- N: value depth part -/
def d_is_row : FDef := ⟨2, 3, [
  .ife (.cmp .eq (.v 1) (.k (.int 0))) [.ret (.call 39 [(.v 0)])] [],
  .ret (.and (.isi (.v 0) .tup) (.bi .all [(.comp (.call 40 [(.v 2), (.op .sub (.v 1) (.k (.int 1)))]) (.n 2) (.v 0))]))]⟩
def Nd_is_row : List (List Nat) := [[118, 97, 108, 117, 101], [100, 101, 112, 116, 104], [112, 97, 114, 116]]
/-- N: value depth part -/
def d_is_plain : FDef := ⟨2, 3, [
  .ife (.cmp .eq (.v 1) (.k (.int 0))) [.ret (.isi (.v 0) .int)] [],
  .ret (.and (.isi (.v 0) .tup) (.bi .all [(.comp (.call 41 [(.v 2), (.op .sub (.v 1) (.k (.int 1)))]) (.n 2) (.v 0))]))]⟩
def Nd_is_plain : List (List Nat) := [[118, 97, 108, 117, 101], [100, 101, 112, 116, 104], [112, 97, 114, 116]]
/-- N: value sort at part -/
def d_is_written : FDef := ⟨2, 4, [
  .ife (.cmp .isin (.v 1) (.g [83, 79, 82, 84, 83] (c_SORTS))) [.ife (.or (.not (.isi (.v 0) .tup)) (.or (.cmp .eq (.bi .len [(.v 0)]) (.k (.int 0))) (.not (.isi (.sub (.v 0) (.k (.int 0))) .str)))) [.ret (.k (.bl false))] [], .ife (.or (.cmp .notin (.sub (.v 0) (.k (.int 0))) (.sub (.g [83, 79, 82, 84, 83] (c_SORTS)) (.v 1))) (.cmp .ne (.bi .len [(.sub (.sub (.g [83, 79, 82, 84, 83] (c_SORTS)) (.v 1)) (.sub (.v 0) (.k (.int 0))))]) (.op .sub (.bi .len [(.v 0)]) (.k (.int 1))))) [.ret (.k (.bl false))] [], .ret (.bi .all [(.comp (.call 42 [(.sub (.v 0) (.op .add (.v 2) (.k (.int 1)))), (.v 3)]) (.t [2, 3]) (.enum (.sub (.sub (.g [83, 79, 82, 84, 83] (c_SORTS)) (.v 1)) (.sub (.v 0) (.k (.int 0))))))])] [],
  .ife (.cmp .eq (.v 1) (.k (.str [110, 97, 109, 101]))) [.ret (.call 38 [(.v 0)])] [],
  .ife (.cmp .isin (.v 1) (.tup [(.k (.str [101, 108, 101, 109, 101, 110, 116, 115])), (.k (.str [108, 105, 115, 116, 115]))])) [.ret (.call 40 [(.v 0), (.ife (.cmp .eq (.v 1) (.k (.str [101, 108, 101, 109, 101, 110, 116, 115]))) (.k (.int 1)) (.k (.int 2)))])] [],
  .ret (.call 41 [(.v 0), (.sub (.dict [(.str [110, 117, 109, 98, 101, 114] : T), (.str [110, 117, 109, 98, 101, 114, 115] : T), (.str [114, 111, 119, 115] : T)] [(.k (.int 0)), (.k (.int 1)), (.k (.int 2))]) (.v 1))])]⟩
def Nd_is_written : List (List Nat) := [[118, 97, 108, 117, 101], [115, 111, 114, 116], [97, 116], [112, 97, 114, 116]]
/-- N: right -/
def d_check_form : FDef := ⟨1, 1, [
  .ife (.not (.v 0)) [.raise 2] []]⟩
def Nd_check_form : List (List Nat) := [[114, 105, 103, 104, 116]]
/-- N: value sort at part -/
def d_parts_of : FDef := ⟨2, 4, [
  .ret (.compI (.tup [(.op .add (.v 2) (.k (.int 1))), (.v 3)]) (.t [2, 3]) (.enum (.sub (.sub (.g [83, 79, 82, 84, 83] (c_SORTS)) (.v 1)) (.sub (.v 0) (.k (.int 0))))) (.cmp .isin (.v 3) (.g [83, 79, 82, 84, 83] (c_SORTS))))]⟩
def Nd_parts_of : List (List Nat) := [[118, 97, 108, 117, 101], [115, 111, 114, 116], [97, 116], [112, 97, 114, 116]]
def d_told_name_b1 : List S := [.ife (.and (.cmp .eq (.v 4) (.v 2)) (.and (.cmp .eq (.v 5) (.sub (.v 1) (.k (.int 0)))) (.cmp .eq (.v 6) (.v 3)))) [.ret (.sub (.v 1) (.v 7))] []]
/-- N: rows value sort at kind word part name -/
def d_told_name : FDef := ⟨4, 8, [
  .loop (.t [4, 5, 6, 7]) (.v 0) d_told_name_b1,
  .ret (.k (.non))]⟩
def Nd_told_name : List (List Nat) := [[114, 111, 119, 115], [118, 97, 108, 117, 101], [115, 111, 114, 116], [97, 116], [107, 105, 110, 100], [119, 111, 114, 100], [112, 97, 114, 116], [110, 97, 109, 101]]
/-- N: value sort at -/
def d_name_over : FDef := ⟨3, 3, [
  .ret (.call 45 [(.g [79, 86, 69, 82] (c_OVER)), (.v 0), (.v 1), (.v 2)])]⟩
def Nd_name_over : List (List Nat) := [[118, 97, 108, 117, 101], [115, 111, 114, 116], [97, 116]]
/-- N: value sort at -/
def d_name_alone : FDef := ⟨3, 3, [
  .ret (.call 45 [(.g [65, 76, 79, 78, 69] (c_ALONE)), (.v 0), (.v 1), (.v 2)])]⟩
def Nd_name_alone : List (List Nat) := [[118, 97, 108, 117, 101], [115, 111, 114, 116], [97, 116]]
def d_is_free_b1 : List S := [.ife (.and (.isK false (.call 47 [(.v 0), (.v 1), (.v 3)]) (.non)) (.cmp .ne (.call 46 [(.v 0), (.v 1), (.v 3)]) (.v 2))) [.ife (.call 48 [(.sub (.v 0) (.v 3)), (.v 4), (.v 2)]) [.ret (.k (.bl true))] []] []]
/-- N: value sort name at part -/
def d_is_free : FDef := ⟨3, 5, [
  .ife (.cmp .eq (.v 1) (.k (.str [107, 105, 110, 100]))) [.ret (.k (.bl false))] [],
  .ife (.and (.cmp .eq (.v 1) (.k (.str [116, 101, 114, 109]))) (.cmp .eq (.sub (.v 0) (.k (.int 0))) (.k (.str [110, 97, 109, 101])))) [.ret (.cmp .eq (.sub (.v 0) (.k (.int 1))) (.v 2))] [],
  .loop (.t [3, 4]) (.call 44 [(.v 0), (.v 1)]) d_is_free_b1,
  .ret (.k (.bl false))]⟩
def Nd_is_free : List (List Nat) := [[118, 97, 108, 117, 101], [115, 111, 114, 116], [110, 97, 109, 101], [97, 116], [112, 97, 114, 116]]
def d_put_in_b1 : List S := [.asg (.n 7) (.call 46 [(.v 0), (.v 1), (.v 5)]), .ife (.and (.isK false (.call 47 [(.v 0), (.v 1), (.v 5)]) (.non)) (.and (.cmp .ne (.v 7) (.v 2)) (.call 48 [(.sub (.v 0) (.v 5)), (.v 6), (.v 2)]))) [.ife (.and (.isK true (.v 7) (.non)) (.call 48 [(.v 3), (.k (.str [116, 101, 114, 109])), (.v 7)])) [.raise 8] [], .seti 4 (.v 5) (.call 49 [(.sub (.v 0) (.v 5)), (.v 6), (.v 2), (.v 3)])] []]
/-- N: value sort name term made at part over -/
def d_put_in : FDef := ⟨4, 8, [
  .ife (.or (.cmp .eq (.v 1) (.k (.str [107, 105, 110, 100]))) (.not (.call 48 [(.v 0), (.v 1), (.v 2)]))) [.ret (.v 0)] [],
  .ife (.and (.cmp .eq (.v 1) (.k (.str [116, 101, 114, 109]))) (.cmp .eq (.sub (.v 0) (.k (.int 0))) (.k (.str [110, 97, 109, 101])))) [.ret (.v 3)] [],
  .own 4 (.lof (.v 0)),
  .loop (.t [5, 6]) (.call 44 [(.v 0), (.v 1)]) d_put_in_b1,
  .ret (.tof (.v 4))]⟩
def Nd_put_in : List (List Nat) := [[118, 97, 108, 117, 101], [115, 111, 114, 116], [110, 97, 109, 101], [116, 101, 114, 109], [109, 97, 100, 101], [97, 116], [112, 97, 114, 116], [111, 118, 101, 114]]
/-- N: thing name term sort -/
def d_put : FDef := ⟨3, 4, [
  .asg (.n 3) (.ife (.call 42 [(.v 0), (.k (.str [116, 101, 114, 109]))]) (.k (.str [116, 101, 114, 109])) (.k (.str [102, 111, 114, 109, 117, 108, 97]))),
  .ex (.call 43 [(.call 42 [(.v 0), (.v 3)])]),
  .ex (.call 43 [(.call 38 [(.v 1)])]),
  .ex (.call 43 [(.call 42 [(.v 2), (.k (.str [116, 101, 114, 109]))])]),
  .ret (.call 49 [(.v 0), (.v 3), (.v 1), (.v 2)])]⟩
def Nd_put : List (List Nat) := [[116, 104, 105, 110, 103], [110, 97, 109, 101], [116, 101, 114, 109], [115, 111, 114, 116]]
/-- N: told part sign -/
def d_l_read : FDef := ⟨1, 3, [
  .ife (.or (.isK false (.v 0) (.non)) (.or (.isK false (.v 0) (.bl true)) (.isK false (.v 0) (.bl false)))) [.ret (.v 0)] [],
  .ife (.isi (.v 0) .int) [.ret (.bi .int [(.v 0)])] [],
  .ife (.isi (.v 0) .str) [.ret (.join (.comp (.v 2) (.n 2) (.v 0)))] [],
  .ife (.isi (.v 0) .tup) [.ret (.tof (.comp (.call 9 [(.v 1)]) (.n 1) (.v 0)))] [],
  .ret (.ife (.isi (.v 0) .lst) (.comp (.call 9 [(.v 1)]) (.n 1) (.v 0)) (.k (.str [115, 111, 109, 101, 116, 104, 105, 110, 103, 32, 101, 108, 115, 101])))]⟩
def Nd_l_read : List (List Nat) := [[116, 111, 108, 100], [112, 97, 114, 116], [115, 105, 103, 110]]
/-- N: script k -/
def d_l_cell : FDef := ⟨2, 2, [
  .ret (.ife (.cmp .lt (.v 1) (.bi .len [(.v 0)])) (.bi .int [(.sub (.v 0) (.v 1))]) (.k (.int 0)))]⟩
def Nd_l_cell : List (List Nat) := [[115, 99, 114, 105, 112, 116], [107]]
/-- N: script k -/
def d_l_stream : FDef := ⟨2, 2, [
  .ret (.cell (.disp [(.bi .abs [(.call 10 [(.v 0), (.v 1)])]), (.op .add (.op .mod (.bi .abs [(.call 10 [(.v 0), (.v 1)])]) (.k (.int 1000003))) (.k (.int 7)))]))]⟩
def Nd_l_stream : List (List Nat) := [[115, 99, 114, 105, 112, 116], [107]]
/-- N: box many told -/
def d_l_draw : FDef := ⟨2, 3, [
  .ife (.cmp .gt (.sub (.v 0) (.k (.int 0))) (.k (.int 0))) [.asg (.n 2) (.op .mod (.sub (.v 0) (.k (.int 0))) (.v 1)), .setc (.v 0) (.k (.int 0)) (.op .fdiv (.sub (.v 0) (.k (.int 0))) (.v 1)), .ret (.bi .int [(.v 2)])] [],
  .setc (.v 0) (.k (.int 1)) (.op .mod (.bi .int [(.op .add (.op .mul (.sub (.v 0) (.k (.int 1))) (.k (.int 48271))) (.k (.int 12345)))]) (.k (.int 2147483647))),
  .ret (.op .mod (.bi .int [(.op .fdiv (.sub (.v 0) (.k (.int 1))) (.k (.int 64)))]) (.v 1))]⟩
def Nd_l_draw : List (List Nat) := [[98, 111, 120], [109, 97, 110, 121], [116, 111, 108, 100]]
/-- N: formula -/
def d_l_shapes : FDef := ⟨1, 1, [
  .ife (.v 0) [.ret (.disp [(.tup [(.k (.str [116, 114, 117, 101])), (.k (.str []))]), (.tup [(.k (.str [102, 97, 108, 115, 101])), (.k (.str []))]), (.tup [(.k (.str [115, 111])), (.k (.str [116]))]), (.tup [(.k (.str [101, 113, 117, 97, 108])), (.k (.str [116, 116]))]), (.tup [(.k (.str [105, 110])), (.k (.str [116, 116]))]), (.tup [(.k (.str [97, 110, 100])), (.k (.str [102, 102]))]), (.tup [(.k (.str [111, 114])), (.k (.str [102, 102]))]), (.tup [(.k (.str [105, 102])), (.k (.str [102, 102]))]), (.tup [(.k (.str [110, 111, 116])), (.k (.str [102]))]), (.tup [(.k (.str [97, 108, 108])), (.k (.str [110, 107, 112]))]), (.tup [(.k (.str [115, 111, 109, 101])), (.k (.str [110, 107, 112]))])])] [],
  .ret (.disp [(.tup [(.k (.str [110, 97, 109, 101])), (.k (.str [110]))]), (.tup [(.k (.str [115, 116, 97, 114])), (.k (.str []))]), (.tup [(.k (.str [102, 105, 120, 101, 100])), (.k (.str [107, 105]))]), (.tup [(.k (.str [99, 97, 108, 108])), (.k (.str [107, 107, 109, 116]))]), (.tup [(.k (.str [112, 97, 105, 114])), (.k (.str [116, 116]))]), (.tup [(.k (.str [102, 105, 114, 115, 116])), (.k (.str [116]))]), (.tup [(.k (.str [115, 101, 99, 111, 110, 100])), (.k (.str [116]))]), (.tup [(.k (.str [108, 101, 102, 116])), (.k (.str [116, 107]))]), (.tup [(.k (.str [114, 105, 103, 104, 116])), (.k (.str [107, 116]))]), (.tup [(.k (.str [99, 97, 115, 101, 115])), (.k (.str [116, 110, 115, 110, 114]))]), (.tup [(.k (.str [102, 117, 110])), (.k (.str [110, 107, 115]))]), (.tup [(.k (.str [97, 112, 112])), (.k (.str [116, 116]))]), (.tup [(.k (.str [115, 101, 116])), (.k (.str [110, 107, 112]))]), (.tup [(.k (.str [119, 104, 101, 110])), (.k (.str [102]))]), (.tup [(.k (.str [105, 110, 116, 111])), (.k (.str [110, 107, 111, 116]))]), (.tup [(.k (.str [111, 117, 116])), (.k (.str [116]))]), (.tup [(.k (.str [116, 104, 101])), (.k (.str [110, 107, 112]))])])]⟩
def Nd_l_shapes : List (List Nat) := [[102, 111, 114, 109, 117, 108, 97]]
/-- N: box -/
def d_l_name : FDef := ⟨1, 1, [
  .ret (.sub (.disp [(.k (.str [120])), (.k (.str [121])), (.k (.str [122])), (.k (.str [122, 122])), (.k (.str [97, 98, 99, 100, 101, 102, 103, 104]))]) (.op .fdiv (.op .mul (.call 12 [(.v 0), (.k (.int 8))]) (.k (.int 5))) (.k (.int 8))))]⟩
def Nd_l_name : List (List Nat) := [[98, 111, 120]]
/-- N: box depth pick name -/
def d_l_kind : FDef := ⟨2, 4, [
  .asg (.n 2) (.call 12 [(.v 0), (.ife (.cmp .gt (.v 1) (.k (.int 0))) (.k (.int 9)) (.k (.int 4)))]),
  .ife (.cmp .eq (.v 2) (.k (.int 0))) [.ret (.tup [(.k (.str [111, 110, 101]))])] [],
  .ife (.cmp .eq (.v 2) (.k (.int 1))) [.ret (.tup [(.k (.str [116, 114, 117, 116, 104]))])] [],
  .ife (.cmp .lt (.v 2) (.k (.int 4))) [.ret (.tup [(.k (.str [116, 111, 108, 100])), (.sliceR (.tup [(.k (.int 1)), (.op .add (.k (.int 2)) (.v 2))]) (.op .add (.k (.int 1)) (.call 12 [(.v 0), (.k (.int 2))]))), (.tup [(.tup [(.k (.int 0))]), (.tup [(.k (.int 0)), (.k (.int 1))])])])] [],
  .ife (.cmp .lt (.v 2) (.k (.int 7))) [.ret (.tup [(.sub (.disp [(.k (.str [98, 111, 116, 104])), (.k (.str [101, 105, 116, 104, 101, 114])), (.k (.str [109, 97, 112, 115]))]) (.op .sub (.v 2) (.k (.int 4)))), (.call 53 [(.v 0), (.op .sub (.v 1) (.k (.int 1)))]), (.call 53 [(.v 0), (.op .sub (.v 1) (.k (.int 1)))])])] [],
  .ife (.cmp .eq (.v 2) (.k (.int 7))) [.ret (.tup [(.k (.str [115, 101, 116, 115])), (.call 53 [(.v 0), (.op .sub (.v 1) (.k (.int 1)))])])] [],
  .asg (.n 3) (.call 52 [(.v 0)]),
  .ret (.tup [(.k (.str [112, 97, 114, 116])), (.v 3), (.call 53 [(.v 0), (.op .sub (.v 1) (.k (.int 1)))]), (.tup [(.k (.str [101, 113, 117, 97, 108])), (.tup [(.k (.str [110, 97, 109, 101])), (.v 3)]), (.tup [(.k (.str [110, 97, 109, 101])), (.call 52 [(.v 0)])])])])]⟩
def Nd_l_kind : List (List Nat) := [[98, 111, 120], [100, 101, 112, 116, 104], [112, 105, 99, 107], [110, 97, 109, 101]]
def d_l_thing_b1 : List S := [.ife (.cmp .eq (.v 6) (.k (.str [110]))) [.push 5 (.call 52 [(.v 0)])] [.ife (.cmp .eq (.v 6) (.k (.str [107]))) [.push 5 (.call 53 [(.v 0), (.k (.int 1))])] [.ife (.cmp .isin (.v 6) (.k (.str [116, 115, 114]))) [.push 5 (.call 54 [(.v 0), (.k (.bl false)), (.bi .max2 [(.k (.int 0)), (.op .sub (.v 2) (.k (.int 1)))])])] [.ife (.cmp .isin (.v 6) (.k (.str [102, 112, 111]))) [.push 5 (.call 54 [(.v 0), (.k (.bl true)), (.bi .max2 [(.k (.int 0)), (.op .sub (.v 2) (.k (.int 1)))])])] [.ife (.cmp .eq (.v 6) (.k (.str [105]))) [.push 5 (.sub (.disp [(.tup [(.k (.int 0)), (.k (.int 1))]), (.tup []), (.tup [(.tup [(.tup [(.k (.int 0))]), (.k (.int 3))]), (.k (.int 2))])]) (.call 12 [(.v 0), (.k (.int 3))]))] [.push 5 (.sub (.disp [(.tup [(.tup [(.k (.int 0)), (.k (.int 1))]), (.tup [(.k (.int 1))])]), (.tup []), (.tup [(.tup [(.tup []), (.tup [(.k (.int 0)), (.k (.int 1))])])])]) (.call 12 [(.v 0), (.k (.int 3))]))]]]]]]
/-- N: box formula depth shapes pick made part word parts -/
def d_l_thing : FDef := ⟨3, 9, [
  .asg (.n 3) (.call 51 [(.v 1)]),
  .asg (.n 4) (.call 12 [(.v 0), (.op .mul (.k (.int 2)) (.bi .len [(.v 3)]))]),
  .asg (.t [7, 8]) (.sub (.v 3) (.op .mod (.v 4) (.bi .len [(.v 3)]))),
  .ife (.or (.cmp .eq (.v 2) (.k (.int 0))) (.and (.not (.v 1)) (.cmp .gt (.v 4) (.k (.int 28))))) [.asg (.t [7, 8]) (.sub (.v 3) (.call 12 [(.v 0), (.k (.int 2))]))] [],
  .ife (.and (.not (.v 1)) (.and (.cmp .eq (.v 7) (.k (.str [115, 116, 97, 114]))) (.cmp .gt (.call 12 [(.v 0), (.k (.int 3))]) (.k (.int 0))))) [.asg (.t [7, 8]) (.sub (.v 3) (.k (.int 0)))] [],
  .own 5 (.disp [(.v 7)]),
  .loop (.n 6) (.v 8) d_l_thing_b1,
  .ret (.tof (.v 5))]⟩
def Nd_l_thing : List (List Nat) := [[98, 111, 120], [102, 111, 114, 109, 117, 108, 97], [100, 101, 112, 116, 104], [115, 104, 97, 112, 101, 115], [112, 105, 99, 107], [109, 97, 100, 101], [112, 97, 114, 116], [119, 111, 114, 100], [112, 97, 114, 116, 115]]
/-- N: part word -/
def d_l_parts : FDef := ⟨1, 2, [
  .asg (.n 1) (.sub (.v 0) (.k (.int 0))),
  .ife (.cmp .eq (.v 1) (.k (.str [99, 97, 115, 101, 115]))) [.ret (.disp [(.tup [(.k (.int 1)), (.k (.non))]), (.tup [(.k (.int 3)), (.sub (.v 0) (.k (.int 2)))]), (.tup [(.k (.int 5)), (.sub (.v 0) (.k (.int 4)))])])] [],
  .ife (.cmp .isin (.v 1) (.tup [(.k (.str [102, 117, 110])), (.k (.str [115, 101, 116])), (.k (.str [116, 104, 101])), (.k (.str [97, 108, 108])), (.k (.str [115, 111, 109, 101]))])) [.ret (.disp [(.tup [(.k (.int 3)), (.sub (.v 0) (.k (.int 1)))])])] [],
  .ife (.cmp .isin (.v 1) (.tup [(.k (.str [112, 97, 105, 114])), (.k (.str [97, 112, 112])), (.k (.str [101, 113, 117, 97, 108])), (.k (.str [105, 110])), (.k (.str [97, 110, 100])), (.k (.str [111, 114])), (.k (.str [105, 102]))])) [.ret (.disp [(.tup [(.k (.int 1)), (.k (.non))]), (.tup [(.k (.int 2)), (.k (.non))])])] [],
  .ife (.cmp .isin (.v 1) (.tup [(.k (.str [99, 97, 108, 108])), (.k (.str [105, 110, 116, 111]))])) [.ret (.disp [(.tup [(.k (.int 4)), (.k (.non))])])] [],
  .ife (.cmp .isin (.v 1) (.tup [(.k (.str [102, 105, 114, 115, 116])), (.k (.str [115, 101, 99, 111, 110, 100])), (.k (.str [111, 117, 116])), (.k (.str [119, 104, 101, 110])), (.k (.str [115, 111])), (.k (.str [110, 111, 116])), (.k (.str [108, 101, 102, 116]))])) [.ret (.disp [(.tup [(.k (.int 1)), (.k (.non))])])] [],
  .ret (.ife (.cmp .eq (.v 1) (.k (.str [114, 105, 103, 104, 116]))) (.disp [(.tup [(.k (.int 2)), (.k (.non))])]) (.disp []))]⟩
def Nd_l_parts : List (List Nat) := [[112, 97, 114, 116], [119, 111, 114, 100]]
def d_l_free_b1 : List S := [.asg (.n 1) (.cat (.v 1) (.compI (.v 4) (.n 4) (.call 56 [(.sub (.v 0) (.v 2))]) (.cmp .ne (.v 4) (.v 3))))]
/-- N: part found at bound name -/
def d_l_free : FDef := ⟨1, 5, [
  .ife (.cmp .eq (.sub (.v 0) (.k (.int 0))) (.k (.str [110, 97, 109, 101]))) [.ret (.disp [(.sub (.v 0) (.k (.int 1)))])] [],
  .asg (.n 1) (.disp []),
  .loop (.t [2, 3]) (.call 55 [(.v 0)]) d_l_free_b1,
  .ret (.v 1)]⟩
def Nd_l_free : List (List Nat) := [[112, 97, 114, 116], [102, 111, 117, 110, 100], [97, 116], [98, 111, 117, 110, 100], [110, 97, 109, 101]]
def d_l_put_b1 : List S := [.ife (.and (.cmp .ne (.v 6) (.v 1)) (.cmp .isin (.v 1) (.call 56 [(.sub (.v 0) (.v 5))]))) [.ife (.cmp .isin (.v 6) (.v 3)) [.ret (.k (.non))] [], .seti 4 (.v 5) (.call 57 [(.sub (.v 0) (.v 5)), (.v 1), (.v 2), (.v 3)]), .ife (.isK false (.sub (.v 4) (.v 5)) (.non)) [.ret (.k (.non))] []] []]
/-- N: part name term free made at bound -/
def d_l_put : FDef := ⟨4, 7, [
  .ife (.cmp .eq (.sub (.v 0) (.k (.int 0))) (.k (.str [110, 97, 109, 101]))) [.ret (.ife (.cmp .eq (.sub (.v 0) (.k (.int 1))) (.v 1)) (.v 2) (.v 0))] [],
  .own 4 (.lof (.v 0)),
  .loop (.t [5, 6]) (.call 55 [(.v 0)]) d_l_put_b1,
  .ret (.tof (.v 4))]⟩
def Nd_l_put : List (List Nat) := [[112, 97, 114, 116], [110, 97, 109, 101], [116, 101, 114, 109], [102, 114, 101, 101], [109, 97, 100, 101], [97, 116], [98, 111, 117, 110, 100]]
/-- N: box part spots pick names bad kind at shape -/
def d_l_broken : FDef := ⟨2, 9, [
  .asg (.n 2) (.call 55 [(.v 1)]),
  .ife (.and (.cmp .gt (.bi .len [(.v 2)]) (.k (.int 0))) (.cmp .gt (.call 12 [(.v 0), (.k (.int 3))]) (.k (.int 0)))) [.asg (.n 7) (.sub (.sub (.v 2) (.call 12 [(.v 0), (.bi .len [(.v 2)])])) (.k (.int 0))), .ret (.op .add (.op .add (.sliceR (.v 1) (.v 7)) (.tup [(.call 58 [(.v 0), (.sub (.v 1) (.v 7))])])) (.sliceL (.v 1) (.op .add (.v 7) (.k (.int 1)))))] [],
  .asg (.n 3) (.call 12 [(.v 0), (.k (.int 9))]),
  .ife (.cmp .eq (.v 3) (.k (.int 0))) [.ret (.lof (.v 1))] [],
  .ife (.cmp .eq (.v 3) (.k (.int 1))) [.ret (.op .add (.v 1) (.tup [(.tup [(.k (.str [115, 116, 97, 114]))])]))] [],
  .ife (.and (.cmp .eq (.v 3) (.k (.int 2))) (.cmp .gt (.bi .len [(.v 1)]) (.k (.int 1)))) [.ret (.sliceR (.v 1) (.neg (.k (.int 1))))] [],
  .ife (.cmp .eq (.v 3) (.k (.int 3))) [.ret (.op .add (.tup [(.k (.str [110, 97, 109, 101, 115]))]) (.sliceL (.v 1) (.k (.int 1))))] [],
  .ife (.cmp .eq (.v 3) (.k (.int 4))) [.ret (.sub (.disp [(.tup []), (.k (.int 3)), (.k (.str [120])), (.tup [(.k (.str [120]))]), (.tup [(.k (.int 3)), (.k (.str [120]))]), (.k (.non)), (.tup [(.k (.str [78, 65, 77, 69])), (.k (.str [120]))])]) (.call 12 [(.v 0), (.k (.int 7))]))] [],
  .asg (.n 4) (.disp [(.k (.str [])), (.k (.str [88])), (.k (.str [120, 49])), (.k (.str [97, 98, 99, 100, 101, 102, 103, 104, 105])), (.k (.str [97, 32, 98])), (.k (.int 3)), (.tup [(.k (.str [120]))])]),
  .asg (.n 5) (.sub (.v 4) (.call 12 [(.v 0), (.k (.int 7))])),
  .ife (.cmp .lt (.v 3) (.k (.int 7))) [.ife (.cmp .isin (.sub (.v 1) (.k (.int 0))) (.comp (.sub (.v 8) (.k (.int 0))) (.n 8) (.call 51 [(.k (.bl true))]))) [.ret (.tup [(.k (.str [97, 108, 108])), (.v 5), (.tup [(.k (.str [111, 110, 101]))]), (.v 1)])] [], .ret (.sub (.disp [(.tup [(.k (.str [116, 104, 101])), (.v 5), (.tup [(.k (.str [111, 110, 101]))]), (.tup [(.k (.str [116, 114, 117, 101]))])]), (.tup [(.k (.str [110, 97, 109, 101])), (.v 5)]), (.tup [(.k (.str [112, 97, 105, 114])), (.v 1), (.tup [(.k (.str [116, 114, 117, 101]))])])]) (.op .add (.op .sub (.v 3) (.k (.int 5))) (.call 12 [(.v 0), (.k (.int 2))])))] [],
  .asg (.n 6) (.sub (.disp [(.tup [(.k (.str [111, 110, 101, 115]))]), (.tup [(.k (.str [116, 111, 108, 100])), (.tup [(.k (.int 1))])]), (.tup [(.k (.str [116, 111, 108, 100])), (.disp [(.k (.int 1))]), (.tup [])]), (.tup [(.k (.str [98, 111, 116, 104])), (.tup [(.k (.str [111, 110, 101]))])]), (.tup [(.k (.str [115, 101, 116, 115])), (.tup [(.k (.str [115, 116, 97, 114]))])]), (.disp [(.k (.str [111, 110, 101]))]), (.tup [(.k (.str [116, 111, 108, 100])), (.tup [(.k (.str [120]))]), (.tup [])])]) (.call 12 [(.v 0), (.k (.int 7))])),
  .ife (.cmp .isin (.sub (.v 1) (.k (.int 0))) (.comp (.sub (.v 8) (.k (.int 0))) (.n 8) (.call 51 [(.k (.bl true))]))) [.ret (.tup [(.k (.str [115, 111, 109, 101])), (.k (.str [120])), (.v 6), (.v 1)])] [],
  .ret (.tup [(.k (.str [108, 101, 102, 116])), (.v 1), (.v 6)])]⟩
def Nd_l_broken : List (List Nat) := [[98, 111, 120], [112, 97, 114, 116], [115, 112, 111, 116, 115], [112, 105, 99, 107], [110, 97, 109, 101, 115], [98, 97, 100], [107, 105, 110, 100], [97, 116], [115, 104, 97, 112, 101]]
/-- N: thing name term e -/
def d_l_told : FDef := ⟨3, 4, [
  .tryn2 [.ret (.tup [(.k (.int 0)), (.call 9 [(.call 50 [(.v 0), (.v 1), (.v 2)])])])] 2 [.ret (.tup [(.k (.int 1)), (.ife (.not (.isx 3 8)) (.k (.str [102, 111, 114, 109])) (.k (.str [119, 114, 111, 110, 103])))])] 8 [.ret (.tup [(.k (.int 1)), (.ife (.isx 3 0) (.k (.str [114, 101, 102, 117, 115, 101, 100])) (.k (.str [119, 114, 111, 110, 103])))])] 3]⟩
def Nd_l_told : List (List Nat) := [[116, 104, 105, 110, 103], [110, 97, 109, 101], [116, 101, 114, 109], [101]]
def d_law_b1 : List S := [.asg (.n 3) (.cmp .eq (.call 12 [(.v 1), (.k (.int 2))]) (.k (.int 0))), .asg (.n 4) (.call 54 [(.v 1), (.v 3), (.k (.int 4))]), .asg (.n 5) (.call 54 [(.v 1), (.k (.bl false)), (.k (.int 2))]), .asg (.n 6) (.call 52 [(.v 1)]), .asg (.n 7) (.bi .repr [(.disp [(.v 4), (.v 5)])]), .asg (.n 8) (.call 57 [(.v 4), (.v 6), (.v 5), (.call 56 [(.v 5)])]), .asg (.n 9) (.call 59 [(.v 4), (.v 6), (.v 5)]), .ife (.or (.cmp .ne (.bi .repr [(.v 9)]) (.bi .repr [(.ife (.isK false (.v 8) (.non)) (.tup [(.k (.int 1)), (.k (.str [114, 101, 102, 117, 115, 101, 100]))]) (.tup [(.k (.int 0)), (.v 8)]))])) (.cmp .ne (.bi .repr [(.disp [(.v 4), (.v 5)])]) (.v 7))) [.ret (.k (.bl false))] [], .asg (.n 10) (.call 58 [(.v 1), (.v 4)]), .ife (.or (.cmp .ne (.call 59 [(.v 10), (.v 6), (.v 5)]) (.tup [(.k (.int 1)), (.k (.str [102, 111, 114, 109]))])) (.cmp .ne (.call 59 [(.v 4), (.v 6), (.call 58 [(.v 1), (.v 5)])]) (.tup [(.k (.int 1)), (.k (.str [102, 111, 114, 109]))]))) [.ret (.k (.bl false))] [], .ife (.cmp .ne (.call 59 [(.v 4), (.v 6), (.tup [(.k (.str [101, 113, 117, 97, 108])), (.v 5), (.v 5)])]) (.tup [(.k (.int 1)), (.k (.str [102, 111, 114, 109]))])) [.ret (.k (.bl false))] []]
/-- N: script box turn formula thing term name kept due told broken -/
def d_law : FDef := ⟨1, 11, [
  .asg (.n 1) (.call 11 [(.v 0), (.k (.int 0))]),
  .loop (.n 2) (.rng (.k (.int 4))) d_law_b1,
  .ret (.k (.bl true))]⟩
def Nd_law : List (List Nat) := [[115, 99, 114, 105, 112, 116], [98, 111, 120], [116, 117, 114, 110], [102, 111, 114, 109, 117, 108, 97], [116, 104, 105, 110, 103], [116, 101, 114, 109], [110, 97, 109, 101], [107, 101, 112, 116], [100, 117, 101], [116, 111, 108, 100], [98, 114, 111, 107, 101, 110]]
def tab : List (Nat × FDef) := [(38, d_is_name), (39, d_is_element), (40, d_is_row), (41, d_is_plain), (42, d_is_written), (43, d_check_form), (44, d_parts_of), (45, d_told_name), (46, d_name_over), (47, d_name_alone), (48, d_is_free), (49, d_put_in), (50, d_put), (9, d_l_read), (10, d_l_cell), (11, d_l_stream), (12, d_l_draw), (51, d_l_shapes), (52, d_l_name), (53, d_l_kind), (54, d_l_thing), (55, d_l_parts), (56, d_l_free), (57, d_l_put), (58, d_l_broken), (59, d_l_told), (26, d_law)]
def inits : List (Nat × FDef) := []
def meths : List ((Nat × Nat) × Nat) := []
end P20
end Hf
end

section
set_option Elab.async false
set_option linter.all false
set_option maxRecDepth 100000
set_option maxHeartbeats 0
namespace Hf
namespace L20
open PySem PySem.Spec PyProof.Rows L2 P20
abbrev R : PySem.W.OpenRow := PySem.W.OpenLaw.row PySem.Challenge.rw_henceforth_k20_terms_put_in
def top (i : Nat) : Stmt := PySem.Challenge.pw_henceforth_k20_terms_put_in.main.body.getD i (.Pass ⟨0, 0, 0, 0⟩)
def gv0 : T := c_LONGEST
def gv1 : T := c_SORTS
def gv2 : T := c_OVER
def gv3 : T := c_ALONE
def k0_0 : List PySem.Str := ["told", "one", "truth", "both", "either", "maps", "sets", "part"]
def k1_0 : List PySem.Str := ["name", "star", "fixed", "call", "pair", "first", "second", "left", "right", "cases", "fun", "app"]
def k1_1 : List PySem.Str := ["set", "when", "into", "out", "the"]
def k2_0 : List PySem.Str := ["true", "false", "so", "equal", "in", "and", "or", "if", "not", "all", "some"]
def k3_0 : List PySem.Str := ["given", "truly", "absurd", "both", "one", "other", "left", "right", "either", "suppose", "follow", "deny"]
def k3_1 : List PySem.Str := ["clash", "any", "at", "witness", "take", "same", "swap", "reckon", "only", "parts", "alike", "members"]
def k3_2 : List PySem.Str := ["truths", "enter", "leave", "mean", "meant", "apart", "drop", "sides", "within", "outs", "found"]
def k4_0 : List PySem.Str := ["kind", "term", "formula", "derivation"]
def fns0 : List (PySem.Str × Nat × Nat) := [("is_name", 38, 1), ("is_element", 39, 1), ("is_row", 40, 2), ("is_plain", 41, 2), ("is_written", 42, 2), ("check_form", 43, 1), ("parts_of", 44, 2), ("told_name", 45, 4), ("name_over", 46, 3), ("name_alone", 47, 3), ("is_free", 48, 3), ("put_in", 49, 4)]
def fns1 : List (PySem.Str × Nat × Nat) := [("put", 50, 3), ("_law_read", 9, 1), ("_law_cell", 10, 2), ("_law_stream", 11, 2), ("_law_draw", 12, 2), ("_law_shapes", 51, 1), ("_law_name", 52, 1), ("_law_kind", 53, 2), ("_law_thing", 54, 3), ("_law_parts", 55, 1), ("_law_free", 56, 1), ("_law_put", 57, 4)]
def fns2 : List (PySem.Str × Nat × Nat) := [("_law_broken", 58, 2), ("_law_told", 59, 3), ("law", 26, 1)]
def fns : List (PySem.Str × Nat × Nat) := fns0 ++ fns1 ++ fns2
def vals0 : List (PySem.Str × T) := [("LONGEST", gv0), ("SORTS", gv1), ("OVER", gv2), ("ALONE", gv3)]
def vals : List (PySem.Str × T) := vals0
def excs0 : List (PySem.Str × Nat) := [("HenceforthError", 0), ("BadForm", 2), ("BadDerivation", 8)]
def excs : List (PySem.Str × Nat) := excs0
def free0 : List PySem.Str := ["isinstance", "len", "list", "tuple", "range", "enumerate", "all", "any", "sum", "max", "min", "abs"]
def free1 : List PySem.Str := ["int", "str", "bool", "sorted", "repr"]
def free : List PySem.Str := free0 ++ free1
def names0 : List PySem.Str := ["HenceforthError", "BadForm", "BadDerivation", "KINDS", "TERMS", "FORMULAS", "DERIVATIONS", "SORTS", "OVER", "ALONE", "LONGEST", "is_name"]
def names1 : List PySem.Str := ["is_element", "is_row", "is_plain", "is_written", "check_form", "parts_of", "told_name", "name_over", "name_alone", "is_free", "put_in", "put"]
def names2 : List PySem.Str := ["_law_read", "_law_cell", "_law_stream", "_law_draw", "_law_shapes", "_law_name", "_law_kind", "_law_thing", "_law_parts", "_law_free", "_law_put", "_law_broken"]
def names3 : List PySem.Str := ["_law_told"]
def names : List PySem.Str := names0 ++ names1 ++ names2 ++ names3
def fn0 : List He.DefD := [⟨("is_name", none), "is_name", "is_name", defArgs (top 13), defBody (top 13), defScope (top 13), [], []⟩, ⟨("is_element", none), "is_element", "is_element", defArgs (top 14), defBody (top 14), defScope (top 14), [], []⟩, ⟨("is_row", none), "is_row", "is_row", defArgs (top 15), defBody (top 15), defScope (top 15), [], []⟩, ⟨("is_plain", none), "is_plain", "is_plain", defArgs (top 16), defBody (top 16), defScope (top 16), [], []⟩, ⟨("is_written", none), "is_written", "is_written", defArgs (top 17), defBody (top 17), defScope (top 17), [], []⟩, ⟨("check_form", none), "check_form", "check_form", defArgs (top 18), defBody (top 18), defScope (top 18), [], []⟩, ⟨("parts_of", none), "parts_of", "parts_of", defArgs (top 19), defBody (top 19), defScope (top 19), [], []⟩, ⟨("told_name", none), "told_name", "told_name", defArgs (top 20), defBody (top 20), defScope (top 20), [], []⟩, ⟨("name_over", none), "name_over", "name_over", defArgs (top 21), defBody (top 21), defScope (top 21), [], []⟩, ⟨("name_alone", none), "name_alone", "name_alone", defArgs (top 22), defBody (top 22), defScope (top 22), [], []⟩, ⟨("is_free", none), "is_free", "is_free", defArgs (top 24), defBody (top 24), defScope (top 24), [], []⟩, ⟨("put_in", none), "put_in", "put_in", defArgs (top 25), defBody (top 25), defScope (top 25), [], []⟩]
def fn1 : List He.DefD := [⟨("put", none), "put", "put", defArgs (top 27), defBody (top 27), defScope (top 27), [], []⟩, ⟨("_law_read", none), "_law_read", "_law_read", defArgs (top 29), defBody (top 29), defScope (top 29), [], []⟩, ⟨("_law_cell", none), "_law_cell", "_law_cell", defArgs (top 30), defBody (top 30), defScope (top 30), [], []⟩, ⟨("_law_stream", none), "_law_stream", "_law_stream", defArgs (top 31), defBody (top 31), defScope (top 31), [], []⟩, ⟨("_law_draw", none), "_law_draw", "_law_draw", defArgs (top 32), defBody (top 32), defScope (top 32), [], []⟩, ⟨("_law_shapes", none), "_law_shapes", "_law_shapes", defArgs (top 33), defBody (top 33), defScope (top 33), [], []⟩, ⟨("_law_name", none), "_law_name", "_law_name", defArgs (top 34), defBody (top 34), defScope (top 34), [], []⟩, ⟨("_law_kind", none), "_law_kind", "_law_kind", defArgs (top 35), defBody (top 35), defScope (top 35), [], []⟩, ⟨("_law_thing", none), "_law_thing", "_law_thing", defArgs (top 36), defBody (top 36), defScope (top 36), [], []⟩, ⟨("_law_parts", none), "_law_parts", "_law_parts", defArgs (top 37), defBody (top 37), defScope (top 37), [], []⟩, ⟨("_law_free", none), "_law_free", "_law_free", defArgs (top 38), defBody (top 38), defScope (top 38), [], []⟩, ⟨("_law_put", none), "_law_put", "_law_put", defArgs (top 39), defBody (top 39), defScope (top 39), [], []⟩]
def fn2 : List He.DefD := [⟨("_law_broken", none), "_law_broken", "_law_broken", defArgs (top 40), defBody (top 40), defScope (top 40), [], []⟩, ⟨("_law_told", none), "_law_told", "_law_told", defArgs (top 41), defBody (top 41), defScope (top 41), [], []⟩, ⟨("law", none), "law", "law", defArgs (top 42), defBody (top 42), defScope (top 42), [], []⟩]
def fn : List He.DefD := fn0 ++ fn1 ++ fn2
def ts0 : List He.Tab := [(fun K => He.ga K "KINDS", k0_0), (fun K => He.ga K "TERMS", k1_0 ++ k1_1), (fun K => He.ga K "FORMULAS", k2_0), (fun K => He.ga K "DERIVATIONS", k3_0 ++ k3_1 ++ k3_2), (fun K => He.ga K "SORTS", k4_0)]
def ts : List He.Tab := ts0
def tell : Tell := ⟨fns, vals, excs, free⟩
def sub (e c : Nat) : Bool := e == c || c == 0 || c == 11
def prog : Prog := ⟨fun f => P20.tab.lookup f, fun c m => P20.meths.lookup (c, m), fun c => P20.inits.lookup c, sub⟩
def fa : List He.Fa := fns.map (fun p => .glo p.1) ++ excs.map (fun p => .glo p.1) ++ excs.map (fun p => .exc p.1) ++ free.map .free
def ex : PySem.W.Frag → Bool := exB tell sub (ts.map (·.1))
abbrev hk : PySem.W.Hook := He.hookX 4 fa fn ts [] ex
def ob (s : PySem.W.SharedT) : He.AlX := He.obsX 4 fa fn ts [] ex (HandSHeadRun.getT s)
theorem ob_eq (s : PySem.W.SharedT) : ob s = hk.obs s.abs := He.obsX_eq (HandSHeadRun.getT_eq s)
abbrev qv : Program := PySem.W.view R.prog [42]
end L20
end Hf
end

section
set_option Elab.async false
set_option linter.all false
set_option maxRecDepth 100000
set_option maxHeartbeats 0
namespace Hf
namespace L20
open PySem PySem.Spec PyProof.Rows PySem.W L2 P20
theorem runF (w : World) : HandSHeadRun.RunEq R qv hk ob 6000 names (w.withFollow "special-get-raises" false) := by
  intro os
  kernel_rfl
theorem runT (w : World) : HandSHeadRun.RunEq R qv hk ob 6000 names (w.withFollow "special-get-raises" true) := by
  intro os
  kernel_rfl
theorem run (w : World) : HandSHeadRun.RunEq R qv hk ob 6000 names w :=
  byRow2 "special-get-raises" (P := fun w => HandSHeadRun.RunEq R qv hk ob 6000 names w) runF runT w
end L20
end Hf
end

section
set_option Elab.async false
set_option linter.all false
set_option maxRecDepth 100000
set_option maxHeartbeats 0
namespace Hf
namespace L20
open PySem PySem.Spec PyProof.Rows L2 P20
theorem ok_13 {K : PySem.W.Frag} {fa : Addr} {fd : FuncData} (F : FunD K "is_name" "is_name" (defArgs (top 13)) (defBody (top 13)) (defScope (top 13)) [] [] fa fd) : DefOk tell.gam K P20.d_is_name fa fd [sk [118, 97, 108, 117, 101]] :=
  ⟨⟨_, _, _, _, _, _, _, P20.Nd_is_name.map sk, F, ⟨by decide +kernel, by decide +kernel, by decide +kernel, by decide +kernel, by decide +kernel, by decide +kernel, by decide +kernel⟩, by decide +kernel, by decide +kernel⟩, rfl, F.bindsN fun _ _ _ _ _ _ us hl => match us, hl with | [_], _ => rfl⟩
theorem ok_14 {K : PySem.W.Frag} {fa : Addr} {fd : FuncData} (F : FunD K "is_element" "is_element" (defArgs (top 14)) (defBody (top 14)) (defScope (top 14)) [] [] fa fd) : DefOk tell.gam K P20.d_is_element fa fd [sk [118, 97, 108, 117, 101]] :=
  ⟨⟨_, _, _, _, _, _, _, P20.Nd_is_element.map sk, F, ⟨by decide +kernel, by decide +kernel, by decide +kernel, by decide +kernel, by decide +kernel, by decide +kernel, by decide +kernel⟩, by decide +kernel, by decide +kernel⟩, rfl, F.bindsN fun _ _ _ _ _ _ us hl => match us, hl with | [_], _ => rfl⟩
theorem ok_15 {K : PySem.W.Frag} {fa : Addr} {fd : FuncData} (F : FunD K "is_row" "is_row" (defArgs (top 15)) (defBody (top 15)) (defScope (top 15)) [] [] fa fd) : DefOk tell.gam K P20.d_is_row fa fd [sk [118, 97, 108, 117, 101], sk [100, 101, 112, 116, 104]] :=
  ⟨⟨_, _, _, _, _, _, _, P20.Nd_is_row.map sk, F, ⟨by decide +kernel, by decide +kernel, by decide +kernel, by decide +kernel, by decide +kernel, by decide +kernel, by decide +kernel⟩, by decide +kernel, by decide +kernel⟩, rfl, F.bindsN fun _ _ _ _ _ _ us hl => match us, hl with | [_, _], _ => rfl⟩
theorem ok_16 {K : PySem.W.Frag} {fa : Addr} {fd : FuncData} (F : FunD K "is_plain" "is_plain" (defArgs (top 16)) (defBody (top 16)) (defScope (top 16)) [] [] fa fd) : DefOk tell.gam K P20.d_is_plain fa fd [sk [118, 97, 108, 117, 101], sk [100, 101, 112, 116, 104]] :=
  ⟨⟨_, _, _, _, _, _, _, P20.Nd_is_plain.map sk, F, ⟨by decide +kernel, by decide +kernel, by decide +kernel, by decide +kernel, by decide +kernel, by decide +kernel, by decide +kernel⟩, by decide +kernel, by decide +kernel⟩, rfl, F.bindsN fun _ _ _ _ _ _ us hl => match us, hl with | [_, _], _ => rfl⟩
theorem ok_17 {K : PySem.W.Frag} {fa : Addr} {fd : FuncData} (F : FunD K "is_written" "is_written" (defArgs (top 17)) (defBody (top 17)) (defScope (top 17)) [] [] fa fd) : DefOk tell.gam K P20.d_is_written fa fd [sk [118, 97, 108, 117, 101], sk [115, 111, 114, 116]] :=
  ⟨⟨_, _, _, _, _, _, _, P20.Nd_is_written.map sk, F, ⟨by decide +kernel, by decide +kernel, by decide +kernel, by decide +kernel, by decide +kernel, by decide +kernel, by decide +kernel⟩, by decide +kernel, by decide +kernel⟩, rfl, F.bindsN fun _ _ _ _ _ _ us hl => match us, hl with | [_, _], _ => rfl⟩
theorem ok_18 {K : PySem.W.Frag} {fa : Addr} {fd : FuncData} (F : FunD K "check_form" "check_form" (defArgs (top 18)) (defBody (top 18)) (defScope (top 18)) [] [] fa fd) : DefOk tell.gam K P20.d_check_form fa fd [sk [114, 105, 103, 104, 116]] :=
  ⟨⟨_, _, _, _, _, _, _, P20.Nd_check_form.map sk, F, ⟨by decide +kernel, by decide +kernel, by decide +kernel, by decide +kernel, by decide +kernel, by decide +kernel, by decide +kernel⟩, by decide +kernel, by decide +kernel⟩, rfl, F.bindsN fun _ _ _ _ _ _ us hl => match us, hl with | [_], _ => rfl⟩
theorem ok_19 {K : PySem.W.Frag} {fa : Addr} {fd : FuncData} (F : FunD K "parts_of" "parts_of" (defArgs (top 19)) (defBody (top 19)) (defScope (top 19)) [] [] fa fd) : DefOk tell.gam K P20.d_parts_of fa fd [sk [118, 97, 108, 117, 101], sk [115, 111, 114, 116]] :=
  ⟨⟨_, _, _, _, _, _, _, P20.Nd_parts_of.map sk, F, ⟨by decide +kernel, by decide +kernel, by decide +kernel, by decide +kernel, by decide +kernel, by decide +kernel, by decide +kernel⟩, by decide +kernel, by decide +kernel⟩, rfl, F.bindsN fun _ _ _ _ _ _ us hl => match us, hl with | [_, _], _ => rfl⟩
theorem ok_20 {K : PySem.W.Frag} {fa : Addr} {fd : FuncData} (F : FunD K "told_name" "told_name" (defArgs (top 20)) (defBody (top 20)) (defScope (top 20)) [] [] fa fd) : DefOk tell.gam K P20.d_told_name fa fd [sk [114, 111, 119, 115], sk [118, 97, 108, 117, 101], sk [115, 111, 114, 116], sk [97, 116]] :=
  ⟨⟨_, _, _, _, _, _, _, P20.Nd_told_name.map sk, F, ⟨by decide +kernel, by decide +kernel, by decide +kernel, by decide +kernel, by decide +kernel, by decide +kernel, by decide +kernel⟩, by decide +kernel, by decide +kernel⟩, rfl, F.bindsN fun _ _ _ _ _ _ us hl => match us, hl with | [_, _, _, _], _ => rfl⟩
theorem ok_21 {K : PySem.W.Frag} {fa : Addr} {fd : FuncData} (F : FunD K "name_over" "name_over" (defArgs (top 21)) (defBody (top 21)) (defScope (top 21)) [] [] fa fd) : DefOk tell.gam K P20.d_name_over fa fd [sk [118, 97, 108, 117, 101], sk [115, 111, 114, 116], sk [97, 116]] :=
  ⟨⟨_, _, _, _, _, _, _, P20.Nd_name_over.map sk, F, ⟨by decide +kernel, by decide +kernel, by decide +kernel, by decide +kernel, by decide +kernel, by decide +kernel, by decide +kernel⟩, by decide +kernel, by decide +kernel⟩, rfl, F.bindsN fun _ _ _ _ _ _ us hl => match us, hl with | [_, _, _], _ => rfl⟩
theorem ok_22 {K : PySem.W.Frag} {fa : Addr} {fd : FuncData} (F : FunD K "name_alone" "name_alone" (defArgs (top 22)) (defBody (top 22)) (defScope (top 22)) [] [] fa fd) : DefOk tell.gam K P20.d_name_alone fa fd [sk [118, 97, 108, 117, 101], sk [115, 111, 114, 116], sk [97, 116]] :=
  ⟨⟨_, _, _, _, _, _, _, P20.Nd_name_alone.map sk, F, ⟨by decide +kernel, by decide +kernel, by decide +kernel, by decide +kernel, by decide +kernel, by decide +kernel, by decide +kernel⟩, by decide +kernel, by decide +kernel⟩, rfl, F.bindsN fun _ _ _ _ _ _ us hl => match us, hl with | [_, _, _], _ => rfl⟩
theorem ok_24 {K : PySem.W.Frag} {fa : Addr} {fd : FuncData} (F : FunD K "is_free" "is_free" (defArgs (top 24)) (defBody (top 24)) (defScope (top 24)) [] [] fa fd) : DefOk tell.gam K P20.d_is_free fa fd [sk [118, 97, 108, 117, 101], sk [115, 111, 114, 116], sk [110, 97, 109, 101]] :=
  ⟨⟨_, _, _, _, _, _, _, P20.Nd_is_free.map sk, F, ⟨by decide +kernel, by decide +kernel, by decide +kernel, by decide +kernel, by decide +kernel, by decide +kernel, by decide +kernel⟩, by decide +kernel, by decide +kernel⟩, rfl, F.bindsN fun _ _ _ _ _ _ us hl => match us, hl with | [_, _, _], _ => rfl⟩
theorem ok_25 {K : PySem.W.Frag} {fa : Addr} {fd : FuncData} (F : FunD K "put_in" "put_in" (defArgs (top 25)) (defBody (top 25)) (defScope (top 25)) [] [] fa fd) : DefOk tell.gam K P20.d_put_in fa fd [sk [118, 97, 108, 117, 101], sk [115, 111, 114, 116], sk [110, 97, 109, 101], sk [116, 101, 114, 109]] :=
  ⟨⟨_, _, _, _, _, _, _, P20.Nd_put_in.map sk, F, ⟨by decide +kernel, by decide +kernel, by decide +kernel, by decide +kernel, by decide +kernel, by decide +kernel, by decide +kernel⟩, by decide +kernel, by decide +kernel⟩, rfl, F.bindsN fun _ _ _ _ _ _ us hl => match us, hl with | [_, _, _, _], _ => rfl⟩
theorem ok_27 {K : PySem.W.Frag} {fa : Addr} {fd : FuncData} (F : FunD K "put" "put" (defArgs (top 27)) (defBody (top 27)) (defScope (top 27)) [] [] fa fd) : DefOk tell.gam K P20.d_put fa fd [sk [116, 104, 105, 110, 103], sk [110, 97, 109, 101], sk [116, 101, 114, 109]] :=
  ⟨⟨_, _, _, _, _, _, _, P20.Nd_put.map sk, F, ⟨by decide +kernel, by decide +kernel, by decide +kernel, by decide +kernel, by decide +kernel, by decide +kernel, by decide +kernel⟩, by decide +kernel, by decide +kernel⟩, rfl, F.bindsN fun _ _ _ _ _ _ us hl => match us, hl with | [_, _, _], _ => rfl⟩
theorem ok_29 {K : PySem.W.Frag} {fa : Addr} {fd : FuncData} (F : FunD K "_law_read" "_law_read" (defArgs (top 29)) (defBody (top 29)) (defScope (top 29)) [] [] fa fd) : DefOk tell.gam K P20.d_l_read fa fd [sk [116, 111, 108, 100]] :=
  ⟨⟨_, _, _, _, _, _, _, P20.Nd_l_read.map sk, F, ⟨by decide +kernel, by decide +kernel, by decide +kernel, by decide +kernel, by decide +kernel, by decide +kernel, by decide +kernel⟩, by decide +kernel, by decide +kernel⟩, rfl, F.bindsN fun _ _ _ _ _ _ us hl => match us, hl with | [_], _ => rfl⟩
theorem ok_30 {K : PySem.W.Frag} {fa : Addr} {fd : FuncData} (F : FunD K "_law_cell" "_law_cell" (defArgs (top 30)) (defBody (top 30)) (defScope (top 30)) [] [] fa fd) : DefOk tell.gam K P20.d_l_cell fa fd [sk [115, 99, 114, 105, 112, 116], sk [107]] :=
  ⟨⟨_, _, _, _, _, _, _, P20.Nd_l_cell.map sk, F, ⟨by decide +kernel, by decide +kernel, by decide +kernel, by decide +kernel, by decide +kernel, by decide +kernel, by decide +kernel⟩, by decide +kernel, by decide +kernel⟩, rfl, F.bindsN fun _ _ _ _ _ _ us hl => match us, hl with | [_, _], _ => rfl⟩
theorem ok_31 {K : PySem.W.Frag} {fa : Addr} {fd : FuncData} (F : FunD K "_law_stream" "_law_stream" (defArgs (top 31)) (defBody (top 31)) (defScope (top 31)) [] [] fa fd) : DefOk tell.gam K P20.d_l_stream fa fd [sk [115, 99, 114, 105, 112, 116], sk [107]] :=
  ⟨⟨_, _, _, _, _, _, _, P20.Nd_l_stream.map sk, F, ⟨by decide +kernel, by decide +kernel, by decide +kernel, by decide +kernel, by decide +kernel, by decide +kernel, by decide +kernel⟩, by decide +kernel, by decide +kernel⟩, rfl, F.bindsN fun _ _ _ _ _ _ us hl => match us, hl with | [_, _], _ => rfl⟩
theorem ok_32 {K : PySem.W.Frag} {fa : Addr} {fd : FuncData} (F : FunD K "_law_draw" "_law_draw" (defArgs (top 32)) (defBody (top 32)) (defScope (top 32)) [] [] fa fd) : DefOk tell.gam K P20.d_l_draw fa fd [sk [98, 111, 120], sk [109, 97, 110, 121]] :=
  ⟨⟨_, _, _, _, _, _, _, P20.Nd_l_draw.map sk, F, ⟨by decide +kernel, by decide +kernel, by decide +kernel, by decide +kernel, by decide +kernel, by decide +kernel, by decide +kernel⟩, by decide +kernel, by decide +kernel⟩, rfl, F.bindsN fun _ _ _ _ _ _ us hl => match us, hl with | [_, _], _ => rfl⟩
theorem ok_33 {K : PySem.W.Frag} {fa : Addr} {fd : FuncData} (F : FunD K "_law_shapes" "_law_shapes" (defArgs (top 33)) (defBody (top 33)) (defScope (top 33)) [] [] fa fd) : DefOk tell.gam K P20.d_l_shapes fa fd [sk [102, 111, 114, 109, 117, 108, 97]] :=
  ⟨⟨_, _, _, _, _, _, _, P20.Nd_l_shapes.map sk, F, ⟨by decide +kernel, by decide +kernel, by decide +kernel, by decide +kernel, by decide +kernel, by decide +kernel, by decide +kernel⟩, by decide +kernel, by decide +kernel⟩, rfl, F.bindsN fun _ _ _ _ _ _ us hl => match us, hl with | [_], _ => rfl⟩
theorem ok_34 {K : PySem.W.Frag} {fa : Addr} {fd : FuncData} (F : FunD K "_law_name" "_law_name" (defArgs (top 34)) (defBody (top 34)) (defScope (top 34)) [] [] fa fd) : DefOk tell.gam K P20.d_l_name fa fd [sk [98, 111, 120]] :=
  ⟨⟨_, _, _, _, _, _, _, P20.Nd_l_name.map sk, F, ⟨by decide +kernel, by decide +kernel, by decide +kernel, by decide +kernel, by decide +kernel, by decide +kernel, by decide +kernel⟩, by decide +kernel, by decide +kernel⟩, rfl, F.bindsN fun _ _ _ _ _ _ us hl => match us, hl with | [_], _ => rfl⟩
theorem ok_35 {K : PySem.W.Frag} {fa : Addr} {fd : FuncData} (F : FunD K "_law_kind" "_law_kind" (defArgs (top 35)) (defBody (top 35)) (defScope (top 35)) [] [] fa fd) : DefOk tell.gam K P20.d_l_kind fa fd [sk [98, 111, 120], sk [100, 101, 112, 116, 104]] :=
  ⟨⟨_, _, _, _, _, _, _, P20.Nd_l_kind.map sk, F, ⟨by decide +kernel, by decide +kernel, by decide +kernel, by decide +kernel, by decide +kernel, by decide +kernel, by decide +kernel⟩, by decide +kernel, by decide +kernel⟩, rfl, F.bindsN fun _ _ _ _ _ _ us hl => match us, hl with | [_, _], _ => rfl⟩
theorem ok_36 {K : PySem.W.Frag} {fa : Addr} {fd : FuncData} (F : FunD K "_law_thing" "_law_thing" (defArgs (top 36)) (defBody (top 36)) (defScope (top 36)) [] [] fa fd) : DefOk tell.gam K P20.d_l_thing fa fd [sk [98, 111, 120], sk [102, 111, 114, 109, 117, 108, 97], sk [100, 101, 112, 116, 104]] :=
  ⟨⟨_, _, _, _, _, _, _, P20.Nd_l_thing.map sk, F, ⟨by decide +kernel, by decide +kernel, by decide +kernel, by decide +kernel, by decide +kernel, by decide +kernel, by decide +kernel⟩, by decide +kernel, by decide +kernel⟩, rfl, F.bindsN fun _ _ _ _ _ _ us hl => match us, hl with | [_, _, _], _ => rfl⟩
theorem ok_37 {K : PySem.W.Frag} {fa : Addr} {fd : FuncData} (F : FunD K "_law_parts" "_law_parts" (defArgs (top 37)) (defBody (top 37)) (defScope (top 37)) [] [] fa fd) : DefOk tell.gam K P20.d_l_parts fa fd [sk [112, 97, 114, 116]] :=
  ⟨⟨_, _, _, _, _, _, _, P20.Nd_l_parts.map sk, F, ⟨by decide +kernel, by decide +kernel, by decide +kernel, by decide +kernel, by decide +kernel, by decide +kernel, by decide +kernel⟩, by decide +kernel, by decide +kernel⟩, rfl, F.bindsN fun _ _ _ _ _ _ us hl => match us, hl with | [_], _ => rfl⟩
theorem ok_38 {K : PySem.W.Frag} {fa : Addr} {fd : FuncData} (F : FunD K "_law_free" "_law_free" (defArgs (top 38)) (defBody (top 38)) (defScope (top 38)) [] [] fa fd) : DefOk tell.gam K P20.d_l_free fa fd [sk [112, 97, 114, 116]] :=
  ⟨⟨_, _, _, _, _, _, _, P20.Nd_l_free.map sk, F, ⟨by decide +kernel, by decide +kernel, by decide +kernel, by decide +kernel, by decide +kernel, by decide +kernel, by decide +kernel⟩, by decide +kernel, by decide +kernel⟩, rfl, F.bindsN fun _ _ _ _ _ _ us hl => match us, hl with | [_], _ => rfl⟩
theorem ok_39 {K : PySem.W.Frag} {fa : Addr} {fd : FuncData} (F : FunD K "_law_put" "_law_put" (defArgs (top 39)) (defBody (top 39)) (defScope (top 39)) [] [] fa fd) : DefOk tell.gam K P20.d_l_put fa fd [sk [112, 97, 114, 116], sk [110, 97, 109, 101], sk [116, 101, 114, 109], sk [102, 114, 101, 101]] :=
  ⟨⟨_, _, _, _, _, _, _, P20.Nd_l_put.map sk, F, ⟨by decide +kernel, by decide +kernel, by decide +kernel, by decide +kernel, by decide +kernel, by decide +kernel, by decide +kernel⟩, by decide +kernel, by decide +kernel⟩, rfl, F.bindsN fun _ _ _ _ _ _ us hl => match us, hl with | [_, _, _, _], _ => rfl⟩
theorem ok_40 {K : PySem.W.Frag} {fa : Addr} {fd : FuncData} (F : FunD K "_law_broken" "_law_broken" (defArgs (top 40)) (defBody (top 40)) (defScope (top 40)) [] [] fa fd) : DefOk tell.gam K P20.d_l_broken fa fd [sk [98, 111, 120], sk [112, 97, 114, 116]] :=
  ⟨⟨_, _, _, _, _, _, _, P20.Nd_l_broken.map sk, F, ⟨by decide +kernel, by decide +kernel, by decide +kernel, by decide +kernel, by decide +kernel, by decide +kernel, by decide +kernel⟩, by decide +kernel, by decide +kernel⟩, rfl, F.bindsN fun _ _ _ _ _ _ us hl => match us, hl with | [_, _], _ => rfl⟩
theorem ok_41 {K : PySem.W.Frag} {fa : Addr} {fd : FuncData} (F : FunD K "_law_told" "_law_told" (defArgs (top 41)) (defBody (top 41)) (defScope (top 41)) [] [] fa fd) : DefOk tell.gam K P20.d_l_told fa fd [sk [116, 104, 105, 110, 103], sk [110, 97, 109, 101], sk [116, 101, 114, 109]] :=
  ⟨⟨_, _, _, _, _, _, _, P20.Nd_l_told.map sk, F, ⟨by decide +kernel, by decide +kernel, by decide +kernel, by decide +kernel, by decide +kernel, by decide +kernel, by decide +kernel⟩, by decide +kernel, by decide +kernel⟩, rfl, F.bindsN fun _ _ _ _ _ _ us hl => match us, hl with | [_, _, _], _ => rfl⟩
theorem ok_42 {K : PySem.W.Frag} {fa : Addr} {fd : FuncData} (F : FunD K "law" "law" (defArgs (top 42)) (defBody (top 42)) (defScope (top 42)) [] [] fa fd) : DefOk tell.gam K P20.d_law fa fd [sk [115, 99, 114, 105, 112, 116]] :=
  ⟨⟨_, _, _, _, _, _, _, P20.Nd_law.map sk, F, ⟨by decide +kernel, by decide +kernel, by decide +kernel, by decide +kernel, by decide +kernel, by decide +kernel, by decide +kernel⟩, by decide +kernel, by decide +kernel⟩, rfl, F.bindsN fun _ _ _ _ _ _ us hl => match us, hl with | [_], _ => rfl⟩
end L20
end Hf
end

section
set_option Elab.async false
set_option linter.all false
set_option maxRecDepth 100000
set_option maxHeartbeats 0
namespace Hf
namespace L20
open PySem PySem.Spec PyProof.Rows L2 P20
def Q (K : PySem.W.Frag) (p : PySem.Str × Nat × Nat) : Prop := ∃ D fd ps, prog.defs p.2.1 = some D ∧ D.np = p.2.2 ∧ DefOk tell.gam K D (He.ga K p.1) fd ps
theorem hd0 {K : PySem.W.Frag} (c : He.SaysD fa fn K) : ∀ p ∈ fns0, Q K p := by
  intro p hp
  simp only [fns0, List.mem_cons, List.not_mem_nil, or_false] at hp
  rcases hp with rfl | rfl | rfl | rfl | rfl | rfl | rfl | rfl | rfl | rfl | rfl | rfl
  · obtain ⟨fd, F⟩ := c.def_ 0 rfl
    exact ⟨P20.d_is_name, fd, _, by rfl, by rfl, ok_13 F⟩
  · obtain ⟨fd, F⟩ := c.def_ 1 rfl
    exact ⟨P20.d_is_element, fd, _, by rfl, by rfl, ok_14 F⟩
  · obtain ⟨fd, F⟩ := c.def_ 2 rfl
    exact ⟨P20.d_is_row, fd, _, by rfl, by rfl, ok_15 F⟩
  · obtain ⟨fd, F⟩ := c.def_ 3 rfl
    exact ⟨P20.d_is_plain, fd, _, by rfl, by rfl, ok_16 F⟩
  · obtain ⟨fd, F⟩ := c.def_ 4 rfl
    exact ⟨P20.d_is_written, fd, _, by rfl, by rfl, ok_17 F⟩
  · obtain ⟨fd, F⟩ := c.def_ 5 rfl
    exact ⟨P20.d_check_form, fd, _, by rfl, by rfl, ok_18 F⟩
  · obtain ⟨fd, F⟩ := c.def_ 6 rfl
    exact ⟨P20.d_parts_of, fd, _, by rfl, by rfl, ok_19 F⟩
  · obtain ⟨fd, F⟩ := c.def_ 7 rfl
    exact ⟨P20.d_told_name, fd, _, by rfl, by rfl, ok_20 F⟩
  · obtain ⟨fd, F⟩ := c.def_ 8 rfl
    exact ⟨P20.d_name_over, fd, _, by rfl, by rfl, ok_21 F⟩
  · obtain ⟨fd, F⟩ := c.def_ 9 rfl
    exact ⟨P20.d_name_alone, fd, _, by rfl, by rfl, ok_22 F⟩
  · obtain ⟨fd, F⟩ := c.def_ 10 rfl
    exact ⟨P20.d_is_free, fd, _, by rfl, by rfl, ok_24 F⟩
  · obtain ⟨fd, F⟩ := c.def_ 11 rfl
    exact ⟨P20.d_put_in, fd, _, by rfl, by rfl, ok_25 F⟩
theorem hd1 {K : PySem.W.Frag} (c : He.SaysD fa fn K) : ∀ p ∈ fns1, Q K p := by
  intro p hp
  simp only [fns1, List.mem_cons, List.not_mem_nil, or_false] at hp
  rcases hp with rfl | rfl | rfl | rfl | rfl | rfl | rfl | rfl | rfl | rfl | rfl | rfl
  · obtain ⟨fd, F⟩ := c.def_ 12 rfl
    exact ⟨P20.d_put, fd, _, by rfl, by rfl, ok_27 F⟩
  · obtain ⟨fd, F⟩ := c.def_ 13 rfl
    exact ⟨P20.d_l_read, fd, _, by rfl, by rfl, ok_29 F⟩
  · obtain ⟨fd, F⟩ := c.def_ 14 rfl
    exact ⟨P20.d_l_cell, fd, _, by rfl, by rfl, ok_30 F⟩
  · obtain ⟨fd, F⟩ := c.def_ 15 rfl
    exact ⟨P20.d_l_stream, fd, _, by rfl, by rfl, ok_31 F⟩
  · obtain ⟨fd, F⟩ := c.def_ 16 rfl
    exact ⟨P20.d_l_draw, fd, _, by rfl, by rfl, ok_32 F⟩
  · obtain ⟨fd, F⟩ := c.def_ 17 rfl
    exact ⟨P20.d_l_shapes, fd, _, by rfl, by rfl, ok_33 F⟩
  · obtain ⟨fd, F⟩ := c.def_ 18 rfl
    exact ⟨P20.d_l_name, fd, _, by rfl, by rfl, ok_34 F⟩
  · obtain ⟨fd, F⟩ := c.def_ 19 rfl
    exact ⟨P20.d_l_kind, fd, _, by rfl, by rfl, ok_35 F⟩
  · obtain ⟨fd, F⟩ := c.def_ 20 rfl
    exact ⟨P20.d_l_thing, fd, _, by rfl, by rfl, ok_36 F⟩
  · obtain ⟨fd, F⟩ := c.def_ 21 rfl
    exact ⟨P20.d_l_parts, fd, _, by rfl, by rfl, ok_37 F⟩
  · obtain ⟨fd, F⟩ := c.def_ 22 rfl
    exact ⟨P20.d_l_free, fd, _, by rfl, by rfl, ok_38 F⟩
  · obtain ⟨fd, F⟩ := c.def_ 23 rfl
    exact ⟨P20.d_l_put, fd, _, by rfl, by rfl, ok_39 F⟩
theorem hd2 {K : PySem.W.Frag} (c : He.SaysD fa fn K) : ∀ p ∈ fns2, Q K p := by
  intro p hp
  simp only [fns2, List.mem_cons, List.not_mem_nil, or_false] at hp
  rcases hp with rfl | rfl | rfl
  · obtain ⟨fd, F⟩ := c.def_ 24 rfl
    exact ⟨P20.d_l_broken, fd, _, by rfl, by rfl, ok_40 F⟩
  · obtain ⟨fd, F⟩ := c.def_ 25 rfl
    exact ⟨P20.d_l_told, fd, _, by rfl, by rfl, ok_41 F⟩
  · obtain ⟨fd, F⟩ := c.def_ 26 rfl
    exact ⟨P20.d_law, fd, _, by rfl, by rfl, ok_42 F⟩
theorem hd {K : PySem.W.Frag} (c : He.SaysD fa fn K) : ∀ p ∈ tell.fns, Q K p := by
  intro p hp
  have hp : p ∈ fns0 ++ fns1 ++ fns2 := hp
  simp only [List.mem_append] at hp
  rcases hp with (h | h) | h
  · exact hd0 c p h
  · exact hd1 c p h
  · exact hd2 c p h
theorem top_facts {P : Program} {w : World} {K : PySem.W.Frag} {h : Heap} {mg : PySem.Str → Option Value} (KX : K.In h) (G : h.Ns mainGlobals mg) (c : He.SaysX Hf.L20.fa Hf.L20.fn Hf.L20.ts [] Hf.L20.ex w h K) : Hf.TopOk Hf.L20.tell.gam Hf.L20.prog K mg w (Hf.L20.tell.d K w) ∧ Hf.NoLists K := by
  have fm : ∀ f, f ∈ Hf.L20.fa → f.ok K = true := fun f hf => c.t.d.facts hf
  have more : exB tell prog.sub (Hf.L20.ts.map fun t => t.1) K = true := c.more
  refine Hf.top_ok (t := tell) (P := prog) (ts := Hf.L20.ts.map fun t => t.1) KX G (by decide +kernel) (fun p hp => fm _ ?_) (fun p hp => ⟨fm _ ?_, fm _ ?_⟩) (fun x hx => fm _ ?_) more (fun f hf => ?_) (Hf.L20.hd c.t.d)
  · exact List.mem_append_left _ (List.mem_append_left _ (List.mem_append_left _ (List.mem_map.mpr ⟨p, hp, rfl⟩)))
  · exact List.mem_append_left _ (List.mem_append_left _ (List.mem_append_right _ (List.mem_map.mpr ⟨p, hp, rfl⟩)))
  · exact List.mem_append_left _ (List.mem_append_right _ (List.mem_map.mpr ⟨p, hp, rfl⟩))
  · exact List.mem_append_right _ (List.mem_map.mpr ⟨x, hx, rfl⟩)
  · obtain ⟨t, ht, rfl⟩ := List.mem_map.mp hf
    obtain ⟨i, hi, e⟩ := List.mem_iff_getElem.mp ht
    exact c.t.tab i (t := t) (by rw [List.getElem?_eq_getElem hi, e])
theorem facts {P : Program} {w : World} {K : PySem.W.Frag} {h : Heap} {mg : PySem.Str → Option Value} {f : Addr} (fuel : Nat) (law : ∀ ns : List Int, ns.length ≤ 63 → ∃ S', Hf.call Hf.L20.prog fuel 26 [.lst (ns.map .int)] [] = .ok (.bl true) S') (KX : K.In h) (G : h.Ns mainGlobals mg) (hfa : mg ("law" : PySem.Str) = some (.ref f)) (c : He.SaysX Hf.L20.fa Hf.L20.fn Hf.L20.ts [] Hf.L20.ex w h K) :
    ∃ (fd : FuncData) (sp : L2.Sp), Hf.NoLists K ∧ (∀ (s : Shared) (v : Value), BindsTo s fd ⟨[v], []⟩ [(("script" : PySem.Str), v)]) ∧
      (∀ (H : L2.Hp) (a : Addr) (ns : List Int), ns.length ≤ 63 → L2.Only H → L2.Rd H a (.lst (ns.map L2.V.int)) → sp [.ref a] H (fun v _ => v = .bl true) fun _ _ _ => False) ∧
      ∀ base : Heap, K.In base → base.Ns mainGlobals mg → Hf.FnG P w K mg base (2 * fuel) f fd ["script"] sp := by
  obtain ⟨tp, nl⟩ := top_facts (P := P) KX G c
  obtain ⟨fd, F⟩ := c.t.d.def_ 26 rfl
  have e := hfa.symm.trans (He.glo_ok KX G (c.t.d.facts (f := .glo "law") (List.mem_append_left _ (List.mem_append_left _ (List.mem_append_left _ (List.mem_map.mpr ⟨("law", 26, 1), by decide +kernel, rfl⟩))))))
  have e2 : f = He.ga K "law" := by injection e with e; injection e
  subst e2
  have b := L2.FunD.bindsA (ps := ["script"]) F fun _ _ _ _ _ _ us hl => match us, hl with | [_], _ => rfl
  have en : (Hf.sk [115, 99, 114, 105, 112, 116] : PySem.Str) = "script" := by decide +kernel
  have ok := Hf.L20.ok_42 F
  rw [en] at ok
  exact ⟨fd, Hf.spT (Hf.L20.tell.d K w) 1 (Hf.call Hf.L20.prog fuel 26), nl, fun s v => b s [v] rfl,
    fun H a ns hl hO hr => Hf.sp_law rfl (Nat.le_trans hl (by decide)) hO hr (law ns hl),
    fun base hb hg => Hf.fn_all tp fuel (f := 26) (D := P20.d_law) rfl ok⟩
end L20
end Hf
open PySem PySem.W PySem.Calls PyProof.Rows
theorem Hf.L20.holds_of (fuel : Nat) (hfu : fuel ≤ 110) (law : ∀ ns : List Int, ns.length ≤ 63 → ∃ S', Hf.call Hf.L20.prog fuel 26 [.lst (ns.map .int)] [] = .ok (.bl true) S') : PySem.Challenge.rw_henceforth_k20_terms_put_in.Holds := by
  w_on; o_law
  refine HandSHeadRun.head_any (r := OpenLaw.row PySem.Challenge.rw_henceforth_k20_terms_put_in) (q := PySem.W.view (PySem.W.OpenLaw.row PySem.Challenge.rw_henceforth_k20_terms_put_in).prog [42]) (H := Hf.L20.hk) (ob := Hf.L20.ob) (M := 6000) (loose := Hf.L20.names) (d := HandSHeadRun.topDef (OpenLaw.row PySem.Challenge.rw_henceforth_k20_terms_put_in).prog 42) (kwd := []) Hf.L20.ob_eq
    (by kernel_rfl) (fun s => by kernel_rfl) Hf.L20.run (by kernel_rfl) (by kernel_rfl) (by kernel_rfl) (by rfl) (by first | assumption | decide +kernel) (by decide +kernel) ⟨rfl, rfl, rfl, rfl, rfl, by decide +kernel⟩ ?hw ?hc
  case hw => w_witness2
  case hc =>
    refine Hf.walk_ofG (l := PySem.Challenge.rw_henceforth_k20_terms_put_in) (n := 63) (k := 2 * fuel) (x := "script") rfl (by decide) (by kernel_rfl) ⟨rfl, by show 301 + 3 * (2 * fuel) + 5 < 1000; omega, by show 4 + 16 * (2 * fuel) + 200 < 9900; omega⟩ ?F (fun _ _ _ _ _ z => Hf.cx_none z)
    intro w mg fa h Y G hmg0
    obtain ⟨K, KX, c⟩ := Y
    have hmg : mg ("law" : PySem.Str) = some (.ref fa) := by
      have e : (HandSHeadRun.topDef (OpenLaw.row PySem.Challenge.rw_henceforth_k20_terms_put_in).prog 42).name = ("law" : PySem.Str) := by kernel_rfl
      rw [← e]
      exact hmg0
    obtain ⟨fd, sp, nl, hb, hsp, hF⟩ := Hf.L20.facts (P := (PySem.Challenge.rw_henceforth_k20_terms_put_in).prog) (w := w) fuel law KX G hmg c
    exact ⟨K, fd, sp, KX, nl, hb, hsp, hF⟩
end

section
set_option Elab.async false
set_option linter.all false
set_option maxRecDepth 100000
set_option maxHeartbeats 1000000
/-! HfEv: the evaluator as rewriting rules, heads first. -/
namespace Hf
/-! ### heads first: what follows is not looked at before -/
/-- a part on which another one hangs: rewriting leaves it alone -/
structure U {α : Sort u} (k : α) : Type where
def Res.bnd {α β : Type} (x : Res α) (k : α → Store → Res β) (_ : U k := ⟨⟩) : Res β := x.bind k
def Res.toT {α : Type} (x : Res α) (r : Env) (k : α → Store → SRes) (_ : U k := ⟨⟩) : SRes := x.toS r k
@[simp] theorem bnd_ok {α β : Type} (a : α) (S : Store) (k : α → Store → Res β) (u : U k) : (Res.ok a S).bnd k u = k a S := rfl
@[simp] theorem bnd_exn {α β : Type} (a : Nat) (S : Store) (k : α → Store → Res β) (u : U k) : (Res.exn a S).bnd k u = .exn a S := rfl
@[simp] theorem bnd_bad {α β : Type} (k : α → Store → Res β) (u : U k) : (Res.bad).bnd k u = .bad := rfl
@[simp] theorem toT_ok {α : Type} (a : α) (S : Store) (r : Env) (k : α → Store → SRes) (u : U k) : (Res.ok a S).toT r k u = k a S := rfl
@[simp] theorem toT_exn {α : Type} (a : Nat) (S : Store) (r : Env) (k : α → Store → SRes) (u : U k) : (Res.exn a S : Res α).toT r k u = .exn a r S := rfl
@[simp] theorem toT_bad {α : Type} (r : Env) (k : α → Store → SRes) (u : U k) : (Res.bad : Res α).toT r k u = .bad := rfl
@[simp] theorem bind_ok {α β : Type} (a : α) (S : Store) (k : α → Store → Res β) : (Res.ok a S).bind k = k a S := rfl
@[simp] theorem bind_exn {α β : Type} (a : Nat) (S : Store) (k : α → Store → Res β) : (Res.exn a S).bind k = .exn a S := rfl
@[simp] theorem bind_bad {α β : Type} (k : α → Store → Res β) : (Res.bad).bind k = .bad := rfl
@[simp] theorem of_some {α : Type} (a : α) (S : Store) : Res.of (some a) S = .ok a S := rfl
@[simp] theorem of_none {α : Type} (S : Store) : (Res.of none S : Res α) = .bad := rfl
def asJ (t : T) (S : Store) (k : Int → Store → Res T) (_ : U k := ⟨⟩) : Res T := asI t S k
@[simp] theorem asJ_int (b : Int) (S : Store) (k : Int → Store → Res T) (u : U k) : asJ (.int b) S k u = k b S := rfl
@[simp] theorem toB0_bl (b : Bool) (S : Store) : toB0 (.ok (.bl b) S) = .ok b S := rfl
@[simp] theorem fin_ret (t : T) (S : Store) : (SRes.ret t S).fin = .ok t S := rfl
@[simp] theorem fin_nx (r : Env) (S : Store) : (SRes.nx r S).fin = .ok .non S := rfl
@[simp] theorem fin_exn (c : Nat) (r : Env) (S : Store) : (SRes.exn c r S).fin = .exn c S := rfl
@[simp] theorem look_non (S : Store) : look S .non = .non := rfl
@[simp] theorem look_bl (S : Store) (b : Bool) : look S (.bl b) = .bl b := rfl
@[simp] theorem look_int (S : Store) (b : Int) : look S (.int b) = .int b := rfl
@[simp] theorem look_str (S : Store) (s : List Nat) : look S (.str s) = .str s := rfl
@[simp] theorem look_tup (S : Store) (s : List T) : look S (.tup s) = .tup s := rfl
@[simp] theorem look_lst (S : Store) (s : List T) : look S (.lst s) = .lst s := rfl
@[simp] theorem look_dic (S : Store) (s : List (T × T)) : look S (.dic s) = .dic s := rfl
@[simp] theorem look_ins (S : Store) (c : Nat) (s : List (Nat × T)) : look S (.ins c s) = .ins c s := rfl
theorem look_ref (S : Store) (n : Nat) (xs : List T) (h : S[n]? = some (.lst xs)) : look S (.ref n) = .lst xs := by simp [look, h]
theorem look_data (S : Store) {t : T} (h : t.data = true) : look S t = t := by
  cases t <;> first | rfl | simp [T.data] at h
/-! ### forks by a truth value -/
def fork {α : Type} (t : T) (a b : Res α) (_ : U a := ⟨⟩) (_ : U b := ⟨⟩) : Res α := match t with
  | .bl true => a
  | .bl false => b
  | _ => .bad
@[simp] theorem fork_true {α : Type} (a b : Res α) (u : U a) (v : U b) : fork (.bl true) a b u v = a := rfl
@[simp] theorem fork_false {α : Type} (a b : Res α) (u : U a) (v : U b) : fork (.bl false) a b u v = b := rfl
def forkS (t : T) (a b : SRes) (_ : U a := ⟨⟩) (_ : U b := ⟨⟩) : SRes := match t with
  | .bl true => a
  | .bl false => b
  | _ => .bad
@[simp] theorem forkS_true (a b : SRes) (u : U a) (v : U b) : forkS (.bl true) a b u v = a := rfl
@[simp] theorem forkS_false (a b : SRes) (u : U a) (v : U b) : forkS (.bl false) a b u v = b := rfl
def onB (t : T) (S : Store) : Res T := match t with
  | .bl b => .ok (.bl b) S
  | _ => .bad
@[simp] theorem onB_bl (b : Bool) (S : Store) : onB (.bl b) S = .ok (.bl b) S := rfl
def notB (t : T) (S : Store) : Res T := match t with
  | .bl b => .ok (.bl (!b)) S
  | _ => .bad
@[simp] theorem notB_bl (b : Bool) (S : Store) : notB (.bl b) S = .ok (.bl (!b)) S := rfl
/-! ### names -/
def nameV (o : Option Slot) (S : Store) : Res T := match o with
  | some (.val t) => .ok t S
  | _ => .bad
@[simp] theorem nameV_val (t : T) (S : Store) : nameV (some (.val t)) S = .ok t S := rfl
def lookV (o : Option Slot) (S : Store) : Res T := match o with
  | some (.own xs) => .ok (.lst xs) S
  | some (.inst c fs) => .ok (.ins c fs) S
  | some (.val t) => .ok t S
  | _ => .bad
@[simp] theorem lookV_val (t : T) (S : Store) : lookV (some (.val t)) S = .ok t S := rfl
@[simp] theorem lookV_own (t : List T) (S : Store) : lookV (some (.own t)) S = .ok (.lst t) S := rfl
@[simp] theorem lookV_inst (c : Nat) (fs : List (Nat × T)) (S : Store) : lookV (some (.inst c fs)) S = .ok (.ins c fs) S := rfl
section
variable (P : Prog) (cf mk : Nat → List T → Store → Res T) (r : Env) (S : Store)
theorem view_v (i : Nat) (x : Res T) : view r (.v i) S x = lookV r[i]? S := rfl
/-- a part that is looked at only -/
def evL (r : Env) (e : E) (S : Store) : Res T := view r e S (ev P cf mk r e S)
@[simp] theorem evL_v (i : Nat) : evL P cf mk r (.v i) S = lookV r[i]? S := rfl
theorem evL_of (e : E) (h : ∀ i, e ≠ .v i) : evL P cf mk r e S = ev P cf mk r e S := by
  unfold evL view
  cases e <;> first | rfl | exact absurd rfl (h _)
@[simp] theorem evL_k (t : T) : evL P cf mk r (.k t) S = .ok t S := by rw [evL_of _ _ _ _ _ _ (by intro i h; cases h)]; simp only [ev]
@[simp] theorem evL_g (x : List Nat) (t : T) : evL P cf mk r (.g x t) S = .ok t S := by rw [evL_of _ _ _ _ _ _ (by intro i h; cases h)]; simp only [ev]
@[simp] theorem evL_sub (a i : E) : evL P cf mk r (.sub a i) S = ev P cf mk r (.sub a i) S := evL_of _ _ _ _ _ _ (by intro i h; cases h)
@[simp] theorem evL_call (f : Nat) (es : List E) : evL P cf mk r (.call f es) S = ev P cf mk r (.call f es) S := evL_of _ _ _ _ _ _ (by intro i h; cases h)
@[simp] theorem evL_meth (f : Nat) (e : E) (es : List E) : evL P cf mk r (.meth f e es) S = ev P cf mk r (.meth f e es) S := evL_of _ _ _ _ _ _ (by intro i h; cases h)
@[simp] theorem evL_attr (e : E) (a : Nat) : evL P cf mk r (.attr e a) S = ev P cf mk r (.attr e a) S := evL_of _ _ _ _ _ _ (by intro i h; cases h)
@[simp] theorem evL_tup (es : List E) : evL P cf mk r (.tup es) S = ev P cf mk r (.tup es) S := evL_of _ _ _ _ _ _ (by intro i h; cases h)
@[simp] theorem evL_disp (es : List E) : evL P cf mk r (.disp es) S = ev P cf mk r (.disp es) S := evL_of _ _ _ _ _ _ (by intro i h; cases h)
@[simp] theorem evL_comp (a : E) (t : Tg) (b : E) : evL P cf mk r (.comp a t b) S = ev P cf mk r (.comp a t b) S := evL_of _ _ _ _ _ _ (by intro i h; cases h)
@[simp] theorem evL_compI (a : E) (t : Tg) (b c : E) : evL P cf mk r (.compI a t b c) S = ev P cf mk r (.compI a t b c) S := evL_of _ _ _ _ _ _ (by intro i h; cases h)
@[simp] theorem evL_comp2 (a : E) (t : Tg) (b : E) (t2 : Tg) (b2 : E) : evL P cf mk r (.comp2 a t b t2 b2) S = ev P cf mk r (.comp2 a t b t2 b2) S := evL_of _ _ _ _ _ _ (by intro i h; cases h)
@[simp] theorem evL_bi (b : Bi) (es : List E) : evL P cf mk r (.bi b es) S = ev P cf mk r (.bi b es) S := evL_of _ _ _ _ _ _ (by intro i h; cases h)
@[simp] theorem evL_op (o : Op2) (a b : E) : evL P cf mk r (.op o a b) S = ev P cf mk r (.op o a b) S := evL_of _ _ _ _ _ _ (by intro i h; cases h)
@[simp] theorem evL_cat (a b : E) : evL P cf mk r (.cat a b) S = ev P cf mk r (.cat a b) S := evL_of _ _ _ _ _ _ (by intro i h; cases h)
@[simp] theorem evL_ife (c a b : E) : evL P cf mk r (.ife c a b) S = ev P cf mk r (.ife c a b) S := evL_of _ _ _ _ _ _ (by intro i h; cases h)
@[simp] theorem evL_dict (a : List T) (b : List E) : evL P cf mk r (.dict a b) S = ev P cf mk r (.dict a b) S := evL_of _ _ _ _ _ _ (by intro i h; cases h)
@[simp] theorem evL_slice (a b c : E) : evL P cf mk r (.slice a b c) S = ev P cf mk r (.slice a b c) S := evL_of _ _ _ _ _ _ (by intro i h; cases h)
@[simp] theorem evL_sliceL (a b : E) : evL P cf mk r (.sliceL a b) S = ev P cf mk r (.sliceL a b) S := evL_of _ _ _ _ _ _ (by intro i h; cases h)
@[simp] theorem evL_sliceR (a b : E) : evL P cf mk r (.sliceR a b) S = ev P cf mk r (.sliceR a b) S := evL_of _ _ _ _ _ _ (by intro i h; cases h)
@[simp] theorem evL_rng (a : E) : evL P cf mk r (.rng a) S = ev P cf mk r (.rng a) S := evL_of _ _ _ _ _ _ (by intro i h; cases h)
@[simp] theorem evL_rng2 (a b : E) : evL P cf mk r (.rng2 a b) S = ev P cf mk r (.rng2 a b) S := evL_of _ _ _ _ _ _ (by intro i h; cases h)
@[simp] theorem evL_enum (a : E) : evL P cf mk r (.enum a) S = ev P cf mk r (.enum a) S := evL_of _ _ _ _ _ _ (by intro i h; cases h)
@[simp] theorem evL_neg (a : E) : evL P cf mk r (.neg a) S = ev P cf mk r (.neg a) S := evL_of _ _ _ _ _ _ (by intro i h; cases h)
@[simp] theorem evL_lof (a : E) : evL P cf mk r (.lof a) S = ev P cf mk r (.lof a) S := evL_of _ _ _ _ _ _ (by intro i h; cases h)
@[simp] theorem evL_tof (a : E) : evL P cf mk r (.tof a) S = ev P cf mk r (.tof a) S := evL_of _ _ _ _ _ _ (by intro i h; cases h)
@[simp] theorem evL_sorted (a : E) : evL P cf mk r (.sorted a) S = ev P cf mk r (.sorted a) S := evL_of _ _ _ _ _ _ (by intro i h; cases h)
@[simp] theorem evL_lrng (a : E) : evL P cf mk r (.lrng a) S = ev P cf mk r (.lrng a) S := evL_of _ _ _ _ _ _ (by intro i h; cases h)
@[simp] theorem evL_trng (a : E) : evL P cf mk r (.trng a) S = ev P cf mk r (.trng a) S := evL_of _ _ _ _ _ _ (by intro i h; cases h)
@[simp] theorem evL_rep (a b : E) : evL P cf mk r (.rep a b) S = ev P cf mk r (.rep a b) S := evL_of _ _ _ _ _ _ (by intro i h; cases h)
@[simp] theorem evL_cmp (c : Cmp) (a b : E) : evL P cf mk r (.cmp c a b) S = ev P cf mk r (.cmp c a b) S := evL_of _ _ _ _ _ _ (by intro i h; cases h)
/-! ### expressions -/
@[simp] theorem e_k (t : T) : ev P cf mk r (.k t) S = .ok t S := by simp only [ev] <;> rfl
@[simp] theorem e_g (x : List Nat) (t : T) : ev P cf mk r (.g x t) S = .ok t S := by simp only [ev] <;> rfl
@[simp] theorem e_f (x : List Nat) (f : Nat) : ev P cf mk r (.f x f) S = .ok (.fn f) S := by simp only [ev] <;> rfl
@[simp] theorem e_v (i : Nat) : ev P cf mk r (.v i) S = nameV r[i]? S := by simp only [ev] <;> rfl
@[simp] theorem e_tup (es : List E) : ev P cf mk r (.tup es) S = (evs P cf mk r es S).bnd fun xs S => .ok (.tup xs) S := by simp only [ev] <;> rfl
@[simp] theorem e_disp (es : List E) : ev P cf mk r (.disp es) S = (evs P cf mk r es S).bnd fun xs S => .ok (.lst xs) S := by simp only [ev] <;> rfl
@[simp] theorem e_nil : evs P cf mk r [] S = .ok [] S := by simp only [evs] <;> rfl
@[simp] theorem e_cons (e : E) (es : List E) : evs P cf mk r (e :: es) S = (ev P cf mk r e S).bnd fun x S => (evs P cf mk r es S).bnd fun xs S => .ok (x :: xs) S := by simp only [evs] <;> rfl
@[simp] theorem eV_nil : evVs P cf mk r [] S = .ok [] S := by simp only [evVs]
@[simp] theorem eV_cons (e : E) (es : List E) : evVs P cf mk r (e :: es) S = (evL P cf mk r e S).bnd fun x S => (evVs P cf mk r es S).bnd fun xs S => .ok (x :: xs) S := by simp only [evVs]; rfl
/-- the items of what is walked -/
def itemsOf (c : T) (S : Store) : Res (T × List T) := match (look S c).items with
  | some xs => .ok (c, xs) S
  | none => .bad
@[simp] theorem items_tup (xs : List T) (S : Store) : itemsOf (.tup xs) S = .ok (.tup xs, xs) S := rfl
@[simp] theorem items_lst (xs : List T) (S : Store) : itemsOf (.lst xs) S = .ok (.lst xs, xs) S := rfl
@[simp] theorem items_str (s : List Nat) (S : Store) : itemsOf (.str s) S = .ok (.str s, s.map fun c => .str [c]) S := rfl
theorem items_ref (n : Nat) (xs : List T) (S : Store) (h : S[n]? = some (.lst xs)) : itemsOf (.ref n) S = .ok (.ref n, xs) S := by simp [itemsOf, look, h, T.items]
theorem itM_bind (x : Res T) : itM x = x.bind itemsOf := rfl
@[simp] theorem still_tup (xs ys : List T) (S : Store) : still (.tup xs) ys S = true := rfl
@[simp] theorem still_lst (xs ys : List T) (S : Store) : still (.lst xs) ys S = true := rfl
@[simp] theorem still_str (xs : List Nat) (ys : List T) (S : Store) : still (.str xs) ys S = true := rfl
/-- one turn of a comprehension -/
def turn (elt : E) (tg : Tg) (x : T) (S : Store) : Res (Option T) := match bindT tg x (wipeE r tg.slots) with
  | some r' => (ev P cf mk r' elt S).bnd fun y S => .ok (some y) S
  | none => .bad
def ifO (b : Bool) (x : Res (Option T)) (S : Store) (_ : U x := ⟨⟩) : Res (Option T) := if b = true then x else .ok none S
@[simp] theorem ifO_true (x : Res (Option T)) (S : Store) (u : U x) : ifO true x S u = x := rfl
@[simp] theorem ifO_false (x : Res (Option T)) (S : Store) (u : U x) : ifO false x S u = .ok none S := rfl
def turnI (elt : E) (tg : Tg) (t : E) (x : T) (S : Store) : Res (Option T) := match bindT tg x (wipeE r tg.slots) with
  | some r' => (toB0 (ev P cf mk r' t S)).bnd fun b S => ifO b ((ev P cf mk r' elt S).bnd fun y S => .ok (some y) S) S
  | none => .bad
@[simp] theorem e_comp (elt : E) (tg : Tg) (it : E) : ev P cf mk r (.comp elt tg it) S = ((evL P cf mk r it S).bnd itemsOf).bnd fun p S => (compLoop (still p.1 p.2) (turn P cf mk r elt tg) p.2 S).bnd fun ys S => .ok (.lst ys) S := by
  simp only [ev, itM_bind]; rfl
@[simp] theorem e_compI (elt : E) (tg : Tg) (it t : E) : ev P cf mk r (.compI elt tg it t) S = ((evL P cf mk r it S).bnd itemsOf).bnd fun p S => (compLoop (still p.1 p.2) (turnI P cf mk r elt tg t) p.2 S).bnd fun ys S => .ok (.lst ys) S := by
  simp only [ev, itM_bind]; rfl
@[simp] theorem e_setlen (elt : E) (tg : Tg) (it : E) : ev P cf mk r (.setlen elt tg it) S = ((evL P cf mk r it S).bnd itemsOf).bnd fun p S => (compLoop (still p.1 p.2) (turn P cf mk r elt tg) p.2 S).bnd fun ys S => .ok (.int (unlike ys)) S := by
  simp only [ev, itM_bind]; rfl
def turn2 (elt : E) (tg : Tg) (tg2 : Tg) (it2 : E) (x : T) (S : Store) : Res (List T) := match bindT tg x (wipeE r (tg.slots ++ tg2.slots)) with
  | some r' => ((evL P cf mk r' it2 S).bnd itemsOf).bnd fun p2 S => compLoop (still p2.1 p2.2) (turn P cf mk r' elt tg2) p2.2 S
  | none => .bad
@[simp] theorem e_comp2 (elt : E) (tg : Tg) (it : E) (tg2 : Tg) (it2 : E) : ev P cf mk r (.comp2 elt tg it tg2 it2) S = ((evL P cf mk r it S).bnd itemsOf).bnd fun p S => (compLoop2 (still p.1 p.2) (turn2 P cf mk r elt tg tg2 it2) p.2 S).bnd fun ys S => .ok (.lst ys) S := by
  simp only [ev, itM_bind]; rfl
def lofV (x : T) (S : Store) : Res T := match x with
  | .lst xs => .ok (.lst xs) S
  | .tup xs => .ok (.lst xs) S
  | _ => .bad
def tofV (x : T) (S : Store) : Res T := match x with
  | .lst xs => .ok (.tup xs) S
  | .tup xs => .ok (.tup xs) S
  | _ => .bad
@[simp] theorem lofV_lst (xs : List T) : lofV (.lst xs) S = .ok (.lst xs) S := rfl
@[simp] theorem lofV_tup (xs : List T) : lofV (.tup xs) S = .ok (.lst xs) S := rfl
@[simp] theorem tofV_lst (xs : List T) : tofV (.lst xs) S = .ok (.tup xs) S := rfl
@[simp] theorem tofV_tup (xs : List T) : tofV (.tup xs) S = .ok (.tup xs) S := rfl
@[simp] theorem e_lof (e : E) : ev P cf mk r (.lof e) S = (evL P cf mk r e S).bnd fun c S => lofV (look S c) S := by simp only [ev] <;> rfl
@[simp] theorem e_tof (e : E) : ev P cf mk r (.tof e) S = (evL P cf mk r e S).bnd fun c S => tofV (look S c) S := by simp only [ev] <;> rfl
@[simp] theorem e_lrng (e : E) : ev P cf mk r (.lrng e) S = (ev P cf mk r e S).bnd fun x S => asJ x S fun i S => if i ≤ 16777216 ∧ -16777216 ≤ i then .ok (.lst (rangeL 0 i)) S else .bad := by simp only [ev] <;> rfl
@[simp] theorem e_trng (e : E) : ev P cf mk r (.trng e) S = (ev P cf mk r e S).bnd fun x S => asJ x S fun i S => if i ≤ 16777216 ∧ -16777216 ≤ i then .ok (.tup (rangeL 0 i)) S else .bad := by simp only [ev] <;> rfl
@[simp] theorem e_sorted (e : E) : ev P cf mk r (.sorted e) S = (evL P cf mk r e S).bnd fun c S => Res.of (look S c).sorted S := by simp only [ev] <;> rfl
@[simp] theorem e_sub (a i : E) : ev P cf mk r (.sub a i) S = (evL P cf mk r a S).bnd fun x S => (ev P cf mk r i S).bnd fun y S => Res.of ((look S x).subI y) S := by simp only [ev] <;> rfl
@[simp] theorem e_slice (a lo hi : E) : ev P cf mk r (.slice a lo hi) S = (evL P cf mk r a S).bnd fun x S => (ev P cf mk r lo S).bnd fun l S => asJ l S fun l S => (ev P cf mk r hi S).bnd fun h S => asJ h S fun h S => Res.of ((look S x).cut (some l) (some h)) S := by simp only [ev] <;> rfl
@[simp] theorem e_sliceL (a lo : E) : ev P cf mk r (.sliceL a lo) S = (evL P cf mk r a S).bnd fun x S => (ev P cf mk r lo S).bnd fun l S => asJ l S fun l S => Res.of ((look S x).cut (some l) none) S := by simp only [ev] <;> rfl
@[simp] theorem e_sliceR (a hi : E) : ev P cf mk r (.sliceR a hi) S = (evL P cf mk r a S).bnd fun x S => (ev P cf mk r hi S).bnd fun h S => asJ h S fun h S => Res.of ((look S x).cut none (some h)) S := by simp only [ev] <;> rfl
@[simp] theorem e_op (o : Op2) (a b : E) : ev P cf mk r (.op o a b) S = (ev P cf mk r a S).bnd fun x S => (ev P cf mk r b S).bnd fun y S => Res.of (o.ev x y) S := by simp only [ev] <;> rfl
def catV (x y : T) (S : Store) : Res T := match x, y with
  | .lst xs, .lst ys => if xs.length + ys.length ≤ sizeLim then .ok (.lst (xs ++ ys)) S else .bad
  | _, _ => .bad
@[simp] theorem catV_lst (xs ys : List T) : catV (.lst xs) (.lst ys) S = if xs.length + ys.length ≤ sizeLim then .ok (.lst (xs ++ ys)) S else .bad := rfl
@[simp] theorem e_cat (a b : E) : ev P cf mk r (.cat a b) S = (evL P cf mk r a S).bnd fun x S => (evL P cf mk r b S).bnd fun y S => catV (look S x) (look S y) S := by simp only [ev] <;> rfl
def repV (x y : T) (S : Store) : Res T := match x, y with
  | .lst xs, .int k => if -(2 ^ 63) ≤ k ∧ k < 2 ^ 63 ∧ xs.length * k.toNat ≤ sizeLim then .ok (.lst (List.replicate k.toNat xs).flatten) S else .bad
  | _, _ => .bad
@[simp] theorem repV_lst (xs : List T) (k : Int) : repV (.lst xs) (.int k) S = if -(2 ^ 63) ≤ k ∧ k < 2 ^ 63 ∧ xs.length * k.toNat ≤ sizeLim then .ok (.lst (List.replicate k.toNat xs).flatten) S else .bad := rfl
@[simp] theorem e_rep (a b : E) : ev P cf mk r (.rep a b) S = (evL P cf mk r a S).bnd fun x S => (ev P cf mk r b S).bnd fun y S => repV (look S x) y S := by simp only [ev] <;> rfl
@[simp] theorem e_neg (a : E) : ev P cf mk r (.neg a) S = (ev P cf mk r a S).bnd fun x S => asJ x S fun i S => .ok (.int (-i)) S := by simp only [ev] <;> rfl
@[simp] theorem e_cmp (c : Cmp) (a b : E) : ev P cf mk r (.cmp c a b) S = (evL P cf mk r a S).bnd fun x S => (evL P cf mk r b S).bnd fun y S => Res.of ((c.ev (look S x) (look S y)).map .bl) S := by simp only [ev] <;> rfl
def optB (o : Option Bool) (a b : Res T) (_ : U a := ⟨⟩) (_ : U b := ⟨⟩) : Res T := match o with
  | some true => a
  | some false => b
  | none => .bad
@[simp] theorem optB_true (a b : Res T) (u : U a) (v : U b) : optB (some true) a b u v = a := rfl
@[simp] theorem optB_false (a b : Res T) (u : U a) (v : U b) : optB (some false) a b u v = b := rfl
@[simp] theorem e_chain (c d : Cmp) (a b e : E) : ev P cf mk r (.chain c d a b e) S = (ev P cf mk r a S).bnd fun x S => (ev P cf mk r b S).bnd fun y S => optB (c.ev x y) ((ev P cf mk r e S).bnd fun z S => Res.of ((d.ev y z).map .bl) S) (.ok (.bl false) S) := by simp only [ev] <;> rfl
@[simp] theorem e_isK (n : Bool) (a : E) (t : T) : ev P cf mk r (.isK n a t) S = (ev P cf mk r a S).bnd fun x S => Res.of ((x.isK t).map fun b => .bl (b != n)) S := by simp only [ev] <;> rfl
@[simp] theorem e_and (a b : E) : ev P cf mk r (.and a b) S = (ev P cf mk r a S).bnd fun x S => fork x ((ev P cf mk r b S).bnd fun y S => onB y S) (.ok (.bl false) S) := by
  simp only [ev]
  congr 1; funext x S
  cases x <;> try rfl
  rename_i b'; cases b' <;> rfl
@[simp] theorem e_or (a b : E) : ev P cf mk r (.or a b) S = (ev P cf mk r a S).bnd fun x S => fork x (.ok (.bl true) S) ((ev P cf mk r b S).bnd fun y S => onB y S) := by
  simp only [ev]
  congr 1; funext x S
  cases x <;> try rfl
  rename_i b'; cases b' <;> rfl
@[simp] theorem e_not (a : E) : ev P cf mk r (.not a) S = (ev P cf mk r a S).bnd fun x S => notB x S := by simp only [ev] <;> rfl
@[simp] theorem e_ife (c a b : E) : ev P cf mk r (.ife c a b) S = (ev P cf mk r c S).bnd fun x S => fork x (ev P cf mk r a S) (ev P cf mk r b S) := by
  simp only [ev]
  congr 1; funext x S
  cases x <;> try rfl
  rename_i b'; cases b' <;> rfl
@[simp] theorem e_call (f : Nat) (es : List E) : ev P cf mk r (.call f es) S = (evs P cf mk r es S).bnd fun xs S => cf f xs S := by simp only [ev] <;> rfl
@[simp] theorem e_mk (c : Nat) (es : List E) : ev P cf mk r (.mk c es) S = (evs P cf mk r es S).bnd fun xs S => mk c xs S := by simp only [ev] <;> rfl
def methV (P : Prog) (m : Nat) (x : T) (k : Nat → Res T) (_ : U k := ⟨⟩) : Res T := match x with
  | .ins c _ => (match P.meth c m with
    | some f => k f
    | none => .bad)
  | _ => .bad
@[simp] theorem e_meth (m : Nat) (e : E) (es : List E) : ev P cf mk r (.meth m e es) S = (ev P cf mk r e S).bnd fun x S => methV P m x fun f => (evs P cf mk r es S).bnd fun xs S => cf f (x :: xs) S := by simp only [ev] <;> rfl
@[simp] theorem e_attr (e : E) (a : Nat) : ev P cf mk r (.attr e a) S = (evL P cf mk r e S).bnd fun x S => Res.of (x.attr a) S := by simp only [ev] <;> rfl
@[simp] theorem e_bi (b : Bi) (es : List E) : ev P cf mk r (.bi b es) S = (evVs P cf mk r es S).bnd fun xs S => Res.of (b.ev (xs.map (look S))) S := by simp only [ev] <;> rfl
@[simp] theorem e_isi (e : E) (ty : Ty) : ev P cf mk r (.isi e ty) S = (evL P cf mk r e S).bnd fun x S => Res.of ((ty.ev (look S x)).map .bl) S := by simp only [ev] <;> rfl
@[simp] theorem e_isi2 (e : E) (ty ty2 : Ty) : ev P cf mk r (.isi2 e ty ty2) S = (evL P cf mk r e S).bnd fun x S => Res.of ((ty.ev (look S x)).bind fun a => (ty2.ev (look S x)).map fun b => .bl (a || b)) S := by simp only [ev] <;> rfl
def isxV (P : Prog) (o : Option Slot) (c : Nat) (S : Store) : Res T := match o with
  | some (.exc d) => .ok (.bl (P.sub d c)) S
  | _ => .bad
@[simp] theorem isxV_exc (d c : Nat) : isxV P (some (.exc d)) c S = .ok (.bl (P.sub d c)) S := rfl
@[simp] theorem e_isx (i c : Nat) : ev P cf mk r (.isx i c) S = isxV P r[i]? c S := by simp only [ev] <;> rfl
def cellV (x : T) (S : Store) : Res T := match x with
  | .lst xs => .ok (.ref S.length) (S ++ [.lst xs])
  | _ => .bad
@[simp] theorem cellV_lst (xs : List T) : cellV (.lst xs) S = .ok (.ref S.length) (S ++ [.lst xs]) := rfl
@[simp] theorem e_cell (e : E) : ev P cf mk r (.cell e) S = (ev P cf mk r e S).bnd fun x S => cellV x S := by simp only [ev] <;> rfl
def joinV (x : T) (S : Store) : Res T := match x with
  | .lst xs => (match joined xs with
    | some z => if z.length ≤ sizeLim then .ok (.str z) S else .bad
    | none => .bad)
  | _ => .bad
@[simp] theorem e_join (e : E) : ev P cf mk r (.join e) S = (evL P cf mk r e S).bnd fun x S => joinV (look S x) S := by simp only [ev] <;> rfl
@[simp] theorem e_index (a b : E) : ev P cf mk r (.index a b) S = (evL P cf mk r a S).bnd fun x S => (ev P cf mk r b S).bnd fun y S => Res.of ((look S x).index y) S := by simp only [ev] <;> rfl
@[simp] theorem e_dict (ks : List T) (es : List E) : ev P cf mk r (.dict ks es) S = (evs P cf mk r es S).bnd fun xs S => .ok (.dic (ks.zip xs)) S := by simp only [ev] <;> rfl
@[simp] theorem e_rng (e : E) : ev P cf mk r (.rng e) S = (ev P cf mk r e S).bnd fun x S => asJ x S fun i S => if i ≤ 16777216 ∧ -(2 ^ 60) < i then .ok (.lst (rangeL 0 i)) S else .bad := by simp only [ev] <;> rfl
@[simp] theorem e_rng2 (a b : E) : ev P cf mk r (.rng2 a b) S = (ev P cf mk r a S).bnd fun x S => (ev P cf mk r b S).bnd fun y S => asJ x S fun i S => asJ y S fun j S => if (-(2 ^ 60) < i ∧ i < 2 ^ 60) ∧ -(2 ^ 60) < j ∧ j < 2 ^ 60 ∧ j - i ≤ 16777216 then .ok (.lst (rangeL i j)) S else .bad := by simp only [ev] <;> rfl
def enumV (x : T) (S : Store) : Res T := match x with
  | .lst xs => .ok (.lst (enumL 0 xs)) S
  | .tup xs => .ok (.lst (enumL 0 xs)) S
  | _ => .bad
@[simp] theorem enumV_lst (xs : List T) : enumV (.lst xs) S = .ok (.lst (enumL 0 xs)) S := rfl
@[simp] theorem enumV_tup (xs : List T) : enumV (.tup xs) S = .ok (.lst (enumL 0 xs)) S := rfl
@[simp] theorem e_enum (e : E) : ev P cf mk r (.enum e) S = (ev P cf mk r e S).bnd enumV := by simp only [ev] <;> rfl
/-! ### statements -/
def SRes.seq (x : SRes) (k : Env → Store → SRes) (_ : U k := ⟨⟩) : SRes := match x with
  | .nx r' S' => k r' S'
  | x => x
@[simp] theorem seq_nx (k : Env → Store → SRes) (u : U k) : (SRes.nx r S).seq k u = k r S := rfl
@[simp] theorem seq_ret (t : T) (k : Env → Store → SRes) (u : U k) : (SRes.ret t S).seq k u = .ret t S := rfl
@[simp] theorem seq_brk (k : Env → Store → SRes) (u : U k) : (SRes.brk r S).seq k u = .brk r S := rfl
@[simp] theorem seq_cnt (k : Env → Store → SRes) (u : U k) : (SRes.cnt r S).seq k u = .cnt r S := rfl
@[simp] theorem seq_exn (c : Nat) (k : Env → Store → SRes) (u : U k) : (SRes.exn c r S).seq k u = .exn c r S := rfl
@[simp] theorem seq_bad (k : Env → Store → SRes) (u : U k) : SRes.bad.seq k u = .bad := rfl
@[simp] theorem q_nil : exs P cf mk [] r S = .nx r S := by simp only [exs]
theorem q_one (s : Hf.S) : exs P cf mk [s] r S = ex P cf mk s r S := by
  simp only [exs]; cases ex P cf mk s r S <;> rfl
@[simp] theorem q_cons (s : Hf.S) (l : List Hf.S) : exs P cf mk (s :: l) r S = (ex P cf mk s r S).seq fun r' S' => exs P cf mk l r' S' := by
  simp only [exs]; cases ex P cf mk s r S <;> rfl
def nxO (o : Option Env) (S : Store) : SRes := match o with
  | some r' => .nx r' S
  | none => .bad
@[simp] theorem nxO_some : nxO (some r) S = .nx r S := rfl
@[simp] theorem q_asg (tg : Tg) (e : E) : ex P cf mk (.asg tg e) r S = (ev P cf mk r e S).toT r fun t S => nxO (bindT tg t r) S := by simp only [ex] <;> rfl
def ownS (i : Nat) (t : T) (r : Env) (S : Store) : SRes := match t with
  | .lst xs => .nx (r.set i (.own xs)) S
  | _ => .bad
@[simp] theorem ownS_lst (i : Nat) (xs : List T) : ownS i (.lst xs) r S = .nx (r.set i (.own xs)) S := rfl
@[simp] theorem q_own (i : Nat) (e : E) : ex P cf mk (.own i e) r S = (ev P cf mk r e S).toT r fun t S => ownS i t r S := by simp only [ex] <;> rfl
def onOwn (o : Option (List T)) (k : List T → SRes) (_ : U k := ⟨⟩) : SRes := match o with
  | some xs => k xs
  | none => .bad
@[simp] theorem onOwn_some (xs : List T) (k : List T → SRes) (u : U k) : onOwn (some xs) k u = k xs := rfl
def ownOf' (o : Option Slot) : Option (List T) := match o with
  | some (.own xs) => some xs
  | _ => none
@[simp] theorem ownOf_own (xs : List T) : ownOf' (some (.own xs)) = some xs := rfl
theorem ownAt_eq (i : Nat) : ownAt r i = ownOf' r[i]? := rfl
@[simp] theorem q_push (i : Nat) (e : E) : ex P cf mk (.push i e) r S = onOwn (ownOf' r[i]?) fun xs => (ev P cf mk r e S).toT r fun t S => if xs.length < sizeLim then .nx (r.set i (.own (xs ++ [t]))) S else .bad := by simp only [ex] <;> rfl
def extS (i : Nat) (xs : List T) (t : T) (r : Env) (S : Store) : SRes := match t with
  | .lst ys => if xs.length + ys.length ≤ sizeLim then .nx (r.set i (.own (xs ++ ys))) S else .bad
  | _ => .bad
@[simp] theorem extS_lst (i : Nat) (xs ys : List T) : extS i xs (.lst ys) r S = if xs.length + ys.length ≤ sizeLim then .nx (r.set i (.own (xs ++ ys))) S else .bad := rfl
@[simp] theorem q_ext (i : Nat) (e : E) : ex P cf mk (.ext i e) r S = onOwn (ownOf' r[i]?) fun xs => (ev P cf mk r e S).toT r fun t S => extS i xs t r S := by simp only [ex] <;> rfl
def setiS (i : Nat) (xs : List T) (t y : T) (r : Env) (S : Store) : SRes := match y with
  | .int z => (match ixN xs.length z with
    | some j => .nx (r.set i (.own (xs.set j t))) S
    | none => .bad)
  | _ => .bad
theorem setiS_at (i : Nat) (xs : List T) (t : T) (z : Int) (j : Nat) (h : ixN xs.length z = some j) : setiS i xs t (.int z) r S = .nx (r.set i (.own (xs.set j t))) S := by simp [setiS, h]
@[simp] theorem q_seti (i : Nat) (k e : E) : ex P cf mk (.seti i k e) r S = (ev P cf mk r e S).toT r fun t S => onOwn (ownOf' r[i]?) fun xs => (ev P cf mk r k S).toT r fun y S => setiS i xs t y r S := by simp only [ex] <;> rfl
def setcS (x y t : T) (r : Env) (S : Store) : SRes := match x, y with
  | .ref n, .int z => (match S[n]? with
    | some (.lst xs) => (match ixN xs.length z with
      | some j => .nx r (S.set n (.lst (xs.set j t)))
      | none => .bad)
    | _ => .bad)
  | _, _ => .bad
@[simp] theorem q_setc (a k e : E) : ex P cf mk (.setc a k e) r S = (ev P cf mk r e S).toT r fun t S => (ev P cf mk r a S).toT r fun x S => (ev P cf mk r k S).toT r fun y S => setcS x y t r S := by simp only [ex] <;> rfl
def pushcS (n : Nat) (t : T) (r : Env) (S : Store) : SRes := match S[n]? with
  | some (.lst xs) => if xs.length < sizeLim then .nx r (S.set n (.lst (xs ++ [t]))) else .bad
  | _ => .bad
def onRef (x : T) (k : Nat → SRes) (_ : U k := ⟨⟩) : SRes := match x with
  | .ref n => k n
  | _ => .bad
@[simp] theorem onRef_ref (n : Nat) (k : Nat → SRes) (u : U k) : onRef (.ref n) k u = k n := rfl
@[simp] theorem q_pushc (a e : E) : ex P cf mk (.pushc a e) r S = (ev P cf mk r a S).toT r fun x S => onRef x fun n => (ev P cf mk r e S).toT r fun t S => pushcS n t r S := by simp only [ex] <;> rfl
def attrS (o : Option Slot) (i a : Nat) (t : T) (r : Env) (S : Store) : SRes := match o with
  | some (.inst c fs) => if fs.length < 500 ∧ noInst (r.set i .no) = true then .nx (r.set i (.inst c (putFs a t fs))) S else .bad
  | _ => .bad
@[simp] theorem attrS_inst (i a c : Nat) (fs : List (Nat × T)) (t : T) : attrS (some (.inst c fs)) i a t r S = if fs.length < 500 ∧ noInst (r.set i .no) = true then .nx (r.set i (.inst c (putFs a t fs))) S else .bad := rfl
@[simp] theorem q_attr (i a : Nat) (e : E) : ex P cf mk (.attr i a e) r S = (ev P cf mk r e S).toT r fun t S => attrS r[i]? i a t r S := by simp only [ex] <;> rfl
@[simp] theorem q_ex (e : E) : ex P cf mk (.ex e) r S = (ev P cf mk r e S).toT r fun _ S => .nx r S := by simp only [ex] <;> rfl
@[simp] theorem q_ret (e : E) : ex P cf mk (.ret e) r S = (ev P cf mk r e S).toT r fun t S => .ret t S := by simp only [ex] <;> rfl
@[simp] theorem q_retN : ex P cf mk .retN r S = .ret .non S := by simp only [ex] <;> rfl
@[simp] theorem qq_ife (c : E) (a b : List Hf.S) : ex P cf mk (.ife c a b) r S = (ev P cf mk r c S).toT r fun x S => forkS x (exs P cf mk a r S) (exs P cf mk b r S) := by simp only [ex] <;> rfl
/-- one turn of a for -/
def goS (tg : Tg) (b : List Hf.S) (x : T) (r : Env) (S : Store) : SRes := match bindT tg x r with
  | some r' => exs P cf mk b r' S
  | none => .bad
@[simp] theorem q_loop (tg : Tg) (it : E) (b : List Hf.S) : ex P cf mk (.loop tg it b) r S = ((ev P cf mk r it S).bnd itemsOf).toT r fun p S => forLoop (still p.1 p.2) (goS P cf mk tg b) p.2 r S := by simp only [ex, itM_bind]; rfl
@[simp] theorem q_raise (c : Nat) : ex P cf mk (.raise c) r S = .exn c r S := by simp only [ex] <;> rfl
@[simp] theorem q_pass : ex P cf mk .pass r S = .nx r S := by simp only [ex] <;> rfl
@[simp] theorem q_brk : ex P cf mk .brk r S = .brk r S := by simp only [ex] <;> rfl
@[simp] theorem q_cont : ex P cf mk .cont r S = .cnt r S := by simp only [ex] <;> rfl
def frzS (o : Option (List T)) (i : Nat) (r : Env) (S : Store) : SRes := match o with
  | some xs => .nx (r.set i (.val (.lst xs))) S
  | none => .nx r S
@[simp] theorem frzS_some (xs : List T) (i : Nat) : frzS (some xs) i r S = .nx (r.set i (.val (.lst xs))) S := rfl
@[simp] theorem frzS_none (i : Nat) : frzS none i r S = .nx r S := rfl
@[simp] theorem q_frz (i : Nat) : ex P cf mk (.frz i) r S = frzS (ownOf' r[i]?) i r S := by simp only [ex] <;> rfl
def SRes.catch (x : SRes) (k : Nat → Env → Store → SRes) (_ : U k := ⟨⟩) : SRes := match x with
  | .exn d r' S' => k d r' S'
  | x => x
@[simp] theorem catch_nx (k : Nat → Env → Store → SRes) (u : U k) : (SRes.nx r S).catch k u = .nx r S := rfl
@[simp] theorem catch_ret (t : T) (k : Nat → Env → Store → SRes) (u : U k) : (SRes.ret t S).catch k u = .ret t S := rfl
@[simp] theorem catch_exn (c : Nat) (k : Nat → Env → Store → SRes) (u : U k) : (SRes.exn c r S).catch k u = k c r S := rfl
theorem q_tryx (b : List Hf.S) (c : Nat) (h : List Hf.S) : ex P cf mk (.tryx b c h) r S = (exs P cf mk b r S).catch fun d r' S' => if P.sub d c = true then (exs P cf mk h r' S').hot else .exn d r' S' := by
  simp only [ex]; cases exs P cf mk b r S <;> rfl
theorem q_tryn (b : List Hf.S) (c i : Nat) (h : List Hf.S) : ex P cf mk (.tryn b c i h) r S = (exs P cf mk b r S).catch fun d r' S' => if P.sub d c = true then (exs P cf mk h (r'.set i (.exc d)) S').drop i else .exn d r' S' := by
  simp only [ex]; cases exs P cf mk b r S <;> rfl
theorem q_tryn2 (b : List Hf.S) (c : Nat) (h : List Hf.S) (c2 : Nat) (h2 : List Hf.S) (i : Nat) : ex P cf mk (.tryn2 b c h c2 h2 i) r S = (exs P cf mk b r S).catch fun d r' S' => if P.sub d c = true then (exs P cf mk h (r'.set i (.exc d)) S').drop i
      else if P.sub d c2 = true then (exs P cf mk h2 (r'.set i (.exc d)) S').drop i else .exn d r' S' := by
  simp only [ex]; cases exs P cf mk b r S <;> rfl
end
/-! ### targets -/
@[simp] theorem bindT_n (i : Nat) (x : T) (r : Env) : bindT (.n i) x r = some (r.set i (.val x)) := rfl
@[simp] theorem bindT_t (is : List Nat) (xs : List T) (r : Env) : bindT (.t is) (.tup xs) r = bindTs is xs r := rfl
@[simp] theorem bindTs_nil (r : Env) : bindTs [] [] r = some r := rfl
@[simp] theorem bindTs_cons (i : Nat) (is : List Nat) (x : T) (xs : List T) (r : Env) : bindTs (i :: is) (x :: xs) r = bindTs is xs (r.set i (.val x)) := rfl
@[simp] theorem slots_n (i : Nat) : (Tg.n i).slots = [i] := rfl
@[simp] theorem slots_t (is : List Nat) : (Tg.t is).slots = is := rfl
@[simp] theorem wipe_nil (r : Env) : wipeE r [] = r := rfl
@[simp] theorem wipe_cons (r : Env) (i : Nat) (is : List Nat) : wipeE r (i :: is) = (wipeE r is).set i .no := rfl
/-! ### operations on what is known -/
@[simp] theorem o_eq (a b : T) : Cmp.ev .eq a b = T.eqs a b := by cases a <;> cases b <;> rfl
@[simp] theorem o_ne (a b : T) : Cmp.ev .ne a b = (T.eqs a b).map (!·) := by cases a <;> cases b <;> rfl
@[simp] theorem o_in (a b : T) : Cmp.ev .isin a b = T.isin a b := by cases a <;> cases b <;> rfl
@[simp] theorem o_notin (a b : T) : Cmp.ev .notin a b = (T.isin a b).map (!·) := by cases a <;> cases b <;> rfl
@[simp] theorem o_lt (a b : Int) : Cmp.ev .lt (.int a) (.int b) = some (decide (a < b)) := rfl
@[simp] theorem o_le (a b : Int) : Cmp.ev .le (.int a) (.int b) = some (decide (a ≤ b)) := rfl
@[simp] theorem o_gt (a b : Int) : Cmp.ev .gt (.int a) (.int b) = some (decide (b < a)) := rfl
@[simp] theorem o_ge (a b : Int) : Cmp.ev .ge (.int a) (.int b) = some (decide (b ≤ a)) := rfl
@[simp] theorem eqs_str (x y : List Nat) : T.eqs (.str x) (.str y) = some (decide (x = y)) := by
  simp only [T.eqs, T.data, T.depth, eqLine, T.eqv]
  by_cases h : x = y <;> simp [h]
@[simp] theorem eqs_int (x y : Int) : T.eqs (.int x) (.int y) = some (decide (x = y)) := by
  simp only [T.eqs, T.data, T.depth, eqLine, T.eqv]
  by_cases h : x = y <;> simp [h]
@[simp] theorem eqs_bl (x y : Bool) : T.eqs (.bl x) (.bl y) = some (decide (x = y)) := by
  simp only [T.eqs, T.data, T.depth, eqLine, T.eqv]
  by_cases h : x = y <;> simp [h]
@[simp] theorem eqs_ns (y : List Nat) : T.eqs .non (.str y) = some false := by simp [T.eqs, T.data, T.depth, eqLine, T.eqv]
@[simp] theorem eqs_sn (y : List Nat) : T.eqs (.str y) .non = some false := by simp [T.eqs, T.data, T.depth, eqLine, T.eqv]
theorem eqs_of {a b : T} (ha : a.data = true) (hb : b.data = true) (h : a.depth ≤ 60 ∨ b.depth ≤ 60) : T.eqs a b = some (T.eqv a b) := by
  have : min a.depth b.depth ≤ 60 := by omega
  simp [T.eqs, ha, hb, eqLine, this]
@[simp] theorem isin_tup (x : T) (xs : List T) : T.isin x (.tup xs) = inItems x xs := by cases x <;> rfl
@[simp] theorem isin_lst (x : T) (xs : List T) : T.isin x (.lst xs) = inItems x xs := by cases x <;> rfl
@[simp] theorem isin_dic (x : List Nat) (kvs : List (T × T)) : T.isin (.str x) (.dic kvs) = some (dlook kvs x).isSome := rfl
@[simp] theorem isin_chr (c : Nat) (t : List Nat) : T.isin (.str [c]) (.str t) = some (t.contains c) := rfl
@[simp] theorem add_int (a b : Int) : Op2.ev .add (.int a) (.int b) = some (.int (a + b)) := rfl
@[simp] theorem sub_int (a b : Int) : Op2.ev .sub (.int a) (.int b) = some (.int (a - b)) := rfl
@[simp] theorem isK_non : T.isK .non .non = some true := rfl
@[simp] theorem isK_str (s : List Nat) : T.isK (.str s) .non = some false := rfl
@[simp] theorem isK_int (s : Int) : T.isK (.int s) .non = some false := rfl
@[simp] theorem isK_tup (s : List T) : T.isK (.tup s) .non = some false := rfl
@[simp] theorem isK_lst (s : List T) : T.isK (.lst s) .non = some false := rfl
@[simp] theorem isK_bl (s : Bool) : T.isK (.bl s) .non = some false := rfl
@[simp] theorem isK_bb (s b : Bool) : T.isK (.bl s) (.bl b) = some (b == s) := rfl
@[simp] theorem len_str (s : List Nat) : Bi.ev .len [.str s] = some (.int s.length) := rfl
@[simp] theorem len_tup (s : List T) : Bi.ev .len [.tup s] = some (.int s.length) := rfl
@[simp] theorem len_lst (s : List T) : Bi.ev .len [.lst s] = some (.int s.length) := rfl
@[simp] theorem bint_int (i : Int) : Bi.ev .int [.int i] = some (.int i) := rfl
@[simp] theorem abs_int (i : Int) : Bi.ev .abs [.int i] = some (.int (if i < 0 then -i else i)) := rfl
@[simp] theorem max2_int (i j : Int) : Bi.ev .max2 [.int i, .int j] = some (.int (if j > i then j else i)) := rfl
@[simp] theorem min2_int (i j : Int) : Bi.ev .min2 [.int i, .int j] = some (.int (if j < i then j else i)) := rfl
@[simp] theorem subI_tup (xs : List T) (i : Int) : (T.tup xs).subI (.int i) = atI xs i := rfl
@[simp] theorem subI_lst (xs : List T) (i : Int) : (T.lst xs).subI (.int i) = atI xs i := rfl
@[simp] theorem subI_dic (kvs : List (T × T)) (k : List Nat) : (T.dic kvs).subI (.str k) = dlook kvs k := rfl
theorem atI_nat {α : Type} (xs : List α) (i : Nat) : atI xs (i : Int) = xs[i]? := by
  unfold atI ixN
  by_cases h : i < xs.length
  · rw [if_pos (by omega), if_pos (by omega)]; simp
  · rw [if_pos (by omega), if_neg (by omega)]
    simp; omega
@[simp] theorem atI_0 {α : Type} (x : α) (xs : List α) : atI (x :: xs) 0 = some x := atI_nat (x :: xs) 0
@[simp] theorem atI_1 {α : Type} (x y : α) (xs : List α) : atI (x :: y :: xs) 1 = some y := atI_nat (x :: y :: xs) 1
@[simp] theorem atI_2 {α : Type} (x y z : α) (xs : List α) : atI (x :: y :: z :: xs) 2 = some z := atI_nat (x :: y :: z :: xs) 2
@[simp] theorem atI_3 {α : Type} (x y z u : α) (xs : List α) : atI (x :: y :: z :: u :: xs) 3 = some u := atI_nat (x :: y :: z :: u :: xs) 3
@[simp] theorem atI_4 {α : Type} (x y z u v : α) (xs : List α) : atI (x :: y :: z :: u :: v :: xs) 4 = some v := atI_nat (x :: y :: z :: u :: v :: xs) 4
@[simp] theorem atI_5 {α : Type} (x y z u v w : α) (xs : List α) : atI (x :: y :: z :: u :: v :: w :: xs) 5 = some w := atI_nat (x :: y :: z :: u :: v :: w :: xs) 5
theorem ixN_nat (n i : Nat) (h : i < n) : ixN n (i : Int) = some i := by
  unfold ixN
  rw [if_pos (by omega), if_pos (by omega)]; simp
/-! ### loops -/
theorem compLoop_map {g : Store → Bool} {f : T → Store → Res (Option T)} {S : Store} (hg : g S = true) (h : T → T) : ∀ {xs : List T}, (∀ x ∈ xs, f x S = .ok (some (h x)) S) → compLoop g f xs S = .ok (xs.map h) S
  | [], _ => rfl
  | x :: xs, hf => by
    have e := compLoop_map hg h (xs := xs) fun y hy => hf y (List.mem_cons_of_mem _ hy)
    simp [compLoop, hf x (List.mem_cons_self ..), hg, e]
theorem compLoop_filter {g : Store → Bool} {f : T → Store → Res (Option T)} {S : Store} (hg : g S = true) (p : T → Bool) (h : T → T) : ∀ {xs : List T}, (∀ x ∈ xs, f x S = .ok (if p x = true then some (h x) else none) S) → compLoop g f xs S = .ok ((xs.filter p).map h) S
  | [], _ => rfl
  | x :: xs, hf => by
    have e := compLoop_filter hg p h (xs := xs) fun y hy => hf y (List.mem_cons_of_mem _ hy)
    cases q : p x <;> simp [compLoop, hf x (List.mem_cons_self ..), hg, e, q]
/-- items told by an outer list -/
theorem compLoop_of {α : Type} {g : Store → Bool} {f : T → Store → Res (Option T)} {S : Store} (hg : g S = true) (t : α → T) (h : α → T) : ∀ {xs : List α}, (∀ x ∈ xs, f (t x) S = .ok (some (h x)) S) → compLoop g f (xs.map t) S = .ok (xs.map h) S
  | [], _ => rfl
  | x :: xs, hf => by
    have e := compLoop_of hg t h (xs := xs) fun y hy => hf y (List.mem_cons_of_mem _ hy)
    simp [compLoop, hf x (List.mem_cons_self ..), hg, e]
theorem compLoop_ofI {α : Type} {g : Store → Bool} {f : T → Store → Res (Option T)} {S : Store} (hg : g S = true) (t : α → T) (p : α → Bool) (h : α → T) : ∀ {xs : List α}, (∀ x ∈ xs, f (t x) S = .ok (if p x = true then some (h x) else none) S) → compLoop g f (xs.map t) S = .ok ((xs.filter p).map h) S
  | [], _ => rfl
  | x :: xs, hf => by
    have e := compLoop_ofI hg t p h (xs := xs) fun y hy => hf y (List.mem_cons_of_mem _ hy)
    cases q : p x <;> simp [compLoop, hf x (List.mem_cons_self ..), hg, e, q]
theorem boolsOf_map {α : Type} (p : α → Bool) : ∀ xs : List α, boolsOf (xs.map fun x => T.bl (p x)) = some (xs.map p)
  | [] => rfl
  | x :: xs => by simp [boolsOf, boolsOf_map p xs]
@[simp] theorem bi_all_map {α : Type} (p : α → Bool) (xs : List α) : Bi.ev .all [.lst (xs.map fun x => T.bl (p x))] = some (.bl (xs.all p)) := by
  simp [Bi.ev, boolsOf_map, List.all_map, Function.comp_def]
@[simp] theorem bi_any_map {α : Type} (p : α → Bool) (xs : List α) : Bi.ev .any [.lst (xs.map fun x => T.bl (p x))] = some (.bl (xs.any p)) := by
  simp [Bi.ev, boolsOf_map, List.any_map, Function.comp_def]
theorem dataAll_mem {xs : List T} (h : T.dataAll xs = true) : ∀ {x : T}, x ∈ xs → x.data = true := by
  induction xs with
  | nil => intro x hx; cases hx
  | cons y ys ih =>
    intro x hx
    simp only [T.dataAll, Bool.and_eq_true] at h
    rcases List.mem_cons.mp hx with rfl | hx
    · exact h.1
    · exact ih h.2 hx
theorem dataAll_of {xs : List T} (h : ∀ x ∈ xs, x.data = true) : T.dataAll xs = true := by
  induction xs with
  | nil => rfl
  | cons y ys ih => simp only [T.dataAll, Bool.and_eq_true]; exact ⟨h y (List.mem_cons_self ..), ih fun x hx => h x (List.mem_cons_of_mem _ hx)⟩
theorem depth_mem {xs : List T} {x : T} (h : x ∈ xs) : x.depth ≤ T.depthAll xs := by
  induction xs with
  | nil => cases h
  | cons y ys ih =>
    simp only [T.depthAll]
    rcases List.mem_cons.mp h with rfl | h
    · omega
    · have := ih h; omega
theorem depthAll_le {xs : List T} {n : Nat} (h : ∀ x ∈ xs, x.depth ≤ n) : T.depthAll xs ≤ n := by
  induction xs with
  | nil => simp [T.depthAll]
  | cons y ys ih =>
    simp only [T.depthAll]
    have := h y (List.mem_cons_self ..)
    have := ih fun x hx => h x (List.mem_cons_of_mem _ hx)
    omega
mutual
theorem eqv_refl : ∀ t : T, t.data = true → T.eqv t t = true
  | .non, _ => rfl
  | .bl b, _ => by simp [T.eqv]
  | .int i, _ => by simp [T.eqv]
  | .str s, _ => by simp [T.eqv]
  | .tup xs, h => by simp only [T.eqv]; exact eqvAll_refl xs (by simpa [T.data] using h)
  | .lst xs, h => by simp only [T.eqv]; exact eqvAll_refl xs (by simpa [T.data] using h)
  | .dic _, h => by simp [T.data] at h
  | .ref _, h => by simp [T.data] at h
  | .fn _, h => by simp [T.data] at h
  | .ins _ _, h => by simp [T.data] at h
theorem eqvAll_refl : ∀ xs : List T, T.dataAll xs = true → T.eqvAll xs xs = true
  | [], _ => rfl
  | x :: xs, h => by
    simp only [T.dataAll, Bool.and_eq_true] at h
    simp [T.eqvAll, eqv_refl x h.1, eqvAll_refl xs h.2]
end
theorem call_of {P : Prog} {n f : Nat} {xs : List T} {S : Store} {d : FDef} (h : P.defs f = some d) (hl : xs.length = d.np) : call P (n + 1) f xs S = (exs P (call P n) (make P n) d.body (startE d xs) S).fin := by
  simp only [call, h, runF, hl, if_true]
end Hf
namespace Hf
/-! ### enumerate -/
def enumB (p : Nat → T → Bool) : Nat → List T → List Bool
  | _, [] => []
  | k, x :: xs => p k x :: enumB p (k + 1) xs
theorem compLoop_enum {g : Store → Bool} {f : T → Store → Res (Option T)} {S : Store} (hg : g S = true) (p : Nat → T → Bool) : ∀ (xs : List T) (k : Nat), (∀ j x, xs[j]? = some x → f (.tup [.int ((k + j : Nat) : Int), x]) S = .ok (some (.bl (p (k + j) x))) S) → compLoop g f (enumL k xs) S = .ok ((enumB p k xs).map .bl) S
  | [], _, _ => rfl
  | x :: xs, k, hf => by
    have e := compLoop_enum hg p xs (k + 1) fun j y hy => by
      have := hf (j + 1) y (by simpa using hy)
      rw [show k + (j + 1) = k + 1 + j by omega] at this
      exact this
    have h0 := hf 0 x rfl
    simp only [Nat.add_zero] at h0
    simp [enumL, compLoop, h0, hg, e, enumB]
theorem enumB_all (p : Nat → T → Bool) : ∀ (xs : List T) (k : Nat), (enumB p k xs).all id = true ↔ ∀ j x, xs[j]? = some x → p (k + j) x = true
  | [], _ => by simp [enumB]
  | x :: xs, k => by
    have ih := enumB_all p xs (k + 1)
    simp only [enumB, List.all_cons, Bool.and_eq_true, id]
    rw [ih]
    constructor
    · intro ⟨h1, h2⟩ j y hy
      cases j with
      | zero => simp at hy; subst hy; exact h1
      | succ j => have := h2 j y (by simpa using hy); rwa [show k + 1 + j = k + (j + 1) by omega] at this
    · intro h
      refine ⟨h 0 x rfl, fun j y hy => ?_⟩
      have := h (j + 1) y (by simpa using hy)
      rwa [show k + (j + 1) = k + 1 + j by omega] at this
@[simp] theorem bi_all_bl (bs : List Bool) : Bi.ev .all [.lst (bs.map .bl)] = some (.bl (bs.all id)) := by
  have : boolsOf (bs.map .bl) = some bs := by
    induction bs with
    | nil => rfl
    | cons b bs ih => simp [boolsOf, ih]
  simp [Bi.ev, this]
theorem dlook_mem : ∀ {kvs : List (T × T)} {k : List Nat} {v : T}, dlook kvs k = some v → (.str k, v) ∈ kvs
  | [], _, _, h => by simp [dlook] at h
  | (a, b) :: r, k, v, h => by
    cases a <;> simp only [dlook] at h <;> try exact List.mem_cons_of_mem _ (dlook_mem h)
    split at h
    · rename_i e; subst e; cases h; exact List.mem_cons_self ..
    · exact List.mem_cons_of_mem _ (dlook_mem h)
end Hf
namespace Hf
@[simp] theorem eqv_str (x y : List Nat) : T.eqv (.str x) (.str y) = decide (x = y) := by
  simp only [T.eqv]
  by_cases h : x = y <;> simp [h]
@[simp] theorem eqv_int (x y : Int) : T.eqv (.int x) (.int y) = decide (x = y) := by
  simp only [T.eqv]
  by_cases h : x = y <;> simp [h]
@[simp] theorem eqv_ns (y : List Nat) : T.eqv .non (.str y) = false := rfl
@[simp] theorem eqv_sn (y : List Nat) : T.eqv (.str y) .non = false := rfl
@[simp] theorem eqv_nn : T.eqv .non .non = true := rfl
@[simp] theorem eqv_is (i : Int) (y : List Nat) : T.eqv (.int i) (.str y) = false := rfl
@[simp] theorem data_str (x : List Nat) : T.data (.str x) = true := rfl
@[simp] theorem data_int (x : Int) : T.data (.int x) = true := rfl
@[simp] theorem data_bl (x : Bool) : T.data (.bl x) = true := rfl
@[simp] theorem data_non : T.data .non = true := rfl
@[simp] theorem data_tup (x : List T) : T.data (.tup x) = T.dataAll x := by simp [T.data]
@[simp] theorem data_lst (x : List T) : T.data (.lst x) = T.dataAll x := by simp [T.data]
@[simp] theorem data_nil : T.dataAll [] = true := rfl
@[simp] theorem data_cons (x : T) (xs : List T) : T.dataAll (x :: xs) = (T.data x && T.dataAll xs) := by simp [T.dataAll]
@[simp] theorem depth_str (x : List Nat) : T.depth (.str x) = 0 := rfl
@[simp] theorem depth_int (x : Int) : T.depth (.int x) = 0 := rfl
@[simp] theorem depth_bl (x : Bool) : T.depth (.bl x) = 0 := rfl
@[simp] theorem depth_non : T.depth .non = 0 := rfl
@[simp] theorem depth_tup (x : List T) : T.depth (.tup x) = T.depthAll x + 1 := by simp [T.depth]
@[simp] theorem depth_lst (x : List T) : T.depth (.lst x) = T.depthAll x + 1 := by simp [T.depth]
@[simp] theorem depth_nil : T.depthAll [] = 0 := rfl
@[simp] theorem depth_cons (x : T) (xs : List T) : T.depthAll (x :: xs) = max x.depth (T.depthAll xs) := by simp [T.depthAll]
@[simp] theorem inItems_str (x : List Nat) (xs : List T) (h : T.dataAll xs = true) : inItems (.str x) xs = some (xs.any fun y => T.eqv y (.str x)) := by
  simp [inItems, h]
@[simp] theorem inItems_non (xs : List T) (h : T.dataAll xs = true) : inItems .non xs = some (xs.any fun y => T.eqv y .non) := by
  simp [inItems, h]
end Hf
namespace Hf
@[simp] theorem fork_same {α : Type} (b : Bool) (a : Res α) (u v : U a) : fork (.bl b) a a u v = a := by cases b <;> rfl
@[simp] theorem forkS_same (b : Bool) (a : SRes) (u v : U a) : forkS (.bl b) a a u v = a := by cases b <;> rfl
end Hf
end

section
set_option Elab.async false
set_option linter.all false
set_option maxRecDepth 100000
set_option maxHeartbeats 400000
/-! HfShow: the text of what is small: its length, its signs. -/
namespace Hf
open PySem
mutual
/-- a measure of what is shown -/
def blk : T → Nat
  | .str s => s.length
  | .tup xs => blks xs
  | .lst xs => blks xs
  | _ => 0
def blks : List T → Nat
  | [] => 0
  | x :: xs => blk x + 1 + blks xs
end
@[simp] theorem blk_str (s : List Nat) : blk (.str s) = s.length := by simp only [blk]
@[simp] theorem blk_tup (s : List T) : blk (.tup s) = blks s := by simp only [blk]
@[simp] theorem blk_lst (s : List T) : blk (.lst s) = blks s := by simp only [blk]
@[simp] theorem blk_int (s : Int) : blk (.int s) = 0 := by simp only [blk]
@[simp] theorem blk_bl (s : Bool) : blk (.bl s) = 0 := by simp only [blk]
@[simp] theorem blk_non : blk .non = 0 := by simp only [blk]
@[simp] theorem blks_nil : blks [] = 0 := by simp only [blks]
@[simp] theorem blks_cons (x : T) (xs : List T) : blks (x :: xs) = blk x + 1 + blks xs := by simp only [blks]
theorem blk_mem {xs : List T} {x : T} (h : x ∈ xs) : blk x + 1 ≤ blks xs := by
  induction xs with
  | nil => cases h
  | cons y ys ih =>
    simp only [blks_cons]
    rcases List.mem_cons.mp h with rfl | h
    · omega
    · have := ih h; omega
mutual
/-- small ints, texts of small letters -/
def fine : T → Bool
  | .non => true
  | .bl _ => true
  | .int i => decide (-1 ≤ i) && decide (i < 100)
  | .str s => s.all fun c => decide (97 ≤ c) && decide (c ≤ 122)
  | .tup xs => fines xs
  | .lst xs => fines xs
  | _ => false
def fines : List T → Bool
  | [] => true
  | x :: xs => fine x && fines xs
end
@[simp] theorem fine_str (s : List Nat) : fine (.str s) = s.all fun c => decide (97 ≤ c) && decide (c ≤ 122) := by simp only [fine]
@[simp] theorem fine_int (i : Int) : fine (.int i) = (decide (-1 ≤ i) && decide (i < 100)) := by simp only [fine]
@[simp] theorem fine_tup (s : List T) : fine (.tup s) = fines s := by simp only [fine]
@[simp] theorem fine_lst (s : List T) : fine (.lst s) = fines s := by simp only [fine]
@[simp] theorem fine_non : fine .non = true := by simp only [fine]
@[simp] theorem fine_bl (b : Bool) : fine (.bl b) = true := by simp only [fine]
@[simp] theorem fines_nil : fines [] = true := by simp only [fines]
@[simp] theorem fines_cons (x : T) (xs : List T) : fines (x :: xs) = (fine x && fines xs) := by simp only [fines]
mutual
theorem fine_data : ∀ t : T, fine t = true → t.data = true
  | .non, _ => rfl
  | .bl _, _ => rfl
  | .int _, _ => rfl
  | .str _, _ => rfl
  | .tup xs, h => by rw [data_tup]; exact fines_data xs (by simpa using h)
  | .lst xs, h => by rw [data_lst]; exact fines_data xs (by simpa using h)
  | .dic _, h => by simp [fine] at h
  | .ref _, h => by simp [fine] at h
  | .fn _, h => by simp [fine] at h
  | .ins _ _, h => by simp [fine] at h
theorem fines_data : ∀ xs : List T, fines xs = true → T.dataAll xs = true
  | [], _ => rfl
  | x :: xs, h => by
    simp only [fines_cons, Bool.and_eq_true] at h
    rw [data_cons, fine_data x h.1, fines_data xs h.2]; rfl
end
theorem fines_mem {xs : List T} (h : fines xs = true) {x : T} (hx : x ∈ xs) : fine x = true := by
  induction xs with
  | nil => cases hx
  | cons y ys ih =>
    simp only [fines_cons, Bool.and_eq_true] at h
    rcases List.mem_cons.mp hx with rfl | hx
    · exact h.1
    · exact ih h.2 hx
theorem fines_of {xs : List T} (h : ∀ x ∈ xs, fine x = true) : fines xs = true := by
  induction xs with
  | nil => rfl
  | cons y ys ih => simp only [fines_cons, Bool.and_eq_true]; exact ⟨h y (List.mem_cons_self ..), ih fun x hx => h x (List.mem_cons_of_mem _ hx)⟩
/-- signs that there are -/
def Asc (x : PySem.Str) : Prop := ∀ c ∈ x.cps.toList, c < 1114112
theorem Asc.append {a b : PySem.Str} (h : Asc a) (k : Asc b) : Asc (a ++ b) := by
  intro c hc
  rw [PySem.Str.cps_append, Array.toList_append, List.mem_append] at hc
  exact hc.elim (h c) (k c)
theorem char_lt (c : Char) : c.toNat < 1114112 := by
  have h := c.valid
  have ht : c.toNat = c.val.toNat := rfl
  rw [ht]
  simp only [UInt32.isValidChar, Nat.isValidChar] at h
  omega
theorem asc_string (s : String) : Asc (PySem.Str.ofString s) := by
  intro c hc
  rw [PySem.Str.ofString_eq_toList] at hc
  simp only [List.mem_map] at hc
  obtain ⟨d, _, rfl⟩ := hc
  exact char_lt d
theorem asc_textFrom : ∀ (ts : List PySem.Str) (k : Nat) (acc : PySem.Str), Asc acc → (∀ t ∈ ts, Asc t) → Asc (textFrom k acc ts)
  | [], _, _, h, _ => h
  | t :: ts, k, acc, h, ht => asc_textFrom ts (k + 1) _ ((h.append (asc_string _)).append (ht t (List.mem_cons_self ..))) fun u hu => ht u (List.mem_cons_of_mem _ hu)
theorem asc_join (sep : PySem.Str) (hs : Asc sep) : ∀ ts : List PySem.Str, (∀ t ∈ ts, Asc t) → Asc (PySem.Str.join sep ts)
  | [], _ => fun c hc => by simp [PySem.Str.join, PySem.Str.empty] at hc
  | [x], h => h x (List.mem_cons_self ..)
  | x :: y :: r, h => ((h x (List.mem_cons_self ..)).append hs).append (asc_join sep hs (y :: r) fun t ht => h t (List.mem_cons_of_mem _ ht))
theorem asc_reprChar (q c : Nat) (hc : c < 1114112) : ∀ d ∈ Builtin.Str.reprChar q c, d < 1114112 := by
  have hx : ∀ w, ∀ d ∈ (List.replicate (w - ((Nat.toDigits 16 c).map Char.toNat).length) 48 ++ (Nat.toDigits 16 c).map Char.toNat), d < 1114112 := by
    intro w d hd
    rw [List.mem_append] at hd
    rcases hd with hd | hd
    · rw [List.mem_replicate] at hd; omega
    · rw [List.mem_map] at hd
      obtain ⟨e, _, rfl⟩ := hd
      exact char_lt e
  intro d hd
  unfold Builtin.Str.reprChar at hd
  dsimp only at hd
  split at hd
  · simp at hd; omega
  · split at hd
    · simp at hd; omega
    · split at hd
      · simp at hd; omega
      · split at hd
        · simp at hd; omega
        · split at hd
          · simp at hd; omega
          · split at hd
            · rw [List.mem_append] at hd
              rcases hd with hd | hd
              · simp at hd; omega
              · exact hx _ d hd
            · split at hd
              · rw [List.mem_append] at hd
                rcases hd with hd | hd
                · simp at hd; omega
                · exact hx _ d hd
              · rw [List.mem_append] at hd
                rcases hd with hd | hd
                · simp at hd; omega
                · exact hx _ d hd
theorem asc_foldl (q : Nat) : ∀ (l : List Nat) (acc : Array Nat), (∀ c ∈ l, c < 1114112) → (∀ c ∈ acc.toList, c < 1114112) → ∀ c ∈ (l.foldl (fun out c => out ++ (Builtin.Str.reprChar q c).toArray) acc).toList, c < 1114112
  | [], acc, _, h => h
  | x :: l, acc, hl, h => by
    refine asc_foldl q l _ (fun c hc => hl c (List.mem_cons_of_mem _ hc)) fun c hc => ?_
    rw [Array.toList_append, List.mem_append] at hc
    rcases hc with hc | hc
    · exact h c hc
    · exact asc_reprChar q x (hl x (List.mem_cons_self ..)) c hc
theorem asc_repr (x : PySem.Str) (h : Asc x) : Asc (reprText x) := by
  have hq : reprQuote x < 1114112 := by unfold reprQuote; split <;> decide
  intro c hc
  unfold reprText at hc
  simp only [Array.toList_push, List.mem_append, List.mem_singleton] at hc
  rcases hc with hc | rfl
  · rw [← Array.foldl_toList] at hc
    exact asc_foldl _ _ _ h (by simp; exact hq) c hc
  · exact hq
mutual
theorem asc_show : ∀ t : T, fine t = true → Asc t.py.shown
  | .non, _ => asc_string _
  | .bl b, _ => by cases b <;> exact asc_string _
  | .int i, _ => asc_string _
  | .str s, h => by
    simp only [T.py, PyData.shown]
    refine asc_repr _ fun c hc => ?_
    have := List.all_eq_true.mp (by simpa only [fine_str] using h) c (by simpa using hc)
    simp at this
    omega
  | .tup xs, h => by
    simp only [T.py, PyData.shown]
    unfold tupleText
    refine ((asc_string _).append (asc_join _ (asc_string _) _ ?_)).append (asc_string _)
    exact asc_shows xs (by simpa using h)
  | .lst xs, h => by
    simp only [T.py, PyData.shown]
    unfold listText
    exact (asc_textFrom _ _ _ (asc_string _) (asc_shows xs (by simpa using h))).append (asc_string _)
  | .dic _, h => by simp [fine] at h
  | .ref _, h => by simp [fine] at h
  | .fn _, h => by simp [fine] at h
  | .ins _ _, h => by simp [fine] at h
theorem asc_shows : ∀ xs : List T, fines xs = true → ∀ t ∈ PyData.shownAll (T.pys xs), Asc t
  | [], _, t, ht => by simp [T.pys, PyData.shownAll] at ht
  | x :: xs, h, t, ht => by
    simp only [fines_cons, Bool.and_eq_true] at h
    simp only [T.pys, PyData.shownAll, List.mem_cons] at ht
    rcases ht with rfl | ht
    · exact asc_show x h.1
    · exact asc_shows xs h.2 t ht
end
theorem int_short : ∀ i : Int, -1 ≤ i → i < 100 → (PyData.shown (.int i)).length ≤ 8 ∧ i.natAbs.log2 < 1920 := by
  intro i h1 h2
  have : ∀ j : Fin 101, (PyData.shown (.int ((j.val : Int) - 1))).length ≤ 8 ∧ ((j.val : Int) - 1).natAbs.log2 < 1920 := by decide +kernel
  have := this ⟨(i + 1).toNat, by omega⟩
  have e : (((i + 1).toNat : Nat) : Int) - 1 = i := by omega
  simpa only [e] using this
mutual
theorem short_show : ∀ t : T, fine t = true → t.py.leavesShort 8 = true ∧ t.py.bulk = blk t ∧ t.py.showable = true
  | .non, _ => by simp [T.py, PyData.leavesShort, PyData.bulk, PyData.showable]
  | .bl b, _ => by simp [T.py, PyData.leavesShort, PyData.bulk, PyData.showable]
  | .int i, h => by
    simp only [fine_int, Bool.and_eq_true, decide_eq_true_eq] at h
    have := int_short i h.1 h.2
    simp [T.py, PyData.leavesShort, PyData.bulk, PyData.showable, this]
  | .str s, h => by
    refine ⟨?_, by simp [T.py, PyData.bulk], by simp [T.py, PyData.showable]⟩
    simp only [T.py, PyData.leavesShort, List.all_eq_true]
    intro c hc
    have := List.all_eq_true.mp (by simpa only [fine_str] using h) c (by simpa using hc)
    simp at this
    simp; omega
  | .tup xs, h => by
    obtain ⟨h1, h2, h3⟩ := short_shows xs (by simpa using h)
    simp [T.py, PyData.leavesShort, PyData.bulk, PyData.showable, h1, h2, h3]
  | .lst xs, h => by
    obtain ⟨h1, h2, h3⟩ := short_shows xs (by simpa using h)
    simp [T.py, PyData.leavesShort, PyData.bulk, PyData.showable, h1, h2, h3]
  | .dic _, h => by simp [fine] at h
  | .ref _, h => by simp [fine] at h
  | .fn _, h => by simp [fine] at h
  | .ins _ _, h => by simp [fine] at h
theorem short_shows : ∀ xs : List T, fines xs = true → PyData.leavesShortAll 8 (T.pys xs) = true ∧ PyData.bulkAll (T.pys xs) = blks xs ∧ PyData.showableAll (T.pys xs) = true
  | [], _ => by simp [T.pys, PyData.leavesShortAll, PyData.bulkAll, PyData.showableAll]
  | x :: xs, h => by
    simp only [fines_cons, Bool.and_eq_true] at h
    obtain ⟨h1, h2, h3⟩ := short_shows xs h.2
    obtain ⟨k1, k2, k3⟩ := short_show x h.1
    simp [T.pys, PyData.leavesShortAll, PyData.bulkAll, PyData.showableAll, h1, h2, h3, k1, k2, k3]
end
/-- repr of what is small -/
theorem repr_fine {t : T} (hs : t.seq = true) (hf : fine t = true) (hd : t.depth ≤ 60) (hb : blk t ≤ 1600000) : Bi.ev .repr [t] = some (.str t.show) := by
  obtain ⟨h1, h2, h3⟩ := short_show t hf
  have l := PyData.shown_le_bulk 8 (by decide) t.py h1
  have a := asc_show t hf
  have e : t.show.length = t.py.shown.length := by simp [T.show, PySem.Str.length]
  have h4 : t.show.length ≤ sizeLim := by unfold sizeLim; rw [e]; omega
  have h5 : (t.show.all fun c => decide (c < 0x110000)) = true := by
    rw [List.all_eq_true]
    intro c hc
    have := a c hc
    simpa using this
  have : t.showable = true := by
    simp only [T.showable, Bool.and_eq_true, decide_eq_true_eq]
    exact ⟨⟨⟨⟨⟨hs, fine_data t hf⟩, h3⟩, hd⟩, h4⟩, h5⟩
  simp [Bi.ev, this]
end Hf
end

section
set_option Elab.async false
set_option linter.all false
set_option maxRecDepth 100000
set_option maxHeartbeats 100000
/-! K20a: the plain law of k20, first part: what has the form. -/
namespace Hf
namespace K20
open P20
def sub (e c : Nat) : Bool := e == c || c == 0 || c == 11
def pr : Prog := ⟨fun f => P20.tab.lookup f, fun c m => P20.meths.lookup (c, m), fun c => P20.inits.lookup c, sub⟩
def isName : T → Bool
  | .str s => decide (1 ≤ s.length) && decide (s.length ≤ 8) && s.all fun c => decide (97 ≤ c) && decide (c ≤ 122)
  | _ => false
theorem le_one (a b : Nat) : Cmp.ev .le (.str [a]) (.str [b]) = some (decide (a ≤ b)) := by
  simp only [Cmp.ev, lexLt]
  by_cases h : b < a
  · simp [h]
  · by_cases h2 : b = a <;> simp [h, h2] <;> omega
theorem c_name (n : Nat) (t : T) (h : t.data = true) (S : Store) : call pr (n + 1) 38 [t] S = .ok (.bl (isName t)) S := by
  rw [call_of (d := d_is_name) rfl rfl]
  cases t <;> try (simp [T.data] at h; done)
  case str s =>
    simp only [d_is_name, startE]
    by_cases h1 : 1 ≤ s.length
    · by_cases h2 : s.length ≤ 8
      · have e : compLoop (fun _ => true) (turn pr (call pr n) (make pr n) [.val (.str s), .no] (.chain .le .le (.k (.str [97])) (.v 1) (.k (.str [122]))) (.n 1)) (s.map fun c => T.str [c]) S = .ok (s.map fun c => T.bl (decide (97 ≤ c) && decide (c ≤ 122))) S := by
          refine compLoop_of rfl _ _ fun c _ => ?_
          by_cases q : 97 ≤ c <;> simp [turn, le_one, q]
        have l1 : (1 : Int) ≤ s.length := by omega
        have l2 : (s.length : Int) ≤ 8 := by omega
        simp [Ty.ev, l1, l2, c_LONGEST, isName, h1, h2]
        rw [show (still (T.str s) (List.map (fun c => T.str [c]) s)) = fun _ => true from rfl, e]
        simp
      · have l1 : (1 : Int) ≤ s.length := by omega
        have l2 : ¬ (s.length : Int) ≤ 8 := by omega
        simp [Ty.ev, l1, l2, c_LONGEST, isName, h1, h2]
    · have l1 : ¬ (1 : Int) ≤ s.length := by omega
      simp [Ty.ev, l1, c_LONGEST, isName, h1]
  all_goals simp [d_is_name, startE, Ty.ev, isName]
mutual
def isEl : T → Bool
  | .tup xs => isEls xs
  | .int _ => true
  | .bl _ => true
  | _ => false
def isEls : List T → Bool
  | [] => true
  | x :: xs => isEl x && isEls xs
end
theorem isEls_all (xs : List T) : isEls xs = xs.all isEl := by
  induction xs with
  | nil => rfl
  | cons x xs ih => simp [isEls, ih]
theorem c_element : ∀ (n : Nat) (t : T) (h : t.data = true) (hd : t.depth < n) (S : Store), call pr n 39 [t] S = .ok (.bl (isEl t)) S
  | n + 1, t, h, hd, S => by
    rw [call_of (d := d_is_element) rfl rfl]
    cases t <;> try (simp [T.data] at h; done)
    case tup xs =>
      have e : compLoop (fun _ => true) (turn pr (call pr n) (make pr n) [.val (.tup xs), .no] (.call 39 [(.v 1)]) (.n 1)) xs S = .ok (xs.map fun c => T.bl (isEl c)) S := by
        refine compLoop_map rfl _ fun c hc => ?_
        have := c_element n c (dataAll_mem (by simpa [T.data] using h) hc) (by have := depth_mem hc; simp only [T.depth] at hd; omega) S
        simp [turn, this]
      simp [d_is_element, startE, Ty.ev, isEl, isEls_all]
      rw [show (still (T.tup xs) xs) = fun _ => true from rfl, e]
      simp
    all_goals simp [d_is_element, startE, Ty.ev, isEl]
def isRow : Nat → T → Bool
  | 0, t => isEl t
  | d + 1, .tup xs => xs.all (isRow d)
  | _ + 1, _ => false
def isPl : Nat → T → Bool
  | 0, .int _ => true
  | 0, .bl _ => true
  | 0, _ => false
  | d + 1, .tup xs => xs.all (isPl d)
  | _ + 1, _ => false
theorem c_row : ∀ (d n : Nat) (t : T) (h : t.data = true) (hd : t.depth + d + 1 < n) (S : Store), call pr n 40 [t, .int d] S = .ok (.bl (isRow d t)) S
  | 0, n + 1, t, h, hd, S => by
    rw [call_of (d := d_is_row) rfl rfl]
    simp [d_is_row, startE, c_element n t h (by omega) S, isRow]
  | d + 1, n + 1, t, h, hd, S => by
    rw [call_of (d := d_is_row) rfl rfl]
    have hz : ¬ ((d : Int) + 1 = 0) := by omega
    cases t <;> try (simp [T.data] at h; done)
    case tup xs =>
      have e : compLoop (fun _ => true) (turn pr (call pr n) (make pr n) [.val (.tup xs), .val (.int ((d : Int) + 1)), .no] (.call 40 [(.v 2), (.op .sub (.v 1) (.k (.int 1)))]) (.n 2)) xs S = .ok (xs.map fun c => T.bl (isRow d c)) S := by
        refine compLoop_map rfl _ fun c hc => ?_
        have := c_row d n c (dataAll_mem (by simpa [T.data] using h) hc) (by have := depth_mem hc; simp only [T.depth] at hd; omega) S
        simp [turn, this, Int.add_sub_cancel]
      simp [d_is_row, startE, Ty.ev, isRow, hz]
      rw [show (still (T.tup xs) xs) = fun _ => true from rfl, e]
      simp
    all_goals simp [d_is_row, startE, Ty.ev, isRow, hz]
theorem c_plain : ∀ (d n : Nat) (t : T) (h : t.data = true) (hd : d < n) (S : Store), call pr n 41 [t, .int d] S = .ok (.bl (isPl d t)) S
  | 0, n + 1, t, h, hd, S => by
    rw [call_of (d := d_is_plain) rfl rfl]
    cases t <;> try (simp [T.data] at h; done)
    all_goals simp [d_is_plain, startE, Ty.ev, isPl]
  | d + 1, n + 1, t, h, hd, S => by
    rw [call_of (d := d_is_plain) rfl rfl]
    have hz : ¬ ((d : Int) + 1 = 0) := by omega
    cases t <;> try (simp [T.data] at h; done)
    case tup xs =>
      have e : compLoop (fun _ => true) (turn pr (call pr n) (make pr n) [.val (.tup xs), .val (.int ((d : Int) + 1)), .no] (.call 41 [(.v 2), (.op .sub (.v 1) (.k (.int 1)))]) (.n 2)) xs S = .ok (xs.map fun c => T.bl (isPl d c)) S := by
        refine compLoop_map rfl _ fun c hc => ?_
        have := c_plain d n c (dataAll_mem (by simpa [T.data] using h) hc) (by omega) S
        simp [turn, this, Int.add_sub_cancel]
      simp [d_is_plain, startE, Ty.ev, isPl, hz]
      rw [show (still (T.tup xs) xs) = fun _ => true from rfl, e]
      simp
    all_goals simp [d_is_plain, startE, Ty.ev, isPl, hz]

/-! the tables of words -/
def SK : List (T × T) := match c_SORTS with
  | .dic k => k
  | _ => []
theorem sorts_eq : c_SORTS = .dic SK := rfl
abbrev wKind : List Nat := [107, 105, 110, 100]
abbrev wTerm : List Nat := [116, 101, 114, 109]
abbrev wFormula : List Nat := [102, 111, 114, 109, 117, 108, 97]
abbrev wName : List Nat := [110, 97, 109, 101]
abbrev wElements : List Nat := [101, 108, 101, 109, 101, 110, 116, 115]
abbrev wLists : List Nat := [108, 105, 115, 116, 115]
abbrev wNumber : List Nat := [110, 117, 109, 98, 101, 114]
abbrev wNumbers : List Nat := [110, 117, 109, 98, 101, 114, 115]
abbrev wRows : List Nat := [114, 111, 119, 115]
def validS (s : List Nat) : Bool := (dlook SK s).isSome || s == wName || s == wElements || s == wLists || s == wNumber || s == wNumbers || s == wRows
def partsOk : T → Bool
  | .tup sh => sh.all fun p => match p with
    | .str z => validS z
    | _ => false
  | _ => false
def tableOk : T → Bool
  | .dic kvs => kvs.all fun q => partsOk q.2
  | _ => false
theorem tables : (SK.all fun q => tableOk q.2) = true := by decide +kernel
theorem table_of {s : List Nat} {d : T} (h : dlook SK s = some d) : ∃ kvs, d = .dic kvs ∧ ∀ w q, dlook kvs w = some q → ∃ sh, q = .tup sh ∧ ∀ p ∈ sh, ∃ z, p = .str z ∧ validS z = true := by
  have := List.all_eq_true.mp tables _ (dlook_mem h)
  cases d <;> simp only [tableOk] at this <;> try contradiction
  rename_i kvs
  refine ⟨kvs, rfl, fun w q hq => ?_⟩
  have := List.all_eq_true.mp this _ (dlook_mem hq)
  cases q <;> simp only [partsOk] at this <;> try contradiction
  rename_i sh
  refine ⟨sh, rfl, fun p hp => ?_⟩
  have := List.all_eq_true.mp this _ hp
  cases p <;> simp only [] at this <;> try contradiction
  exact ⟨_, rfl, this⟩
/-- what has the form of a sort -/
def wr : Nat → List Nat → T → Bool
  | 0, _, _ => false
  | n + 1, s, t => match dlook SK s with
    | some (.dic kvs) => (match t with
      | .tup (.str w :: ps) => (match dlook kvs w with
        | some (.tup sh) => decide (sh.length = ps.length) && (enumB (fun i p => match p, ps[i]? with
          | .str z, some x => wr n z x
          | _, _ => false) 0 sh).all id
        | _ => false)
      | _ => false)
    | _ => if s = wName then isName t else if s = wElements then isRow 1 t else if s = wLists then isRow 2 t else if s = wNumber then isPl 0 t else if s = wNumbers then isPl 1 t else isPl 2 t
theorem c_written : ∀ (n : Nat) (s : List Nat) (t : T) (hs : validS s = true) (h : t.data = true) (hd : t.depth + 5 < n) (S : Store), call pr n 42 [t, .str s] S = .ok (.bl (wr n s t)) S
  | n + 1, s, t, hs, h, hd, S => by
    rw [call_of (d := d_is_written) rfl rfl]
    simp only [d_is_written, startE]
    cases hk : dlook SK s with
    | some d =>
      obtain ⟨kvs, rfl, hkv⟩ := table_of hk
      cases t <;> try (simp [T.data] at h; done)
      case tup xs =>
        cases xs with
        | nil => simp [sorts_eq, hk, Ty.ev, wr]
        | cons x ps =>
          have hz : ¬ ((ps.length : Int) + 1 = 0) := by omega
          cases x <;> try (first | (simp [T.data, T.dataAll] at h; done) | (simp [sorts_eq, hk, Ty.ev, wr, hz]; done))
          case str w =>
            cases hw : dlook kvs w with
            | none => simp [sorts_eq, hk, Ty.ev, wr, hz, hw]
            | some q =>
              obtain ⟨sh, rfl, hsh⟩ := hkv w q hw
              by_cases hl : sh.length = ps.length
              · have e : compLoop (fun _ => true) (turn pr (call pr n) (make pr n) [.val (.tup (.str w :: ps)), .val (.str s), .no, .no] (.call 42 [(.sub (.v 0) (.op .add (.v 2) (.k (.int 1)))), (.v 3)]) (.t [2, 3])) (enumL 0 sh) S = .ok ((enumB (fun i p => match p, ps[i]? with
                    | .str z, some x => wr n z x
                    | _, _ => false) 0 sh).map .bl) S := by
                  refine compLoop_enum rfl _ sh 0 fun j p hp => ?_
                  obtain ⟨z, rfl, hv⟩ := hsh p (List.mem_of_getElem? hp)
                  have hj : j < ps.length := by rw [← hl]; exact (List.getElem?_eq_some_iff.mp hp).1
                  obtain ⟨y, hy⟩ : ∃ y, ps[j]? = some y := ⟨ps[j], List.getElem?_eq_getElem hj⟩
                  have hm : y ∈ ps := List.mem_of_getElem? hy
                  simp only [T.data, T.dataAll, T.depth, T.depthAll, Bool.and_eq_true] at h hd
                  have ih := c_written n z y hv (dataAll_mem h.2 hm) (by have := depth_mem hm; omega) S
                  have ea : atI (T.str w :: ps) ((j : Int) + 1) = some y := by
                    rw [show ((j : Int) + 1) = ((j + 1 : Nat) : Int) by omega, atI_nat]; simpa using hy
                  simp [turn, ea, ih, hy]
                simp [sorts_eq, hk, Ty.ev, wr, hz, hw, hl, Int.add_sub_cancel]
                rw [show (still (T.lst (enumL 0 sh)) (enumL 0 sh)) = fun _ => true from rfl, e]
                simp
              · have hl' : ¬ (sh.length : Int) = ps.length := by omega
                simp [sorts_eq, hk, Ty.ev, wr, hz, hw, hl, hl', Int.add_sub_cancel]
      all_goals simp [sorts_eq, hk, Ty.ev, wr]
    | none =>
      simp only [validS, hk, Option.isSome_none, Bool.false_or, Bool.or_eq_true, beq_iff_eq] at hs
      have i1 := c_name (n - 1) t h S
      have r1 : call pr n 40 [t, .int 1] S = .ok (.bl (isRow 1 t)) S := c_row 1 n t h (by omega) S
      have r2 : call pr n 40 [t, .int 2] S = .ok (.bl (isRow 2 t)) S := c_row 2 n t h (by omega) S
      have p0 : call pr n 41 [t, .int 0] S = .ok (.bl (isPl 0 t)) S := c_plain 0 n t h (by omega) S
      have p1 : call pr n 41 [t, .int 1] S = .ok (.bl (isPl 1 t)) S := c_plain 1 n t h (by omega) S
      have p2 : call pr n 41 [t, .int 2] S = .ok (.bl (isPl 2 t)) S := c_plain 2 n t h (by omega) S
      rw [show n - 1 + 1 = n by omega] at i1
      rcases hs with ((((rfl | rfl) | rfl) | rfl) | rfl) | rfl
      · simp [sorts_eq, hk, i1, wr]
      · simp [sorts_eq, hk, wr, r1, r2]
      · simp [sorts_eq, hk, wr, r1, r2]
      · simp [sorts_eq, hk, wr, dlook, p0, p1, p2]
      · simp [sorts_eq, hk, wr, dlook, p0, p1, p2]
      · simp [sorts_eq, hk, wr, dlook, p0, p1, p2]
end K20
end Hf
end

section
set_option Elab.async false
set_option linter.all false
set_option maxRecDepth 100000
set_option maxHeartbeats 200000
/-! K20b: the plain law of k20: free names, and what is put in. -/
namespace Hf
namespace K20
open P20
def rowsOf : T → List (List Nat × List Nat × Nat × Nat)
  | .tup rs => rs.filterMap fun r => match r with
    | .tup [.str a, .str b, .int c, .int d] => some (a, b, c.toNat, d.toNat)
    | _ => none
  | _ => []
def rowT (r : List Nat × List Nat × Nat × Nat) : T := .tup [.str r.1, .str r.2.1, .int r.2.2.1, .int r.2.2.2]
def OV := rowsOf c_OVER
def AL := rowsOf c_ALONE
theorem ov_eq : c_OVER = .tup (OV.map rowT) := by rfl
theorem al_eq : c_ALONE = .tup (AL.map rowT) := by rfl
def shp (s w : List Nat) : List T := match dlook SK s with
  | some (.dic kvs) => (match dlook kvs w with
    | some (.tup sh) => sh
    | _ => [])
  | _ => []
def ptsL : Nat → List T → List (Nat × List Nat)
  | _, [] => []
  | k, .str z :: r => if (dlook SK z).isSome = true then (k + 1, z) :: ptsL (k + 1) r else ptsL (k + 1) r
  | k, _ :: r => ptsL (k + 1) r
def ptT (p : Nat × List Nat) : T := .tup [.int p.1, .str p.2]
def told (rows : List (List Nat × List Nat × Nat × Nat)) (s w : List Nat) (at_ : Nat) : Option Nat := (rows.find? fun r => decide (r.1 = s) && decide (r.2.1 = w) && decide (r.2.2.1 = at_)).map (·.2.2.2)
/-- the parts that are terms or formulas of the same place: where, their sorts, where the name stands that is bound there -/
def sbs (s w : List Nat) : List (Nat × List Nat × Option Nat) := (ptsL 0 (shp s w)).filterMap fun p => if p.2 = wKind ∨ (told AL s w p.1).isSome = true then none else some (p.1, p.2, told OV s w p.1)
def keysOf (s : List Nat) : List (List Nat) := match dlook SK s with
  | some (.dic kvs) => kvs.filterMap fun q => match q.1 with
    | .str w => some w
    | _ => none
  | _ => []
def isTF (s : List Nat) : Bool := s == wTerm || s == wFormula
/-- what the tables tell of a word -/
def rowOk (s w : List Nat) : Bool := ((sbs s w).all fun p => decide (1 ≤ p.1) && (match (shp s w)[p.1 - 1]? with
    | some (.str z) => z == p.2.1
    | _ => false) && isTF p.2.1 && match p.2.2 with
    | some k => decide (1 ≤ k) && (match (shp s w)[k - 1]? with
      | some (.str z) => z == wName
      | _ => false)
    | none => true) && ((OV ++ AL).all fun r => !(decide (r.1 = s) && decide (r.2.1 = w)) || (decide (1 ≤ r.2.2.2) && (match (shp s w)[r.2.2.2 - 1]? with
      | some (.str z) => z == wName
      | _ => false))) && (decide (w ≠ wName) || (match shp s w with
      | [.str z] => z == wName
      | _ => false)) && (decide (w ≠ wName) || decide (s = wTerm))
theorem rows_ok : ((keysOf wTerm).all (rowOk wTerm) && (keysOf wFormula).all (rowOk wFormula)) = true := by decide +kernel
theorem dlook_key {kvs : List (T × T)} {w : List Nat} {v : T} (h : dlook kvs w = some v) : w ∈ kvs.filterMap fun q => match q.1 with
    | .str w => some w
    | _ => none := by
  have := dlook_mem h
  exact List.mem_filterMap.mpr ⟨_, this, rfl⟩
/-- a thing: its word, its parts -/
structure Th (n : Nat) (s : List Nat) (t : T) (w : List Nat) (ps : List T) : Prop where
  eq : t = T.tup (T.str w :: ps)
  len : (shp s w).length = ps.length
  dl : ∃ kvs, dlook SK s = some (.dic kvs) ∧ dlook kvs w = some (.tup (shp s w))
  part : ∀ (j : Nat) z, (shp s w)[j]? = some (T.str z) → ∃ x, ps[j]? = some x ∧ wr n z x = true
  row : rowOk s w = true
theorem th_of {n : Nat} {s : List Nat} {t : T} (hs : isTF s = true) (h : wr (n + 1) s t = true) : ∃ w ps, Th n s t w ps := by
  have hd : ∃ kvs, dlook SK s = some (.dic kvs) := by
    simp only [isTF, Bool.or_eq_true, beq_iff_eq] at hs
    rcases hs with rfl | rfl
    · exact ⟨_, rfl⟩
    · exact ⟨_, rfl⟩
  obtain ⟨kvs, hk⟩ := hd
  simp only [wr, hk] at h
  split at h <;> try contradiction
  rename_i w ps
  split at h <;> try contradiction
  rename_i sh hw
  simp only [Bool.and_eq_true, decide_eq_true_eq] at h
  obtain ⟨hl, ha⟩ := h
  have hsh : shp s w = sh := by simp [shp, hk, hw]
  rw [enumB_all] at ha
  refine ⟨w, ps, rfl, by rw [hsh]; exact hl, ⟨kvs, hk, by rw [hsh]; exact hw⟩, fun j z hj => ?_, ?_⟩
  · rw [hsh] at hj
    have := ha j _ hj
    simp only [Nat.zero_add] at this
    cases q : ps[j]? with
    | none => rw [q] at this; cases this
    | some x => rw [q] at this; exact ⟨x, rfl, this⟩
  · have hm : w ∈ keysOf s := by
      simp only [keysOf, hk]
      exact dlook_key hw
    have := rows_ok
    simp only [Bool.and_eq_true, List.all_eq_true] at this
    simp only [isTF, Bool.or_eq_true, beq_iff_eq] at hs
    rcases hs with rfl | rfl
    · exact this.1 w hm
    · exact this.2 w hm
section
variable {n : Nat} {s : List Nat} {t : T} {w : List Nat} {ps : List T}
theorem Th.sub (h : Th n s t w ps) {p : Nat × List Nat × Option Nat} (hp : p ∈ sbs s w) : 1 ≤ p.1 ∧ isTF p.2.1 = true ∧ (∃ x, ps[p.1 - 1]? = some x ∧ wr n p.2.1 x = true) ∧ ∀ k, p.2.2 = some k → 1 ≤ k ∧ ∃ q, ps[k - 1]? = some (.str q) ∧ isName (.str q) = true := by
  have r := h.row
  simp only [rowOk, Bool.and_eq_true, List.all_eq_true] at r
  obtain ⟨⟨⟨r1, r2⟩, r3⟩, r4⟩ := r
  have := r1 p hp
  simp only [Bool.and_eq_true, decide_eq_true_eq] at this
  obtain ⟨⟨⟨a1, a2⟩, a3⟩, a4⟩ := this
  refine ⟨a1, a3, ?_, fun k hk => ?_⟩
  · split at a2 <;> try contradiction
    rename_i z hz
    simp only [beq_iff_eq] at a2
    rw [a2] at hz
    exact h.part _ _ hz
  · rw [hk] at a4
    simp only [Bool.and_eq_true, decide_eq_true_eq] at a4
    refine ⟨a4.1, ?_⟩
    have a5 := a4.2
    split at a5 <;> try contradiction
    rename_i z hz
    simp only [beq_iff_eq] at a5
    rw [a5] at hz
    obtain ⟨x, h1, h2⟩ := h.part _ _ hz
    have hx : isName x = true := by
      cases n with
      | zero => simp [wr] at h2
      | succ n =>
        have e : dlook SK wName = none := by rfl
        simpa [wr, e] using h2
    cases x <;> simp only [isName] at hx <;> try contradiction
    exact ⟨_, h1, by simpa only [isName] using hx⟩
theorem Th.name (h : Th n s t w ps) (e : w = wName) : s = wTerm ∧ ∃ q, ps = [.str q] ∧ isName (.str q) = true := by
  have r := h.row
  simp only [rowOk, Bool.and_eq_true, Bool.or_eq_true, decide_eq_true_eq] at r
  obtain ⟨⟨⟨r1, r2⟩, r3⟩, r4⟩ := r
  have e3 := r3.resolve_left (fun k => k e)
  have e3 : shp s w = [.str wName] := by
    split at e3 <;> try contradiction
    rename_i z hz
    simp only [beq_iff_eq] at e3
    rw [hz, e3]
  have e4 := r4.resolve_left (fun k => k e)
  refine ⟨e4, ?_⟩
  have hl := h.len
  rw [e3] at hl
  obtain ⟨x, h1, h2⟩ := h.part 0 wName (by rw [e3]; rfl)
  have hx : isName x = true := by
    cases n with
    | zero => simp [wr] at h2
    | succ n =>
      have e : dlook SK wName = none := by rfl
      simpa [wr, e] using h2
  match ps, hl with
  | [y], _ =>
    simp at h1; subst h1
    cases y <;> simp only [isName] at hx <;> try contradiction
    exact ⟨_, rfl, by simpa only [isName] using hx⟩
theorem Th.told (h : Th n s t w ps) {rows : List (List Nat × List Nat × Nat × Nat)} (hr : rows = OV ∨ rows = AL) {a k : Nat} (e : told rows s w a = some k) : 1 ≤ k ∧ ∃ q, ps[k - 1]? = some (.str q) := by
  have r := h.row
  simp only [rowOk, Bool.and_eq_true, List.all_eq_true] at r
  obtain ⟨⟨⟨r1, r2⟩, r3⟩, r4⟩ := r
  simp only [K20.told, Option.map_eq_some_iff] at e
  obtain ⟨q, hq, rfl⟩ := e
  have hm : q ∈ OV ++ AL := by
    rcases hr with rfl | rfl
    · exact List.mem_append_left _ (List.mem_of_find?_eq_some hq)
    · exact List.mem_append_right _ (List.mem_of_find?_eq_some hq)
  have hp := List.find?_some hq
  simp only [Bool.and_eq_true, decide_eq_true_eq] at hp
  have := r2 q hm
  simp only [hp.1.1, hp.1.2, decide_true, Bool.and_self, Bool.not_true, Bool.false_or, Bool.and_eq_true, decide_eq_true_eq] at this
  refine ⟨this.1, ?_⟩
  have a5 := this.2
  split at a5 <;> try contradiction
  rename_i z hz
  simp only [beq_iff_eq] at a5
  rw [a5] at hz
  obtain ⟨x, h1, h2⟩ := h.part _ _ hz
  have hx : isName x = true := by
    cases n with
    | zero => simp [wr] at h2
    | succ n =>
      have e : dlook SK wName = none := by rfl
      simpa [wr, e] using h2
  cases x <;> simp only [isName] at hx <;> try contradiction
  exact ⟨_, h1⟩
end
/-! the program's words -/
theorem c_parts (m : Nat) {n : Nat} {s : List Nat} {t : T} {w : List Nat} {ps : List T} (h : Th n s t w ps) (S : Store) : call pr (m + 1) 44 [t, .str s] S = .ok (.lst ((ptsL 0 (shp s w)).map ptT)) S := by
  rw [call_of (d := d_parts_of) rfl rfl, h.eq]
  obtain ⟨kvs, hk, hw⟩ := h.dl
  obtain ⟨kvs', e', hsh⟩ := table_of hk
  cases e'
  obtain ⟨_, e2, hsh⟩ := hsh w _ hw
  cases e2
  have e : ∀ (sh : List T) (k : Nat), (∀ p ∈ sh, ∃ z, p = .str z ∧ validS z = true) → compLoop (fun _ => true) (turnI pr (call pr m) (make pr m) [.val (.tup (.str w :: ps)), .val (.str s), .no, .no] (.tup [(.op .add (.v 2) (.k (.int 1))), (.v 3)]) (.t [2, 3]) (.cmp .isin (.v 3) (.g [83, 79, 82, 84, 83] (c_SORTS)))) (enumL k sh) S = .ok ((ptsL k sh).map ptT) S := by
    intro sh
    induction sh with
    | nil => intro k _; rfl
    | cons p sh ih =>
      intro k hp
      obtain ⟨z, rfl, _⟩ := hp p (List.mem_cons_self ..)
      have ih := ih (k + 1) fun q hq => hp q (List.mem_cons_of_mem _ hq)
      rw [sorts_eq] at ih ⊢
      cases q : (dlook SK z).isSome with
      | true => simp [enumL, compLoop, turnI, q, ih, ptsL, ptT]
      | false => simp [enumL, compLoop, turnI, q, ih, ptsL]
  simp [d_parts_of, startE, sorts_eq, hk, hw]
  have e := e (shp s w) 0 hsh
  rw [sorts_eq] at e
  rw [show (still (T.lst (enumL 0 (shp s w))) (enumL 0 (shp s w))) = fun _ => true from rfl, e]
  simp
/-- the name that stands at a place -/
def nameAt (ps : List T) : Option Nat → T
  | some k => ps.getD (k - 1) .non
  | none => .non
theorem c_told (m : Nat) (rows : List (List Nat × List Nat × Nat × Nat)) (s w : List Nat) (ps : List T) (a : Nat) (S : Store) (h : ∀ k, told rows s w a = some k → 1 ≤ k ∧ ∃ q, ps[k - 1]? = some q) : call pr (m + 1) 45 [.tup (rows.map rowT), .tup (.str w :: ps), .str s, .int a] S = .ok (nameAt ps (told rows s w a)) S := by
  rw [call_of (d := d_told_name) rfl rfl]
  have e : ∀ (rows : List (List Nat × List Nat × Nat × Nat)) (x1 x2 x3 x4 x0 : Slot), (∀ k, told rows s w a = some k → 1 ≤ k ∧ ∃ q, ps[k - 1]? = some q) →
      (∃ v, told rows s w a ≠ none ∧ v = nameAt ps (told rows s w a) ∧ forLoop (fun _ => true) (goS pr (call pr m) (make pr m) (.t [4, 5, 6, 7]) d_told_name_b1) (rows.map rowT) [x0, .val (.tup (.str w :: ps)), .val (.str s), .val (.int a), x1, x2, x3, x4] S = .ret v S) ∨
      (told rows s w a = none ∧ ∃ r, forLoop (fun _ => true) (goS pr (call pr m) (make pr m) (.t [4, 5, 6, 7]) d_told_name_b1) (rows.map rowT) [x0, .val (.tup (.str w :: ps)), .val (.str s), .val (.int a), x1, x2, x3, x4] S = .nx r S) := by
    intro rows
    induction rows with
    | nil => intro x1 x2 x3 x4 x0 _; exact .inr ⟨rfl, _, rfl⟩
    | cons q rows ih =>
      intro x1 x2 x3 x4 x0 hq
      obtain ⟨q1, q2, q3, q4⟩ := q
      by_cases c : q1 = s ∧ q2 = w ∧ q3 = a
      · obtain ⟨rfl, rfl, rfl⟩ := c
        have et : told ((q1, q2, q3, q4) :: rows) q1 q2 q3 = some q4 := by simp [told]
        obtain ⟨h1, z, h2⟩ := hq _ et
        have ei : atI (T.str q2 :: ps) (q4 : Int) = some z := by
          rw [atI_nat]
          obtain ⟨q5, rfl⟩ : ∃ q5, q4 = q5 + 1 := ⟨q4 - 1, by omega⟩
          simpa using h2
        refine .inl ⟨z, by rw [et]; simp, by rw [et]; simp [nameAt, h2], ?_⟩
        simp [forLoop, rowT, goS, d_told_name_b1, ei]
      · have et : told ((q1, q2, q3, q4) :: rows) s w a = told rows s w a := by
          have : (decide (q1 = s) && decide (q2 = w) && decide (q3 = a)) = false := by
            cases r : (decide (q1 = s) && decide (q2 = w) && decide (q3 = a)) with
            | false => rfl
            | true => simp only [Bool.and_eq_true, decide_eq_true_eq] at r; exact absurd ⟨r.1.1, r.1.2, r.2⟩ c
          simp [told, this]
        have ih := ih (.val (.str q1)) (.val (.str q2)) (.val (.int q3)) (.val (.int q4)) x0 (by rw [← et]; exact hq)
        rw [et]
        have st : forLoop (fun _ => true) (goS pr (call pr m) (make pr m) (.t [4, 5, 6, 7]) d_told_name_b1) (((q1, q2, q3, q4) :: rows).map rowT) [x0, .val (.tup (.str w :: ps)), .val (.str s), .val (.int a), x1, x2, x3, x4] S =
            forLoop (fun _ => true) (goS pr (call pr m) (make pr m) (.t [4, 5, 6, 7]) d_told_name_b1) (rows.map rowT) [x0, .val (.tup (.str w :: ps)), .val (.str s), .val (.int a), .val (.str q1), .val (.str q2), .val (.int q3), .val (.int q4)] S := by
          by_cases c1 : q1 = s
          · by_cases c2 : q2 = w
            · have c3 : ¬ (q3 : Int) = a := fun e => c ⟨c1, c2, by omega⟩
              simp [forLoop, rowT, goS, d_told_name_b1, c1, c2, c3]
            · simp [forLoop, rowT, goS, d_told_name_b1, c1, c2]
          · simp [forLoop, rowT, goS, d_told_name_b1, c1]
        rw [st]
        exact ih
  simp only [d_told_name, startE]
  rcases e rows .no .no .no .no (.val (.tup (rows.map rowT))) h with ⟨v, hn, hv, e⟩ | ⟨hn, r, e⟩
  · simp
    rw [show (still (T.tup (rows.map rowT)) (rows.map rowT)) = fun _ => true from rfl, e, hv]
    simp
  · simp
    rw [show (still (T.tup (rows.map rowT)) (rows.map rowT)) = fun _ => true from rfl, e, hn]
    simp [nameAt]
theorem c_over (m : Nat) {n : Nat} {s : List Nat} {t : T} {w : List Nat} {ps : List T} (h : Th n s t w ps) (a : Nat) (S : Store) : call pr (m + 2) 46 [t, .str s, .int a] S = .ok (nameAt ps (told OV s w a)) S := by
  rw [call_of (d := d_name_over) rfl rfl, h.eq]
  have := c_told m OV s w ps a S fun k e => let ⟨h1, q, h2⟩ := h.told (.inl rfl) e; ⟨h1, _, h2⟩
  simp [d_name_over, startE, ov_eq, this]
theorem c_alone (m : Nat) {n : Nat} {s : List Nat} {t : T} {w : List Nat} {ps : List T} (h : Th n s t w ps) (a : Nat) (S : Store) : call pr (m + 2) 47 [t, .str s, .int a] S = .ok (nameAt ps (told AL s w a)) S := by
  rw [call_of (d := d_name_alone) rfl rfl, h.eq]
  have := c_told m AL s w ps a S fun k e => let ⟨h1, q, h2⟩ := h.told (.inr rfl) e; ⟨h1, _, h2⟩
  simp [d_name_alone, startE, al_eq, this]
theorem pts_pos : ∀ (sh : List T) (k : Nat), ∀ p ∈ ptsL k sh, k < p.1 ∧ p.1 ≤ k + sh.length
  | [], _, p, hp => by simp [ptsL] at hp
  | x :: sh, k, p, hp => by
    have ih := pts_pos sh (k + 1)
    have go : p ∈ ptsL (k + 1) sh → k < p.1 ∧ p.1 ≤ k + (x :: sh).length := fun h => by
      have := ih p h
      simp only [List.length_cons]
      omega
    cases x <;> simp only [ptsL] at hp <;> try exact go hp
    split at hp
    · rcases List.mem_cons.mp hp with rfl | hp
      · simp
      · exact go hp
    · exact go hp
def unl (x : List Nat) : T → Bool
  | .str y => decide (¬ y = x)
  | _ => true
/-- is a name free -/
def fre : Nat → List Nat → T → List Nat → Bool
  | n + 1, s, .tup (.str w :: ps), x => if w = wName then (match ps with
      | .str q :: _ => decide (q = x)
      | _ => false)
    else (sbs s w).any fun p => unl x (nameAt ps p.2.2) && fre n p.2.1 (ps.getD (p.1 - 1) .non) x
  | _, _, _, _ => false
theorem c_free_kind (m : Nat) (y : T) (x : T) (S : Store) : call pr (m + 1) 48 [y, .str wKind, x] S = .ok (.bl false) S := by
  rw [call_of (d := d_is_free) rfl rfl]
  simp [d_is_free, startE]
section
variable {n : Nat} {s : List Nat} {t : T} {w : List Nat} {ps : List T}
theorem Th.alone_isK (h : Th n s t w ps) (a : Nat) : T.isK (nameAt ps (K20.told AL s w a)) .non = some (!(K20.told AL s w a).isSome) := by
  cases e : K20.told AL s w a with
  | none => rfl
  | some k =>
    obtain ⟨h1, q, h2⟩ := h.told (.inr rfl) e
    simp [nameAt, h2]
theorem Th.over_is (h : Th n s t w ps) (a : Nat) : nameAt ps (K20.told OV s w a) = .non ∨ ∃ q, nameAt ps (K20.told OV s w a) = .str q := by
  cases e : K20.told OV s w a with
  | none => exact .inl rfl
  | some k =>
    obtain ⟨h1, q, h2⟩ := h.told (.inl rfl) e
    exact .inr ⟨q, by simp [nameAt, h2]⟩
theorem Th.over_ne (h : Th n s t w ps) (a : Nat) (x : List Nat) : T.eqs (nameAt ps (K20.told OV s w a)) (.str x) = some (!unl x (nameAt ps (K20.told OV s w a))) := by
  rcases h.over_is a with e | ⟨q, e⟩ <;> rw [e] <;> simp [unl]
theorem Th.over_look (h : Th n s t w ps) (a : Nat) (S : Store) : look S (nameAt ps (K20.told OV s w a)) = nameAt ps (K20.told OV s w a) := by
  rcases h.over_is a with e | ⟨q, e⟩ <;> rw [e] <;> rfl
theorem Th.at_ (h : Th n s t w ps) {p : Nat × List Nat} (hp : p ∈ ptsL 0 (shp s w)) : ∃ y, ps[p.1 - 1]? = some y ∧ atI (T.str w :: ps) (p.1 : Int) = some y ∧ ps.getD (p.1 - 1) .non = y := by
  have hb := pts_pos _ _ p hp
  rw [h.len] at hb
  have hj : p.1 - 1 < ps.length := by omega
  have e1 := List.getElem?_eq_getElem hj
  refine ⟨ps[p.1 - 1], e1, ?_, by simp [hj]⟩
  rw [← e1, atI_nat]
  generalize p.1 = k at hb
  obtain ⟨j, rfl⟩ : ∃ j, k = j + 1 := ⟨k - 1, by omega⟩
  simp
end
theorem c_free : ∀ (n : Nat) (s : List Nat) (t : T) (x : List Nat) (m : Nat) (hs : isTF s = true) (h : wr n s t = true) (hm : n + 3 ≤ m) (S : Store), call pr m 48 [t, .str s, .str x] S = .ok (.bl (fre n s t x)) S
  | 0, s, t, x, m, hs, h, hm, S => by simp [wr] at h
  | n + 1, s, t, x, m + 1, hs, h, hm, S => by
    obtain ⟨w, ps, th⟩ := th_of hs h
    rw [call_of (d := d_is_free) rfl rfl]
    obtain rfl := th.eq
    have hk : ¬ s = wKind := by
      intro e
      rw [e] at hs
      cases hs
    simp only [d_is_free, startE]
    by_cases hw : w = wName
    · obtain ⟨rfl, q, rfl, _⟩ := th.name hw
      rw [hw]
      simp [fre]
    · have e : ∀ (L : List (Nat × List Nat)), (∀ p ∈ L, p ∈ ptsL 0 (shp s w)) → ∀ (a b : Slot), ∃ a' b', forLoop (fun _ => true) (goS pr (call pr m) (make pr m) (.t [3, 4]) d_is_free_b1) (L.map ptT) [.val (.tup (.str w :: ps)), .val (.str s), .val (.str x), a, b] S =
          bif (L.any fun p => !(decide (p.2 = wKind) || (told AL s w p.1).isSome) && (unl x (nameAt ps (told OV s w p.1)) && fre n p.2 (ps.getD (p.1 - 1) .non) x)) then .ret (.bl true) S else .nx [.val (.tup (.str w :: ps)), .val (.str s), .val (.str x), a', b'] S := by
        intro L
        induction L with
        | nil => intro _ a b; exact ⟨a, b, rfl⟩
        | cons p L ih =>
          intro hL a b
          have hp := hL p (List.mem_cons_self ..)
          obtain ⟨y, hy, hy2, hy3⟩ := th.at_ hp
          obtain ⟨m', rfl⟩ : ∃ m', m = m' + 2 := ⟨m - 2, by omega⟩
          have ca := c_alone m' th p.1 S
          have co := c_over m' th p.1 S
          have ka := th.alone_isK p.1
          have ko := th.over_ne p.1 x
          have kl := th.over_look p.1 S
          have cf : (told AL s w p.1).isSome = false → call pr (m' + 2) 48 [y, .str p.2, .str x] S = .ok (.bl (!decide (p.2 = wKind) && fre n p.2 y x)) S := fun q => by
            by_cases k : p.2 = wKind
            · rw [k]
              simpa using c_free_kind (m' + 1) y (.str x) S
            · have hsb : (p.1, p.2, told OV s w p.1) ∈ sbs s w := List.mem_filterMap.mpr ⟨p, hp, by simp [k, q]⟩
              obtain ⟨_, s2, ⟨y', s3, s4⟩, _⟩ := th.sub hsb
              rw [hy] at s3; cases s3
              simpa [k] using c_free n p.2 y x (m' + 2) s2 s4 (by omega) S
          obtain ⟨a', b', ih⟩ := ih (fun q hq => hL q (List.mem_cons_of_mem _ hq)) (.val (.int p.1)) (.val (.str p.2))
          generalize hc3 : (!decide (p.2 = wKind) && fre n p.2 y x) = c3 at cf
          have e1 : (!(decide (p.2 = wKind) || (told AL s w p.1).isSome) && (unl x (nameAt ps (told OV s w p.1)) && fre n p.2 (ps.getD (p.1 - 1) .non) x)) = (!(told AL s w p.1).isSome && (unl x (nameAt ps (told OV s w p.1)) && c3)) := by
            rw [← hc3, hy3]
            cases decide (p.2 = wKind) <;> cases (told AL s w p.1).isSome <;> cases unl x (nameAt ps (told OV s w p.1)) <;> rfl
          rw [List.any_cons, e1, List.map_cons, forLoop]
          cases q : (told AL s w p.1).isSome with
          | true =>
            refine ⟨a', b', ?_⟩
            simp [goS, d_is_free_b1, ptT, ca, ka, q]
            simpa [d_is_free_b1] using ih
          | false =>
            have cf := cf q
            cases u : unl x (nameAt ps (told OV s w p.1)) with
            | false =>
              refine ⟨a', b', ?_⟩
              simp [goS, d_is_free_b1, ptT, ca, ka, q, co, kl, ko, u]
              simpa [d_is_free_b1] using ih
            | true =>
              cases c3 with
              | true =>
                refine ⟨a', b', ?_⟩
                simp [goS, d_is_free_b1, ptT, ca, ka, q, co, kl, ko, u, hy2, cf]
              | false =>
                refine ⟨a', b', ?_⟩
                simp [goS, d_is_free_b1, ptT, ca, ka, q, co, kl, ko, u, hy2, cf]
                simpa [d_is_free_b1] using ih
      obtain ⟨a', b', e⟩ := e (ptsL 0 (shp s w)) (fun _ h => h) .no .no
      have cp := c_parts (m - 1) th S
      rw [show m - 1 + 1 = m by omega] at cp
      have ef : fre (n + 1) s (.tup (.str w :: ps)) x = ((ptsL 0 (shp s w)).any fun p => !(decide (p.2 = wKind) || (told AL s w p.1).isSome) && (unl x (nameAt ps (told OV s w p.1)) && fre n p.2 (ps.getD (p.1 - 1) .non) x)) := by
        simp only [fre, hw, if_false, sbs, List.any_filterMap]
        congr 1
        funext p
        by_cases k1 : p.2 = wKind <;> cases k2 : (told AL s w p.1).isSome <;> simp [k1, k2]
      have htf : s = wTerm ∨ s = wFormula := by simpa [isTF] using hs
      rcases htf with rfl | rfl
      all_goals
        simp [hk, hw, cp]
        rw [show (still (T.lst ((ptsL 0 (shp _ w)).map ptT)) ((ptsL 0 (shp _ w)).map ptT)) = fun _ => true from rfl, e]
        rw [ef]
        generalize (ptsL 0 (shp _ w)).any _ = c
        cases c <;> simp
end K20
end Hf
end

section
set_option Elab.async false
set_option linter.all false
set_option maxRecDepth 100000
set_option maxHeartbeats 200000
/-! K20c: the plain law of k20: a term put in, by the program. -/
namespace Hf
namespace K20
open P20
/-- is the name that is bound free in the term -/
def capt (k : Nat) (u : T) : T → Bool
  | .str y => fre k wTerm u y
  | _ => false
def puL (k n : Nat) (f : List Nat → T → Option T) (x : List Nat) (u : T) (ps : List T) : List (Nat × List Nat × Option Nat) → List T → Option (List T)
  | [], made => some made
  | p :: L, made => if (unl x (nameAt ps p.2.2) && fre n p.2.1 (ps.getD (p.1 - 1) .non) x) = true then
      (if capt k u (nameAt ps p.2.2) = true then none else match f p.2.1 (ps.getD (p.1 - 1) .non) with
        | none => none
        | some z => puL k n f x u ps L (made.set p.1 z))
    else puL k n f x u ps L made
/-- a term put in for a name; none where a name would be bound -/
def pui (k : Nat) : Nat → List Nat → T → List Nat → T → Option T
  | n + 1, s, .tup (.str w :: ps), x, u => if w = wName then (match ps with
      | .str q :: _ => if q = x then some u else some (.tup (.str w :: ps))
      | _ => none)
    else (puL k n (fun z y => pui k n z y x u) x u ps (sbs s w) (.str w :: ps)).map .tup
  | _, _, _, _, _ => none
theorem puL_none {k n : Nat} {f : List Nat → T → Option T} {x : List Nat} {u : T} {ps : List T} : ∀ {L : List (Nat × List Nat × Option Nat)} {made : List T}, (L.any fun p => unl x (nameAt ps p.2.2) && fre n p.2.1 (ps.getD (p.1 - 1) .non) x) = false → puL k n f x u ps L made = some made
  | [], _, _ => rfl
  | p :: L, made, h => by
    simp only [List.any_cons, Bool.or_eq_false_iff] at h
    rw [puL, h.1]
    simp only [Bool.false_eq_true, if_false]
    exact puL_none h.2
theorem pui_not_free {k n : Nat} {s : List Nat} {t : T} {w : List Nat} {ps : List T} {x : List Nat} {u : T} (th : Th n s t w ps) (h : fre (n + 1) s t x = false) : pui k (n + 1) s t x u = some t := by
  obtain rfl := th.eq
  by_cases hw : w = wName
  · obtain ⟨_, q, rfl, _⟩ := th.name hw
    simp [fre, hw] at h
    simp [pui, hw, h]
  · simp only [fre, hw, if_false] at h
    simp [pui, hw, puL_none h]
theorem forS_exn {g : Store → Bool} {f : T → Env → Store → SRes} {x : T} {l : List T} {r : Env} {S : Store} {c : Nat} {r' : Env} {S' : Store} (h : f x r S = .exn c r' S') : forLoop g f (x :: l) r S = .exn c r' S' := by simp [forLoop, h]
theorem forS_nx {g : Store → Bool} {f : T → Env → Store → SRes} {x : T} {l : List T} {r : Env} {S : Store} {r' : Env} {S' : Store} (h : f x r S = .nx r' S') (hg : g S' = true) : forLoop g f (x :: l) r S = forLoop g f l r' S' := by simp [forLoop, h, hg]
theorem forS_ret {g : Store → Bool} {f : T → Env → Store → SRes} {x : T} {l : List T} {r : Env} {S : Store} {c : T} {S' : Store} (h : f x r S = .ret c S') : forLoop g f (x :: l) r S = .ret c S' := by simp [forLoop, h]
def putR (o : Option T) (S : Store) : Res T := match o with
  | some v => .ok v S
  | none => .exn 8 S
def putS (o : Option (List T)) (f : List T → Env) (r : Env) (S : Store) : SRes := match o with
  | some v => .nx (f v) S
  | none => .exn 8 r S
theorem c_putin (k : Nat) (u : T) (hu : wr k wTerm u = true) : ∀ (n : Nat) (s : List Nat) (t : T) (x : List Nat) (m : Nat) (hs : isTF s = true) (h : wr n s t = true) (hm : n + 4 ≤ m) (hmk : n + k + 5 ≤ m) (S : Store), call pr m 49 [t, .str s, .str x, u] S = putR (pui k n s t x u) S
  | 0, s, t, x, m, hs, h, hm, hmk, S => by simp [wr] at h
  | n + 1, s, t, x, m + 1, hs, h, hm, hmk, S => by
    obtain ⟨w, ps, th⟩ := th_of hs h
    rw [call_of (d := d_put_in) rfl rfl]
    obtain rfl := th.eq
    have hk : ¬ s = wKind := by
      intro e
      rw [e] at hs
      cases hs
    simp only [d_put_in, startE]
    have c0 := c_free (n + 1) s _ x m hs h (by omega) S
    cases hf : fre (n + 1) s (.tup (.str w :: ps)) x with
    | false =>
      rw [hf] at c0
      rw [pui_not_free th hf]
      simp [hk, c0, putR]
    | true =>
      rw [hf] at c0
      by_cases hw : w = wName
      · obtain ⟨rfl, q, rfl, _⟩ := th.name hw
        subst hw
        have hq : q = x := by simpa [fre] using hf
        subst hq
        simp [c0, pui, putR]
      · have e : ∀ (L : List (Nat × List Nat)) (made : List T), (∀ p ∈ L, p ∈ ptsL 0 (shp s w)) → made.length = ps.length + 1 → ∀ (a b c : Slot), ∃ a' b' c' r', forLoop (fun _ => true) (goS pr (call pr m) (make pr m) (.t [5, 6]) d_put_in_b1) (L.map ptT) [.val (.tup (.str w :: ps)), .val (.str s), .val (.str x), .val u, .own made, a, b, c] S =
            putS (puL k n (fun z y => pui k n z y x u) x u ps (L.filterMap fun p => if p.2 = wKind ∨ (told AL s w p.1).isSome = true then none else some (p.1, p.2, told OV s w p.1)) made) (fun m' => [.val (.tup (.str w :: ps)), .val (.str s), .val (.str x), .val u, .own m', a', b', c']) r' S := by
          intro L
          induction L with
          | nil => intro made _ _ a b c; exact ⟨a, b, c, [], rfl⟩
          | cons p L ih =>
            intro made hL hmd a b c
            have hp := hL p (List.mem_cons_self ..)
            obtain ⟨y, hy, hy2, hy3⟩ := th.at_ hp
            have hb := pts_pos _ _ p hp
            rw [th.len] at hb
            obtain ⟨m', rfl⟩ : ∃ m', m = m' + 2 := ⟨m - 2, by omega⟩
            have ca := c_alone m' th p.1 S
            have co := c_over m' th p.1 S
            have ka := th.alone_isK p.1
            have ko := th.over_ne p.1 x
            have kl := th.over_look p.1 S
            have hLr : ∀ q ∈ L, q ∈ ptsL 0 (shp s w) := fun q hq => hL q (List.mem_cons_of_mem _ hq)
            have ih0 := fun made hmd => ih made hLr hmd (.val (.int p.1)) (.val (.str p.2)) (.val (nameAt ps (told OV s w p.1)))
            -- nothing is put in here
            have skip : goS pr (call pr (m' + 2)) (make pr (m' + 2)) (.t [5, 6]) d_put_in_b1 (ptT p) [.val (.tup (.str w :: ps)), .val (.str s), .val (.str x), .val u, .own made, a, b, c] S = .nx [.val (.tup (.str w :: ps)), .val (.str s), .val (.str x), .val u, .own made, .val (.int p.1), .val (.str p.2), .val (nameAt ps (told OV s w p.1))] S →
                puL k n (fun z y => pui k n z y x u) x u ps ((p :: L).filterMap fun p => if p.2 = wKind ∨ (told AL s w p.1).isSome = true then none else some (p.1, p.2, told OV s w p.1)) made = puL k n (fun z y => pui k n z y x u) x u ps (L.filterMap fun p => if p.2 = wKind ∨ (told AL s w p.1).isSome = true then none else some (p.1, p.2, told OV s w p.1)) made →
                ∃ a' b' c' r', forLoop (fun _ => true) (goS pr (call pr (m' + 2)) (make pr (m' + 2)) (.t [5, 6]) d_put_in_b1) ((p :: L).map ptT) [.val (.tup (.str w :: ps)), .val (.str s), .val (.str x), .val u, .own made, a, b, c] S =
            putS (puL k n (fun z y => pui k n z y x u) x u ps ((p :: L).filterMap fun p => if p.2 = wKind ∨ (told AL s w p.1).isSome = true then none else some (p.1, p.2, told OV s w p.1)) made) (fun m' => [.val (.tup (.str w :: ps)), .val (.str s), .val (.str x), .val u, .own m', a', b', c']) r' S := fun h1 h2 => by
              obtain ⟨a', b', c', r', ih⟩ := ih0 made hmd
              refine ⟨a', b', c', r', ?_⟩
              rw [List.map_cons, forS_nx h1 rfl, ih, h2]
            cases q : (told AL s w p.1).isSome with
            | true =>
              refine skip (by simp [goS, d_put_in_b1, ptT, ca, ka, q, co]) (by simp [q])
            | false =>
              by_cases kk : p.2 = wKind
              · refine skip ?_ (by simp [kk])
                have cf := c_free_kind (m' + 1) y (.str x) S
                cases uu : unl x (nameAt ps (told OV s w p.1)) with
                | false => simp [goS, d_put_in_b1, ptT, ca, ka, q, co, kl, ko, uu]
                | true => simp [goS, d_put_in_b1, ptT, ca, ka, q, co, kl, ko, uu, hy2, kk, cf]
              · have hsb : (p.1, p.2, told OV s w p.1) ∈ sbs s w := List.mem_filterMap.mpr ⟨p, hp, by simp [kk, q]⟩
                obtain ⟨_, s2, ⟨y', s3, s4⟩, s5⟩ := th.sub hsb
                rw [hy] at s3; cases s3
                have cf := c_free n p.2 y x (m' + 2) s2 s4 (by omega) S
                have eL : ((p :: L).filterMap fun p => if p.2 = wKind ∨ (told AL s w p.1).isSome = true then none else some (p.1, p.2, told OV s w p.1)) = (p.1, p.2, told OV s w p.1) :: (L.filterMap fun p => if p.2 = wKind ∨ (told AL s w p.1).isSome = true then none else some (p.1, p.2, told OV s w p.1)) := by
                  rw [List.filterMap_cons]; simp [kk, q]
                cases uu : unl x (nameAt ps (told OV s w p.1)) with
                | false =>
                  refine skip (by simp [goS, d_put_in_b1, ptT, ca, ka, q, co, kl, ko, uu]) ?_
                  rw [eL, puL]
                  simp [uu]
                | true =>
                  cases ff : fre n p.2 y x with
                  | false =>
                    rw [ff] at cf
                    refine skip (by simp [goS, d_put_in_b1, ptT, ca, ka, q, co, kl, ko, uu, hy2, cf]) ?_
                    rw [eL, puL]
                    rw [hy3, uu, ff]
                    simp
                  | true =>
                    rw [ff] at cf
                    have ck : ∃ z, T.isK (nameAt ps (told OV s w p.1)) .non = some z ∧ (z = true → capt k u (nameAt ps (told OV s w p.1)) = false) ∧ (z = false → call pr (m' + 2) 48 [u, .str wTerm, nameAt ps (told OV s w p.1)] S = .ok (.bl (capt k u (nameAt ps (told OV s w p.1)))) S) := by
                      rcases th.over_is p.1 with e | ⟨z, e⟩
                      · rw [e]; exact ⟨true, rfl, fun _ => rfl, fun h => by cases h⟩
                      · rw [e]; exact ⟨false, rfl, fun h => (by cases h), fun _ => c_free k wTerm u z (m' + 2) rfl hu (by omega) S⟩
                    obtain ⟨z, k1, k2, k3⟩ := ck
                    have cp := c_putin k u hu n p.2 y x (m' + 2) s2 s4 (by omega) (by omega) S
                    have hix : ixN made.length (p.1 : Int) = some p.1 := ixN_nat _ _ (by omega)
                    have noc : capt k u (nameAt ps (told OV s w p.1)) = false → goS pr (call pr (m' + 2)) (make pr (m' + 2)) (.t [5, 6]) d_put_in_b1 (ptT p) [.val (.tup (.str w :: ps)), .val (.str s), .val (.str x), .val u, .own made, a, b, c] S =
                        ((call pr (m' + 2) 49 [y, .str p.2, .str x, u] S).toT [.val (.tup (.str w :: ps)), .val (.str s), .val (.str x), .val u, .own made, .val (.int p.1), .val (.str p.2), .val (nameAt ps (told OV s w p.1))] fun t S => .nx [.val (.tup (.str w :: ps)), .val (.str s), .val (.str x), .val u, .own (made.set p.1 t), .val (.int p.1), .val (.str p.2), .val (nameAt ps (told OV s w p.1))] S) := by
                      intro hc
                      have st : ∀ v, v = ixN made.length (p.1 : Int) → v = some p.1 := fun v e => by rw [e, hix]
                      cases z with
                      | true => 
                        simp [goS, d_put_in_b1, ptT, ca, ka, q, co, kl, ko, uu, hy2, cf, k1]
                        cases call pr (m' + 2) 49 [y, .str p.2, .str x, u] S <;> simp [setiS, hix]
                      | false =>
                        have k3 := k3 rfl
                        rw [hc] at k3
                        simp [goS, d_put_in_b1, ptT, ca, ka, q, co, kl, ko, uu, hy2, cf, k1, k3]
                        cases call pr (m' + 2) 49 [y, .str p.2, .str x, u] S <;> simp [setiS, hix]
                    cases hc : capt k u (nameAt ps (told OV s w p.1)) with
                    | true =>
                      cases z with
                      | true => rw [k2 rfl] at hc; cases hc
                      | false =>
                        have k3 := k3 rfl
                        rw [hc] at k3
                        have st : goS pr (call pr (m' + 2)) (make pr (m' + 2)) (.t [5, 6]) d_put_in_b1 (ptT p) [.val (.tup (.str w :: ps)), .val (.str s), .val (.str x), .val u, .own made, a, b, c] S = .exn 8 [.val (.tup (.str w :: ps)), .val (.str s), .val (.str x), .val u, .own made, .val (.int p.1), .val (.str p.2), .val (nameAt ps (told OV s w p.1))] S := by
                          simp [goS, d_put_in_b1, ptT, ca, ka, q, co, kl, ko, uu, hy2, cf, k1, k3]
                        refine ⟨a, b, c, [.val (.tup (.str w :: ps)), .val (.str s), .val (.str x), .val u, .own made, .val (.int p.1), .val (.str p.2), .val (nameAt ps (told OV s w p.1))], ?_⟩
                        rw [List.map_cons, forS_exn st, eL, puL]
                        rw [hy3, uu, ff, hc]
                        simp [putS]
                    | false =>
                      have noc := noc hc
                      rw [cp] at noc
                      cases hz : pui k n p.2 y x u with
                      | none =>
                        rw [hz] at noc
                        simp only [putR, toT_exn] at noc
                        refine ⟨a, b, c, [.val (.tup (.str w :: ps)), .val (.str s), .val (.str x), .val u, .own made, .val (.int p.1), .val (.str p.2), .val (nameAt ps (told OV s w p.1))], ?_⟩
                        rw [List.map_cons, forS_exn noc, eL, puL]
                        rw [hy3, uu, ff, hc, hz]
                        simp [putS]
                      | some z =>
                        rw [hz] at noc
                        simp only [putR, toT_ok] at noc
                        obtain ⟨a', b', c', r', ih⟩ := ih0 (made.set p.1 z) (by simpa using hmd)
                        refine ⟨a', b', c', r', ?_⟩
                        rw [List.map_cons, forS_nx noc rfl, ih, eL, puL]
                        rw [hy3, uu, ff, hc, hz]
                        simp
        obtain ⟨a', b', c', r', e⟩ := e (ptsL 0 (shp s w)) (.str w :: ps) (fun _ h => h) (by simp) .no .no .no
        have cp := c_parts (m - 1) th S
        rw [show m - 1 + 1 = m by omega] at cp
        have ep : pui k (n + 1) s (.tup (.str w :: ps)) x u = (puL k n (fun z y => pui k n z y x u) x u ps (sbs s w) (.str w :: ps)).map .tup := by
          simp [pui, hw]
        have htf : s = wTerm ∨ s = wFormula := by simpa [isTF] using hs
        rcases htf with rfl | rfl
        all_goals
          simp [hk, hw, cp, c0]
          rw [show (still (T.lst ((ptsL 0 (shp _ w)).map ptT)) ((ptsL 0 (shp _ w)).map ptT)) = fun _ => true from rfl, e]
          rw [ep]
          unfold sbs
          generalize puL k n (fun z y => pui k n z y x u) x u ps _ _ = o
          cases o <;> simp [putS, putR]
end K20
end Hf
end

section
set_option Elab.async false
set_option linter.all false
set_option maxRecDepth 100000
set_option maxHeartbeats 200000
/-! K20d: the plain law of k20: the law's own words. -/
namespace Hf
/-- places one behind the other -/
def rising : Nat → List Nat → Bool
  | _, [] => true
  | k, p :: L => decide (k < p) && rising p L
theorem rising_mono {k k' : Nat} (h : k' ≤ k) : ∀ {L : List Nat}, rising k L = true → rising k' L = true
  | [], _ => rfl
  | p :: L, r => by
    simp only [rising, Bool.and_eq_true, decide_eq_true_eq] at r ⊢
    exact ⟨by omega, r.2⟩
theorem rising_sum (f : T → Nat) (h0 : f .non = 0) : ∀ (ps : List T) (k : Nat) (L : List Nat), rising k L = true → (L.map fun p => f (ps.getD (p - 1 - k) .non)).sum ≤ (ps.map f).sum
  | [], k, L, _ => by
    have : ∀ L : List Nat, (L.map fun p => f (([] : List T).getD (p - 1 - k) .non)).sum = 0 := by
      intro L
      induction L with
      | nil => rfl
      | cons p L ih => simpa [h0] using ih
    rw [this]; exact Nat.zero_le _
  | x :: ps, k, [], _ => by simp
  | x :: ps, k, p :: L, r => by
    simp only [rising, Bool.and_eq_true, decide_eq_true_eq] at r
    have shift : ∀ L : List Nat, rising (k + 1) L = true → (L.map fun p => f ((x :: ps).getD (p - 1 - k) .non)).sum = (L.map fun p => f (ps.getD (p - 1 - (k + 1)) .non)).sum := by
      intro L hL
      have : ∀ (j : Nat), k + 1 ≤ j → ∀ L : List Nat, rising j L = true → (L.map fun p => f ((x :: ps).getD (p - 1 - k) .non)).sum = (L.map fun p => f (ps.getD (p - 1 - (k + 1)) .non)).sum := by
        intro j hj L
        induction L generalizing j with
        | nil => intro _; rfl
        | cons q L ih =>
          intro hq
          simp only [rising, Bool.and_eq_true, decide_eq_true_eq] at hq
          have := ih q (by omega) hq.2
          obtain ⟨i, hi⟩ : ∃ i, q - 1 - k = i + 1 := ⟨q - 1 - k - 1, by omega⟩
          have hi2 : q - 1 - (k + 1) = i := by omega
          simp only [List.map_cons, List.sum_cons, this, hi, hi2]
          simp
      exact this (k + 1) (Nat.le_refl _) L hL
    by_cases hp : p = k + 1
    · subst hp
      have e := shift L r.2
      have ih := rising_sum f h0 ps (k + 1) L r.2
      simp only [List.map_cons, List.sum_cons, e]
      have : k + 1 - 1 - k = 0 := by omega
      rw [this]
      simp only [List.getD_cons_zero]
      omega
    · have hr : rising (k + 1) (p :: L) = true := by simp only [rising, Bool.and_eq_true, decide_eq_true_eq]; exact ⟨by omega, r.2⟩
      have e := shift (p :: L) hr
      have ih := rising_sum f h0 ps (k + 1) (p :: L) hr
      rw [e]
      simp only [List.map_cons, List.sum_cons] at ih ⊢
      omega
namespace K20
open P20
def lps (w : List Nat) : List (Nat × Option Nat) :=
  if w = [99, 97, 115, 101, 115] then [(1, none), (3, some 2), (5, some 4)]
  else if [[102, 117, 110], [115, 101, 116], [116, 104, 101], [97, 108, 108], [115, 111, 109, 101]].contains w then [(3, some 1)]
  else if [[112, 97, 105, 114], [97, 112, 112], [101, 113, 117, 97, 108], [105, 110], [97, 110, 100], [111, 114], [105, 102]].contains w then [(1, none), (2, none)]
  else if [[99, 97, 108, 108], [105, 110, 116, 111]].contains w then [(4, none)]
  else if [[102, 105, 114, 115, 116], [115, 101, 99, 111, 110, 100], [111, 117, 116], [119, 104, 101, 110], [115, 111], [110, 111, 116], [108, 101, 102, 116]].contains w then [(1, none)]
  else if w = [114, 105, 103, 104, 116] then [(2, none)] else []
def lpOk (s w : List Nat) : Bool := (lps w == (sbs s w).map fun p => (p.1, p.2.2)) && rising 0 ((sbs s w).map (·.1))
theorem lps_ok : ((keysOf wTerm).all (lpOk wTerm) && (keysOf wFormula).all (lpOk wFormula)) = true := by decide +kernel
section
variable {n : Nat} {s : List Nat} {t : T} {w : List Nat} {ps : List T}
theorem Th.key (h : Th n s t w ps) : w ∈ keysOf s := by
  obtain ⟨kvs, hk, hw⟩ := h.dl
  simp only [keysOf, hk]
  exact dlook_key hw
theorem Th.lp (h : Th n s t w ps) (hs : isTF s = true) : lps w = ((sbs s w).map fun p => (p.1, p.2.2)) ∧ rising 0 ((sbs s w).map (·.1)) = true := by
  have := lps_ok
  simp only [Bool.and_eq_true, List.all_eq_true] at this
  simp only [isTF, Bool.or_eq_true, beq_iff_eq] at hs
  have hm := h.key
  have : lpOk s w = true := by
    rcases hs with rfl | rfl
    · exact this.1 w hm
    · exact this.2 w hm
  simpa only [lpOk, Bool.and_eq_true, beq_iff_eq] using this
end
def lpT (ps : List T) (p : Nat × Option Nat) : T := .tup [.int p.1, nameAt ps p.2]
theorem c_lparts (m : Nat) {n : Nat} {s : List Nat} {t : T} {w : List Nat} {ps : List T} (h : Th n s t w ps) (hs : isTF s = true) (S : Store) : call pr (m + 1) 55 [t] S = .ok (.lst ((lps w).map (lpT ps))) S := by
  obtain rfl := h.eq
  rw [call_of (d := d_l_parts) rfl rfl]
  simp only [d_l_parts, startE]
  have ha : ∀ p ∈ lps w, ∀ k, p.2 = some k → 1 ≤ k ∧ ∃ q, ps[k - 1]? = some (.str q) := by
    intro p hp k hk
    rw [(h.lp hs).1] at hp
    obtain ⟨q, hq, rfl⟩ := List.mem_map.mp hp
    obtain ⟨_, _, _, h4⟩ := h.sub hq
    obtain ⟨h5, q', h6, _⟩ := h4 k hk
    exact ⟨h5, q', h6⟩
  by_cases h1 : w = [99, 97, 115, 101, 115]
  · subst h1
    obtain ⟨_, q1, e1⟩ := ha (3, some 2) (by simp [lps]) 2 rfl
    obtain ⟨_, q2, e2⟩ := ha (5, some 4) (by simp [lps]) 4 rfl
    have i1 : atI (T.str [99, 97, 115, 101, 115] :: ps) 2 = some (.str q1) := by
      have := atI_nat (T.str [99, 97, 115, 101, 115] :: ps) 2
      rw [show ((2 : Nat) : Int) = 2 from rfl] at this
      rw [this]; simpa using e1
    have i2 : atI (T.str [99, 97, 115, 101, 115] :: ps) 4 = some (.str q2) := by
      have := atI_nat (T.str [99, 97, 115, 101, 115] :: ps) 4
      rw [show ((4 : Nat) : Int) = 4 from rfl] at this
      rw [this]; simpa using e2
    simp [i1, i2, lps, lpT, nameAt, e1, e2]
  have g1 : ¬ [99, 97, 115, 101, 115] = w := fun e => h1 e.symm
  by_cases c0 : [[102, 117, 110], [115, 101, 116], [116, 104, 101], [97, 108, 108], [115, 111, 109, 101]].contains w = true
  · have hw : w = [102, 117, 110] ∨ w = [115, 101, 116] ∨ w = [116, 104, 101] ∨ w = [97, 108, 108] ∨ w = [115, 111, 109, 101] := by simpa using c0
    rcases hw with rfl | rfl | rfl | rfl | rfl
    · obtain ⟨_, q1, e1⟩ := ha (3, some 1) (by simp [lps]) 1 rfl
      have i1 : atI (T.str [102, 117, 110] :: ps) 1 = some (.str q1) := by
        have := atI_nat (T.str [102, 117, 110] :: ps) 1
        rw [show ((1 : Nat) : Int) = 1 from rfl] at this
        rw [this]; simpa using e1
      simp [i1, lps, lpT, nameAt, e1]
    · obtain ⟨_, q1, e1⟩ := ha (3, some 1) (by simp [lps]) 1 rfl
      have i1 : atI (T.str [115, 101, 116] :: ps) 1 = some (.str q1) := by
        have := atI_nat (T.str [115, 101, 116] :: ps) 1
        rw [show ((1 : Nat) : Int) = 1 from rfl] at this
        rw [this]; simpa using e1
      simp [i1, lps, lpT, nameAt, e1]
    · obtain ⟨_, q1, e1⟩ := ha (3, some 1) (by simp [lps]) 1 rfl
      have i1 : atI (T.str [116, 104, 101] :: ps) 1 = some (.str q1) := by
        have := atI_nat (T.str [116, 104, 101] :: ps) 1
        rw [show ((1 : Nat) : Int) = 1 from rfl] at this
        rw [this]; simpa using e1
      simp [i1, lps, lpT, nameAt, e1]
    · obtain ⟨_, q1, e1⟩ := ha (3, some 1) (by simp [lps]) 1 rfl
      have i1 : atI (T.str [97, 108, 108] :: ps) 1 = some (.str q1) := by
        have := atI_nat (T.str [97, 108, 108] :: ps) 1
        rw [show ((1 : Nat) : Int) = 1 from rfl] at this
        rw [this]; simpa using e1
      simp [i1, lps, lpT, nameAt, e1]
    · obtain ⟨_, q1, e1⟩ := ha (3, some 1) (by simp [lps]) 1 rfl
      have i1 : atI (T.str [115, 111, 109, 101] :: ps) 1 = some (.str q1) := by
        have := atI_nat (T.str [115, 111, 109, 101] :: ps) 1
        rw [show ((1 : Nat) : Int) = 1 from rfl] at this
        rw [this]; simpa using e1
      simp [i1, lps, lpT, nameAt, e1]
  have d0 : ¬ [102, 117, 110] = w ∧ ¬ [115, 101, 116] = w ∧ ¬ [116, 104, 101] = w ∧ ¬ [97, 108, 108] = w ∧ ¬ [115, 111, 109, 101] = w := by
    have := c0
    simp only [List.contains_cons, Bool.or_eq_true, beq_iff_eq, not_or] at this
    refine ⟨?_, ?_, ?_, ?_, ?_⟩ <;> intro e <;> subst e <;> simp at this
  by_cases c1 : [[112, 97, 105, 114], [97, 112, 112], [101, 113, 117, 97, 108], [105, 110], [97, 110, 100], [111, 114], [105, 102]].contains w = true
  · have hw : w = [112, 97, 105, 114] ∨ w = [97, 112, 112] ∨ w = [101, 113, 117, 97, 108] ∨ w = [105, 110] ∨ w = [97, 110, 100] ∨ w = [111, 114] ∨ w = [105, 102] := by simpa using c1
    rcases hw with rfl | rfl | rfl | rfl | rfl | rfl | rfl
    · simp [lps, lpT, nameAt]
    · simp [lps, lpT, nameAt]
    · simp [lps, lpT, nameAt]
    · simp [lps, lpT, nameAt]
    · simp [lps, lpT, nameAt]
    · simp [lps, lpT, nameAt]
    · simp [lps, lpT, nameAt]
  have d1 : ¬ [112, 97, 105, 114] = w ∧ ¬ [97, 112, 112] = w ∧ ¬ [101, 113, 117, 97, 108] = w ∧ ¬ [105, 110] = w ∧ ¬ [97, 110, 100] = w ∧ ¬ [111, 114] = w ∧ ¬ [105, 102] = w := by
    have := c1
    simp only [List.contains_cons, Bool.or_eq_true, beq_iff_eq, not_or] at this
    refine ⟨?_, ?_, ?_, ?_, ?_, ?_, ?_⟩ <;> intro e <;> subst e <;> simp at this
  by_cases c2 : [[99, 97, 108, 108], [105, 110, 116, 111]].contains w = true
  · have hw : w = [99, 97, 108, 108] ∨ w = [105, 110, 116, 111] := by simpa using c2
    rcases hw with rfl | rfl
    · simp [lps, lpT, nameAt]
    · simp [lps, lpT, nameAt]
  have d2 : ¬ [99, 97, 108, 108] = w ∧ ¬ [105, 110, 116, 111] = w := by
    have := c2
    simp only [List.contains_cons, Bool.or_eq_true, beq_iff_eq, not_or] at this
    refine ⟨?_, ?_⟩ <;> intro e <;> subst e <;> simp at this
  by_cases c3 : [[102, 105, 114, 115, 116], [115, 101, 99, 111, 110, 100], [111, 117, 116], [119, 104, 101, 110], [115, 111], [110, 111, 116], [108, 101, 102, 116]].contains w = true
  · have hw : w = [102, 105, 114, 115, 116] ∨ w = [115, 101, 99, 111, 110, 100] ∨ w = [111, 117, 116] ∨ w = [119, 104, 101, 110] ∨ w = [115, 111] ∨ w = [110, 111, 116] ∨ w = [108, 101, 102, 116] := by simpa using c3
    rcases hw with rfl | rfl | rfl | rfl | rfl | rfl | rfl
    · simp [lps, lpT, nameAt]
    · simp [lps, lpT, nameAt]
    · simp [lps, lpT, nameAt]
    · simp [lps, lpT, nameAt]
    · simp [lps, lpT, nameAt]
    · simp [lps, lpT, nameAt]
    · simp [lps, lpT, nameAt]
  have d3 : ¬ [102, 105, 114, 115, 116] = w ∧ ¬ [115, 101, 99, 111, 110, 100] = w ∧ ¬ [111, 117, 116] = w ∧ ¬ [119, 104, 101, 110] = w ∧ ¬ [115, 111] = w ∧ ¬ [110, 111, 116] = w ∧ ¬ [108, 101, 102, 116] = w := by
    have := c3
    simp only [List.contains_cons, Bool.or_eq_true, beq_iff_eq, not_or] at this
    refine ⟨?_, ?_, ?_, ?_, ?_, ?_, ?_⟩ <;> intro e <;> subst e <;> simp at this
  have el : lps w = if w = [114, 105, 103, 104, 116] then [(2, none)] else [] := by
    rw [lps, if_neg h1, if_neg c0, if_neg c1, if_neg c2, if_neg c3]
  by_cases h6 : w = [114, 105, 103, 104, 116]
  · subst h6
    simp [lps, lpT, nameAt]
  · rw [el, if_neg h6]
    simp [h1, d0, d1, d2, d3, h6]
end K20
end Hf
end

section
set_option Elab.async false
set_option linter.all false
set_option maxRecDepth 100000
set_option maxHeartbeats 200000
/-! K20e: the plain law of k20: free names and what is put in, by the law. -/
namespace Hf
namespace K20
open P20
/-- the free names, in order -/
def lfr : Nat → List Nat → T → List (List Nat)
  | n + 1, s, .tup (.str w :: ps) => if w = wName then (match ps with
      | .str q :: _ => [q]
      | _ => [])
    else (sbs s w).flatMap fun p => (lfr n p.2.1 (ps.getD (p.1 - 1) .non)).filter fun y => unl y (nameAt ps p.2.2)
  | _, _, _ => []
theorem mem_lfr (x : List Nat) : ∀ (n : Nat) (s : List Nat) (t : T), (lfr n s t).contains x = fre n s t x
  | 0, s, t => by cases t <;> simp [lfr, fre]
  | n + 1, s, t => by
    cases t <;> try (simp [lfr, fre]; done)
    rename_i xs
    cases xs <;> try (simp [lfr, fre]; done)
    rename_i a ps
    cases a <;> try (simp [lfr, fre]; done)
    rename_i w
    simp only [lfr, fre]
    by_cases hw : w = wName
    · simp only [hw, if_true]
      cases ps <;> try (simp; done)
      rename_i q _
      cases q <;> try (simp; done)
      simp
      rename_i y
      by_cases e : x = y <;> simp [e, eq_comm]
    · simp only [hw, if_false]
      rw [Bool.eq_iff_iff]
      simp only [List.contains_iff_mem, List.mem_flatMap, List.any_eq_true, List.mem_filter, Bool.and_eq_true]
      constructor
      · rintro ⟨p, hp, h1, h2⟩
        exact ⟨p, hp, h2, by rw [← mem_lfr x n]; simpa using h1⟩
      · rintro ⟨p, hp, h1, h2⟩
        exact ⟨p, hp, by rw [← mem_lfr x n] at h2; simpa using h2, h1⟩
theorem lfr_len : ∀ (n : Nat) (s : List Nat) (t : T) (hs : isTF s = true) (h : wr n s t = true), (lfr n s t).length ≤ blk t
  | 0, s, t, hs, h => by simp [wr] at h
  | n + 1, s, t, hs, h => by
    obtain ⟨w, ps, th⟩ := th_of hs h
    obtain rfl := th.eq
    by_cases hw : w = wName
    · obtain ⟨_, q, rfl, _⟩ := th.name hw
      simp [lfr, hw]
      try omega
    · simp only [lfr, hw, if_false]
      rw [List.length_flatMap]
      have e1 : ((sbs s w).map fun p => ((lfr n p.2.1 (ps.getD (p.1 - 1) .non)).filter fun y => unl y (nameAt ps p.2.2)).length).sum ≤ ((sbs s w).map fun p => blk (ps.getD (p.1 - 1) .non)).sum := by
        have : ∀ L : List (Nat × List Nat × Option Nat), (∀ p ∈ L, p ∈ sbs s w) → (L.map fun p => ((lfr n p.2.1 (ps.getD (p.1 - 1) .non)).filter fun y => unl y (nameAt ps p.2.2)).length).sum ≤ (L.map fun p => blk (ps.getD (p.1 - 1) .non)).sum := by
          intro L
          induction L with
          | nil => intro _; simp
          | cons p L ih =>
            intro hL
            have ih := ih fun q hq => hL q (List.mem_cons_of_mem _ hq)
            obtain ⟨_, s2, ⟨y, s3, s4⟩, _⟩ := th.sub (hL p (List.mem_cons_self ..))
            have := lfr_len n p.2.1 y s2 s4
            have e : ps.getD (p.1 - 1) .non = y := by simp [s3]
            have f := List.length_filter_le (fun y => unl y (nameAt ps p.2.2)) (lfr n p.2.1 y)
            simp only [List.map_cons, List.sum_cons, e]
            omega
        exact this _ fun _ h => h
      have e2 := rising_sum blk (by simp) ps 0 _ (th.lp hs).2
      rw [List.map_map] at e2
      simp only [Nat.sub_zero, Function.comp_def] at e2
      have e3 : (ps.map blk).sum ≤ blks ps := by
        clear e1 e2 h th
        induction ps with
        | nil => simp
        | cons x ps ih => simp; omega
      simp only [blk_tup, blks_cons]
      omega
theorem c_lfree : ∀ (n : Nat) (s : List Nat) (t : T) (m : Nat) (hs : isTF s = true) (h : wr n s t = true) (hm : n + 2 ≤ m) (hb : blk t ≤ 16777216) (S : Store), call pr m 56 [t] S = .ok (.lst ((lfr n s t).map .str)) S
  | 0, s, t, m, hs, h, hm, hb, S => by simp [wr] at h
  | n + 1, s, t, m + 1, hs, h, hm, hb, S => by
    have hlen := lfr_len (n + 1) s t hs h
    obtain ⟨w, ps, th⟩ := th_of hs h
    obtain rfl := th.eq
    rw [call_of (d := d_l_free) rfl rfl]
    simp only [d_l_free, startE]
    by_cases hw : w = wName
    · obtain ⟨rfl, q, rfl, _⟩ := th.name hw
      subst hw
      simp [lfr]
    · simp only [lfr, hw, if_false] at hlen ⊢
      have e : ∀ (L : List (Nat × List Nat × Option Nat)) (found : List (List Nat)), (∀ p ∈ L, p ∈ sbs s w) → found.length + (L.flatMap fun p => (lfr n p.2.1 (ps.getD (p.1 - 1) .non)).filter fun y => unl y (nameAt ps p.2.2)).length ≤ 16777216 → ∀ (a b c : Slot), ∃ a' b' c', forLoop (fun _ => true) (goS pr (call pr m) (make pr m) (.t [2, 3]) d_l_free_b1) (L.map fun p => lpT ps (p.1, p.2.2)) [.val (.tup (.str w :: ps)), .val (.lst (found.map .str)), a, b, c] S =
          .nx [.val (.tup (.str w :: ps)), .val (.lst ((found ++ (L.flatMap fun p => (lfr n p.2.1 (ps.getD (p.1 - 1) .non)).filter fun y => unl y (nameAt ps p.2.2))).map .str)), a', b', c'] S := by
        intro L
        induction L with
        | nil => intro found _ _ a b c; exact ⟨a, b, c, by simp [forLoop]⟩
        | cons p L ih =>
          intro found hL hlen a b c
          have hp := hL p (List.mem_cons_self ..)
          obtain ⟨s1, s2, ⟨y, s3, s4⟩, s5⟩ := th.sub hp
          have e : ps.getD (p.1 - 1) .non = y := by simp [s3]
          have hmem : y ∈ ps := List.mem_of_getElem? s3
          have hbl := blk_mem hmem
          simp only [blk_tup, blks_cons] at hb
          have cf := c_lfree n p.2.1 y m s2 s4 (by omega) (by omega) S
          have ei : atI (T.str w :: ps) (p.1 : Int) = some y := by
            generalize p.1 = k at s1 s3
            obtain ⟨j, rfl⟩ : ∃ j, k = j + 1 := ⟨k - 1, by omega⟩
            rw [atI_nat]
            simpa using s3
          have hov : nameAt ps p.2.2 = .non ∨ ∃ q, nameAt ps p.2.2 = .str q := by
            cases ho : p.2.2 with
            | none => exact .inl rfl
            | some k =>
              obtain ⟨_, q, h6, _⟩ := s5 k ho
              exact .inr ⟨q, by simp [nameAt, h6]⟩
          have hlk : look S (nameAt ps p.2.2) = nameAt ps p.2.2 := by rcases hov with e | ⟨q, e⟩ <;> rw [e] <;> rfl
          have hne : ∀ z : List Nat, T.eqs (.str z) (nameAt ps p.2.2) = some (!unl z (nameAt ps p.2.2)) := by
            intro z
            rcases hov with e | ⟨q, e⟩ <;> rw [e] <;> simp [unl, eq_comm]
          have ec : compLoop (fun _ => true) (turnI pr (call pr m) (make pr m) [.val (.tup (.str w :: ps)), .val (.lst (found.map .str)), .val (.int p.1), .val (nameAt ps p.2.2), c] (.v 4) (.n 4) (.cmp .ne (.v 4) (.v 3))) ((lfr n p.2.1 y).map .str) S = .ok (((lfr n p.2.1 y).filter fun z => unl z (nameAt ps p.2.2)).map .str) S := by
            refine compLoop_ofI rfl _ (fun z => unl z (nameAt ps p.2.2)) _ fun z _ => ?_
            have := hne z
            cases q : unl z (nameAt ps p.2.2) <;> simp [turnI, hlk, this, q]
          have hl : found.length + ((lfr n p.2.1 y).filter fun z => unl z (nameAt ps p.2.2)).length ≤ sizeLim := by
            simp only [List.flatMap_cons, List.length_append, e] at hlen
            unfold sizeLim
            omega
          have st : goS pr (call pr m) (make pr m) (.t [2, 3]) d_l_free_b1 (lpT ps (p.1, p.2.2)) [.val (.tup (.str w :: ps)), .val (.lst (found.map .str)), a, b, c] S = .nx [.val (.tup (.str w :: ps)), .val (.lst ((found ++ (lfr n p.2.1 y).filter fun z => unl z (nameAt ps p.2.2)).map .str)), .val (.int p.1), .val (nameAt ps p.2.2), c] S := by
            simp [goS, d_l_free_b1, lpT, ei, cf]
            rw [show (still (T.lst ((lfr n p.2.1 y).map .str)) ((lfr n p.2.1 y).map .str)) = fun _ => true from rfl, ec]
            simp [hl]
          obtain ⟨a', b', c', ih⟩ := ih (found ++ (lfr n p.2.1 y).filter fun z => unl z (nameAt ps p.2.2)) (fun q hq => hL q (List.mem_cons_of_mem _ hq)) (by simp only [List.flatMap_cons, List.length_append, e] at hlen ⊢; omega) (.val (.int p.1)) (.val (nameAt ps p.2.2)) c
          refine ⟨a', b', c', ?_⟩
          rw [List.map_cons, forS_nx st rfl, ih]
          simp [List.flatMap_cons, s3]
      obtain ⟨a', b', c', e⟩ := e (sbs s w) [] (fun _ h => h) (by simp only [List.length_nil]; omega) .no .no .no
      have cp := c_lparts (m - 1) th hs S
      rw [show m - 1 + 1 = m by omega, (th.lp hs).1, List.map_map] at cp
      simp only [List.map_nil, Function.comp_def] at e cp
      simp [hw, cp]
      rw [show (still (T.lst ((sbs s w).map fun p => lpT ps (p.1, p.2.2))) ((sbs s w).map fun p => lpT ps (p.1, p.2.2))) = fun _ => true from rfl, e]
      simp
theorem pui_tup (k : Nat) {u : T} {us : List T} (hu : u = .tup us) : ∀ (n : Nat) (s : List Nat) (t : T) (x : List Nat) (v : T), pui k n s t x u = some v → ∃ vs, v = .tup vs
  | 0, s, t, x, v, h => by cases t <;> simp [pui] at h
  | n + 1, s, t, x, v, h => by
    cases t <;> try (simp [pui] at h; done)
    rename_i xs
    cases xs <;> try (simp [pui] at h; done)
    rename_i a ps
    cases a <;> try (simp [pui] at h; done)
    rename_i w
    simp only [pui] at h
    split at h
    · split at h <;> try contradiction
      split at h
      · cases h; exact ⟨_, hu⟩
      · cases h; exact ⟨_, rfl⟩
    · rw [Option.map_eq_some_iff] at h
      obtain ⟨vs, _, rfl⟩ := h
      exact ⟨_, rfl⟩
def putN (o : Option T) : T := match o with
  | some v => v
  | none => .non
theorem any_str (L : List (List Nat)) (x : List Nat) : (L.map T.str).any (fun y => T.eqv y (.str x)) = L.contains x := by
  induction L with
  | nil => rfl
  | cons y L ih =>
    rw [List.map_cons, List.any_cons, ih, List.contains_cons, eqv_str]
    congr 1
    by_cases e : y = x
    · simp [e]
    · have e' : ¬ x = y := fun h => e h.symm
      simp [e, e']
theorem any_non (L : List (List Nat)) : (L.map T.str).any (fun y => T.eqv y .non) = false := by
  induction L with
  | nil => rfl
  | cons y L ih => rw [List.map_cons, List.any_cons, ih]; rfl
theorem data_strs (L : List (List Nat)) : T.dataAll (L.map .str) = true := dataAll_of fun x hx => by
  obtain ⟨y, _, rfl⟩ := List.mem_map.mp hx
  rfl
theorem c_lput (k : Nat) (u : T) (hu : wr k wTerm u = true) : ∀ (n : Nat) (s : List Nat) (t : T) (x : List Nat) (m : Nat) (hs : isTF s = true) (h : wr n s t = true) (hm : n + 4 ≤ m) (hb : blk t ≤ 16777216) (S : Store), call pr m 57 [t, .str x, u, .lst ((lfr k wTerm u).map .str)] S = .ok (putN (pui k n s t x u)) S
  | 0, s, t, x, m, hs, h, hm, hb, S => by simp [wr] at h
  | n + 1, s, t, x, m + 1, hs, h, hm, hb, S => by
    obtain ⟨us, hus⟩ : ∃ us, u = .tup us := by
      cases k with
      | zero => simp [wr] at hu
      | succ k =>
        obtain ⟨w, ps, th⟩ := th_of rfl hu
        exact ⟨_, th.eq⟩
    obtain ⟨w, ps, th⟩ := th_of hs h
    obtain rfl := th.eq
    rw [call_of (d := d_l_put) rfl rfl]
    simp only [d_l_put, startE]
    by_cases hw : w = wName
    · obtain ⟨rfl, q, rfl, _⟩ := th.name hw
      subst hw
      by_cases hq : q = x
      · subst hq
        simp [pui, putN]
      · simp [pui, hq, putN]
    · have e : ∀ (L : List (Nat × List Nat × Option Nat)) (made : List T), (∀ p ∈ L, p ∈ sbs s w) → made.length = ps.length + 1 → ∀ (a b : Slot), ∃ a' b', forLoop (fun _ => true) (goS pr (call pr m) (make pr m) (.t [5, 6]) d_l_put_b1) (L.map fun p => lpT ps (p.1, p.2.2)) [.val (.tup (.str w :: ps)), .val (.str x), .val u, .val (.lst ((lfr k wTerm u).map .str)), .own made, a, b] S =
          match puL k n (fun z y => pui k n z y x u) x u ps L made with
            | some m' => .nx [.val (.tup (.str w :: ps)), .val (.str x), .val u, .val (.lst ((lfr k wTerm u).map .str)), .own m', a', b'] S
            | none => .ret .non S := by
        intro L
        induction L with
        | nil => intro made _ _ a b; exact ⟨a, b, rfl⟩
        | cons p L ih =>
          intro made hL hmd a b
          have hp := hL p (List.mem_cons_self ..)
          obtain ⟨s1, s2, ⟨y, s3, s4⟩, s5⟩ := th.sub hp
          have e : ps.getD (p.1 - 1) .non = y := by simp [s3]
          have hmem : y ∈ ps := List.mem_of_getElem? s3
          have hbl := blk_mem hmem
          simp only [blk_tup, blks_cons] at hb
          have hlt := (List.getElem?_eq_some_iff.mp s3).1
          have cf := c_lfree n p.2.1 y m s2 s4 (by omega) (by omega) S
          have ei : atI (T.str w :: ps) (p.1 : Int) = some y := by
            generalize p.1 = k at s1 s3
            obtain ⟨j, rfl⟩ : ∃ j, k = j + 1 := ⟨k - 1, by omega⟩
            rw [atI_nat]
            simpa using s3
          have hov : nameAt ps p.2.2 = .non ∨ ∃ q, nameAt ps p.2.2 = .str q := by
            cases ho : p.2.2 with
            | none => exact .inl rfl
            | some k =>
              obtain ⟨_, q, h6, _⟩ := s5 k ho
              exact .inr ⟨q, by simp [nameAt, h6]⟩
          have hlk : look S (nameAt ps p.2.2) = nameAt ps p.2.2 := by rcases hov with e | ⟨q, e⟩ <;> rw [e] <;> rfl
          have hne : T.eqs (nameAt ps p.2.2) (.str x) = some (!unl x (nameAt ps p.2.2)) := by
            rcases hov with e | ⟨q, e⟩ <;> rw [e] <;> simp [unl]
          have hin : inItems (.str x) ((lfr n p.2.1 y).map .str) = some (fre n p.2.1 y x) := by
            rw [inItems_str _ _ (data_strs _), any_str, mem_lfr]
          have hcp : inItems (nameAt ps p.2.2) ((lfr k wTerm u).map .str) = some (capt k u (nameAt ps p.2.2)) := by
            rcases hov with e | ⟨q, e⟩
            · rw [e, inItems_non _ (data_strs _), any_non]; rfl
            · rw [e, inItems_str _ _ (data_strs _), any_str, mem_lfr]; rfl
          have cp := c_lput k u hu n p.2.1 y x m s2 s4 (by omega) (by omega) S
          have hix : ixN made.length (p.1 : Int) = some p.1 := ixN_nat _ _ (by omega)
          have hLr : ∀ q ∈ L, q ∈ sbs s w := fun q hq => hL q (List.mem_cons_of_mem _ hq)
          cases uu : unl x (nameAt ps p.2.2) with
          | false =>
            have st : goS pr (call pr m) (make pr m) (.t [5, 6]) d_l_put_b1 (lpT ps (p.1, p.2.2)) [.val (.tup (.str w :: ps)), .val (.str x), .val u, .val (.lst ((lfr k wTerm u).map .str)), .own made, a, b] S = .nx [.val (.tup (.str w :: ps)), .val (.str x), .val u, .val (.lst ((lfr k wTerm u).map .str)), .own made, .val (.int p.1), .val (nameAt ps p.2.2)] S := by
              simp [goS, d_l_put_b1, lpT, hlk, hne, uu]
            obtain ⟨a', b', ih⟩ := ih made hLr hmd (.val (.int p.1)) (.val (nameAt ps p.2.2))
            refine ⟨a', b', ?_⟩
            rw [List.map_cons, forS_nx st rfl, ih, puL]
            simp [uu]
          | true =>
            cases ff : fre n p.2.1 y x with
            | false =>
              rw [ff] at hin
              have st : goS pr (call pr m) (make pr m) (.t [5, 6]) d_l_put_b1 (lpT ps (p.1, p.2.2)) [.val (.tup (.str w :: ps)), .val (.str x), .val u, .val (.lst ((lfr k wTerm u).map .str)), .own made, a, b] S = .nx [.val (.tup (.str w :: ps)), .val (.str x), .val u, .val (.lst ((lfr k wTerm u).map .str)), .own made, .val (.int p.1), .val (nameAt ps p.2.2)] S := by
                simp [goS, d_l_put_b1, lpT, hlk, hne, uu, ei, cf, hin]
              obtain ⟨a', b', ih⟩ := ih made hLr hmd (.val (.int p.1)) (.val (nameAt ps p.2.2))
              refine ⟨a', b', ?_⟩
              rw [List.map_cons, forS_nx st rfl, ih, puL, e, uu, ff]
              simp
            | true =>
              rw [ff] at hin
              cases cc : capt k u (nameAt ps p.2.2) with
              | true =>
                rw [cc] at hcp
                have st : goS pr (call pr m) (make pr m) (.t [5, 6]) d_l_put_b1 (lpT ps (p.1, p.2.2)) [.val (.tup (.str w :: ps)), .val (.str x), .val u, .val (.lst ((lfr k wTerm u).map .str)), .own made, a, b] S = .ret .non S := by
                  simp [goS, d_l_put_b1, lpT, hlk, hne, uu, ei, cf, hin, hcp]
                refine ⟨a, b, ?_⟩
                rw [List.map_cons, forS_ret st, puL, e, uu, ff, cc]
                simp
              | false =>
                rw [cc] at hcp
                have hset : ∀ z : T, atI (made.set p.1 z) (p.1 : Int) = some z := fun z => by
                  rw [atI_nat]
                  exact List.getElem?_set_self (by omega)
                cases hz : pui k n p.2.1 y x u with
                | none =>
                  rw [hz] at cp
                  simp only [putN] at cp
                  have st : goS pr (call pr m) (make pr m) (.t [5, 6]) d_l_put_b1 (lpT ps (p.1, p.2.2)) [.val (.tup (.str w :: ps)), .val (.str x), .val u, .val (.lst ((lfr k wTerm u).map .str)), .own made, a, b] S = .ret .non S := by
                    simp [goS, d_l_put_b1, lpT, hlk, hne, uu, ei, cf, hin, hcp, cp, setiS, hix, hset]
                  refine ⟨a, b, ?_⟩
                  rw [List.map_cons, forS_ret st, puL, e, uu, ff, cc, hz]
                  simp
                | some z =>
                  rw [hz] at cp
                  simp only [putN] at cp
                  obtain ⟨zs, hzs⟩ := pui_tup k hus n p.2.1 y x z hz
                  have st : goS pr (call pr m) (make pr m) (.t [5, 6]) d_l_put_b1 (lpT ps (p.1, p.2.2)) [.val (.tup (.str w :: ps)), .val (.str x), .val u, .val (.lst ((lfr k wTerm u).map .str)), .own made, a, b] S = .nx [.val (.tup (.str w :: ps)), .val (.str x), .val u, .val (.lst ((lfr k wTerm u).map .str)), .own (made.set p.1 z), .val (.int p.1), .val (nameAt ps p.2.2)] S := by
                    simp [goS, d_l_put_b1, lpT, hlk, hne, uu, ei, cf, hin, hcp, cp, setiS, hix, hset]
                    rw [hzs]
                    simp
                  obtain ⟨a', b', ih⟩ := ih (made.set p.1 z) hLr (by simpa using hmd) (.val (.int p.1)) (.val (nameAt ps p.2.2))
                  refine ⟨a', b', ?_⟩
                  rw [List.map_cons, forS_nx st rfl, ih, puL, e, uu, ff, cc, hz]
                  rfl
      obtain ⟨a', b', e⟩ := e (sbs s w) (.str w :: ps) (fun _ h => h) (by simp) .no .no
      have cp := c_lparts (m - 1) th hs S
      rw [show m - 1 + 1 = m by omega, (th.lp hs).1, List.map_map] at cp
      simp only [Function.comp_def] at cp
      simp [hw, cp]
      rw [show (still (T.lst ((sbs s w).map fun p => lpT ps (p.1, p.2.2))) ((sbs s w).map fun p => lpT ps (p.1, p.2.2))) = fun _ => true from rfl, e]
      have ep : pui k (n + 1) s (.tup (.str w :: ps)) x u = (puL k n (fun z y => pui k n z y x u) x u ps (sbs s w) (.str w :: ps)).map .tup := by
        simp [pui, hw]
      rw [ep]
      generalize puL k n (fun z y => pui k n z y x u) x u ps _ _ = o
      cases o <;> simp [putN]
end K20
end Hf
end

section
set_option Elab.async false
set_option linter.all false
set_option maxRecDepth 100000
set_option maxHeartbeats 200000
/-! K20f: the plain law of k20: what is drawn and built. -/
namespace Hf
theorem mod_int (i j : Int) (h : 0 < j) : Op2.ev .mod (.int i) (.int j) = some (.int (i % j)) := by simp [Op2.ev, h]
theorem fdiv_int (i j : Int) (h : 0 < j) (h2 : j < 1073741824) : Op2.ev .fdiv (.int i) (.int j) = some (.int (i / j)) := by simp [Op2.ev, h, h2]
theorem mul_int (i j : Int) (h : -(2 ^ 64) < j) (h2 : j < 2 ^ 64) : Op2.ev .mul (.int i) (.int j) = some (.int (i * j)) := by
  simp only [Op2.ev]
  rw [if_pos (Or.inl ⟨h, h2⟩)]
theorem mul_int' (i j : Int) (h : -(2 ^ 64) < i) (h2 : i < 2 ^ 64) : Op2.ev .mul (.int i) (.int j) = some (.int (i * j)) := by
  simp only [Op2.ev]
  rw [if_pos (Or.inr ⟨h, h2⟩)]
/-- the store with one box -/
def bx (a b : Int) : Store := [Cell.lst [.int a, .int b]]
@[simp] theorem look_bx (a b : Int) : look (bx a b) (.ref 0) = .lst [.int a, .int b] := rfl
@[simp] theorem setc_bx0 (a b x : Int) (r : Env) : setcS (.ref 0) (.int 0) (.int x) r (bx a b) = .nx r (bx x b) := rfl
@[simp] theorem setc_bx1 (a b x : Int) (r : Env) : setcS (.ref 0) (.int 1) (.int x) r (bx a b) = .nx r (bx a x) := rfl
namespace K20
open P20
theorem c_draw (m : Nat) (k : Int) (h : 0 < k) (h2 : k < 1073741824) (a b : Int) : ∃ r a' b', (0 ≤ r ∧ r < k) ∧ call pr (m + 1) 12 [.ref 0, .int k] (bx a b) = .ok (.int r) (bx a' b') := by
  rw [call_of (d := d_l_draw) rfl rfl]
  simp only [d_l_draw, startE]
  by_cases ha : 0 < a
  · refine ⟨a % k, a / k, b, ⟨Int.emod_nonneg _ (by omega), Int.emod_lt_of_pos _ h⟩, ?_⟩
    simp [ha, mod_int _ _ h, fdiv_int _ _ h h2]
  · refine ⟨((b * 48271 + 12345) % 2147483647 / 64) % k, a, (b * 48271 + 12345) % 2147483647, ⟨Int.emod_nonneg _ (by omega), Int.emod_lt_of_pos _ h⟩, ?_⟩
    simp [ha, mod_int _ _ h, mul_int b 48271 (by decide) (by decide), mod_int _ 2147483647 (by decide), fdiv_int _ 64 (by decide) (by decide)]
/-- what has been built well: its form from fuel N on, its depth, its size -/
structure Gd (N D W : Nat) (s : List Nat) (t : T) : Prop where
  fn : fine t = true
  dp : t.depth ≤ D
  bk : blk t ≤ W
  wf : ∀ n, N ≤ n → wr n s t = true
theorem Gd.mono {N D W N' D' W' : Nat} {s : List Nat} {t : T} (h : Gd N D W s t) (h1 : N ≤ N') (h2 : D ≤ D') (h3 : W ≤ W') : Gd N' D' W' s t :=
  ⟨h.fn, Nat.le_trans h.dp h2, Nat.le_trans h.bk h3, fun n hn => h.wf n (by omega)⟩
theorem c_lname (m : Nat) (a b : Int) : ∃ t a' b', call pr (m + 2) 52 [.ref 0] (bx a b) = .ok t (bx a' b') ∧ Gd 1 0 8 wName t ∧ ∃ q, t = .str q := by
  obtain ⟨r, a', b', ⟨h1, h2⟩, e⟩ := c_draw m 8 (by decide) (by decide) a b
  rw [call_of (d := d_l_name) rfl rfl]
  simp only [d_l_name, startE]
  have hr : r * 5 / 8 = 0 ∨ r * 5 / 8 = 1 ∨ r * 5 / 8 = 2 ∨ r * 5 / 8 = 3 ∨ r * 5 / 8 = 4 := by omega
  have wn : ∀ q : List Nat, isName (.str q) = true → ∀ n, 1 ≤ n → wr n wName (.str q) = true := fun q hq n hn => by
    obtain ⟨k, rfl⟩ : ∃ k, n = k + 1 := ⟨n - 1, by omega⟩
    have e : dlook SK wName = none := by rfl
    simpa [wr, e] using hq
  rcases hr with hr | hr | hr | hr | hr
  · exact ⟨.str [120], a', b', by simp [e, mul_int r 5 (by decide) (by decide), fdiv_int _ 8 (by decide) (by decide), hr], ⟨by decide, by decide, by decide, wn _ (by decide)⟩, _, rfl⟩
  · exact ⟨.str [121], a', b', by simp [e, mul_int r 5 (by decide) (by decide), fdiv_int _ 8 (by decide) (by decide), hr], ⟨by decide, by decide, by decide, wn _ (by decide)⟩, _, rfl⟩
  · exact ⟨.str [122], a', b', by simp [e, mul_int r 5 (by decide) (by decide), fdiv_int _ 8 (by decide) (by decide), hr], ⟨by decide, by decide, by decide, wn _ (by decide)⟩, _, rfl⟩
  · exact ⟨.str [122, 122], a', b', by simp [e, mul_int r 5 (by decide) (by decide), fdiv_int _ 8 (by decide) (by decide), hr], ⟨by decide, by decide, by decide, wn _ (by decide)⟩, _, rfl⟩
  · exact ⟨.str [97, 98, 99, 100, 101, 102, 103, 104], a', b', by simp [e, mul_int r 5 (by decide) (by decide), fdiv_int _ 8 (by decide) (by decide), hr], ⟨by decide, by decide, by decide, wn _ (by decide)⟩, _, rfl⟩
theorem wr_one (n : Nat) : wr (n + 1) wKind (.tup [.str [111, 110, 101]]) = true := rfl
theorem wr_truth (n : Nat) : wr (n + 1) wKind (.tup [.str [116, 114, 117, 116, 104]]) = true := rfl
theorem wr_told (n : Nat) (x y : T) : wr (n + 1) wKind (.tup [.str [116, 111, 108, 100], x, y]) = (wr n wNumbers x && (wr n wRows y && true)) := rfl
theorem wr_sets (n : Nat) (x : T) : wr (n + 1) wKind (.tup [.str [115, 101, 116, 115], x]) = (wr n wKind x && true) := rfl
theorem wr_both (n : Nat) (x y : T) : wr (n + 1) wKind (.tup [.str [98, 111, 116, 104], x, y]) = (wr n wKind x && (wr n wKind y && true)) := rfl
theorem wr_either (n : Nat) (x y : T) : wr (n + 1) wKind (.tup [.str [101, 105, 116, 104, 101, 114], x, y]) = (wr n wKind x && (wr n wKind y && true)) := rfl
theorem wr_maps (n : Nat) (x y : T) : wr (n + 1) wKind (.tup [.str [109, 97, 112, 115], x, y]) = (wr n wKind x && (wr n wKind y && true)) := rfl
theorem wr_part (n : Nat) (x y z : T) : wr (n + 1) wKind (.tup [.str [112, 97, 114, 116], x, y, z]) = (wr n wName x && (wr n wKind y && (wr n wFormula z && true))) := rfl
theorem wr_equal (n : Nat) (x y : T) : wr (n + 1) wFormula (.tup [.str [101, 113, 117, 97, 108], x, y]) = (wr n wTerm x && (wr n wTerm y && true)) := rfl
theorem wr_nm (n : Nat) (x : T) : wr (n + 1) wTerm (.tup [.str [110, 97, 109, 101], x]) = (wr n wName x && true) := rfl
def WK : Nat → Nat
  | 0 => 14
  | d + 1 => 3 * WK d + 60
theorem kind_low (m : Nat) (d : Int) (mx : Int) (a b a1 b1 r : Int) (h1 : 0 ≤ r) (h2 : r < 4) (e1 : call pr (m + 2) 12 [.ref 0, .int mx] (bx a b) = .ok (.int r) (bx a1 b1)) (hmx : (0 < d ∧ mx = 9) ∨ (¬ 0 < d ∧ mx = 4)) : ∃ t a' b', call pr (m + 3) 53 [.ref 0, .int d] (bx a b) = .ok t (bx a' b') ∧ Gd 4 3 14 wKind t := by
  rw [call_of (d := d_l_kind) rfl rfl]
  simp only [d_l_kind, startE]
  obtain ⟨r2, a2, b2, ⟨g1, g2⟩, e2⟩ := c_draw (m + 1) 2 (by decide) (by decide) a1 b1
  have q : r = 0 ∨ r = 1 ∨ r = 2 ∨ r = 3 := by omega
  have q2 : r2 = 0 ∨ r2 = 1 := by omega
  have wfk : ∀ (x y : T), (∀ n, wr (n + 3) wNumbers x = true) → (∀ n, wr (n + 3) wRows y = true) → ∀ n, 4 ≤ n → wr n wKind (.tup [.str [116, 111, 108, 100], x, y]) = true := fun x y hx hy n hn => by
    obtain ⟨k, rfl⟩ : ∃ k, n = k + 4 := ⟨n - 4, by omega⟩
    rw [wr_told, hx, hy]; rfl
  have fin : ∀ t : T, fine t = true → t.depth ≤ 3 → blk t ≤ 14 → (∀ n, 4 ≤ n → wr n wKind t = true) → Gd 4 3 14 wKind t := fun t a b c d => ⟨a, b, c, d⟩
  rcases hmx with ⟨hd, rfl⟩ | ⟨hd, rfl⟩ <;> rcases q with rfl | rfl | rfl | rfl
  · exact ⟨.tup [.str [111, 110, 101]], a1, b1, by simp [e1, hd], fin _ (by decide) (by decide) (by decide) fun n hn => by obtain ⟨k, rfl⟩ : ∃ k, n = k + 1 := ⟨n - 1, by omega⟩; exact wr_one k⟩
  · exact ⟨.tup [.str [116, 114, 117, 116, 104]], a1, b1, by simp [e1, hd], fin _ (by decide) (by decide) (by decide) fun n hn => by obtain ⟨k, rfl⟩ : ∃ k, n = k + 1 := ⟨n - 1, by omega⟩; exact wr_truth k⟩
  · rcases q2 with rfl | rfl
    · exact ⟨.tup [.str [116, 111, 108, 100], .tup [.int 1], .tup [.tup [.int 0], .tup [.int 0, .int 1]]], a2, b2, by simp [e1, hd, e2, T.cut, cutL, sIx], fin _ (by decide) (by decide) (by decide) (wfk _ _ (fun n => rfl) (fun n => rfl))⟩
    · exact ⟨.tup [.str [116, 111, 108, 100], .tup [.int 1, .int 4], .tup [.tup [.int 0], .tup [.int 0, .int 1]]], a2, b2, by simp [e1, hd, e2, T.cut, cutL, sIx], fin _ (by decide) (by decide) (by decide) (wfk _ _ (fun n => rfl) (fun n => rfl))⟩
  · rcases q2 with rfl | rfl
    · exact ⟨.tup [.str [116, 111, 108, 100], .tup [.int 1], .tup [.tup [.int 0], .tup [.int 0, .int 1]]], a2, b2, by simp [e1, hd, e2, T.cut, cutL, sIx], fin _ (by decide) (by decide) (by decide) (wfk _ _ (fun n => rfl) (fun n => rfl))⟩
    · exact ⟨.tup [.str [116, 111, 108, 100], .tup [.int 1, .int 5], .tup [.tup [.int 0], .tup [.int 0, .int 1]]], a2, b2, by simp [e1, hd, e2, T.cut, cutL, sIx], fin _ (by decide) (by decide) (by decide) (wfk _ _ (fun n => rfl) (fun n => rfl))⟩
  · exact ⟨.tup [.str [111, 110, 101]], a1, b1, by simp [e1, hd], fin _ (by decide) (by decide) (by decide) fun n hn => by obtain ⟨k, rfl⟩ : ∃ k, n = k + 1 := ⟨n - 1, by omega⟩; exact wr_one k⟩
  · exact ⟨.tup [.str [116, 114, 117, 116, 104]], a1, b1, by simp [e1, hd], fin _ (by decide) (by decide) (by decide) fun n hn => by obtain ⟨k, rfl⟩ : ∃ k, n = k + 1 := ⟨n - 1, by omega⟩; exact wr_truth k⟩
  · rcases q2 with rfl | rfl
    · exact ⟨.tup [.str [116, 111, 108, 100], .tup [.int 1], .tup [.tup [.int 0], .tup [.int 0, .int 1]]], a2, b2, by simp [e1, hd, e2, T.cut, cutL, sIx], fin _ (by decide) (by decide) (by decide) (wfk _ _ (fun n => rfl) (fun n => rfl))⟩
    · exact ⟨.tup [.str [116, 111, 108, 100], .tup [.int 1, .int 4], .tup [.tup [.int 0], .tup [.int 0, .int 1]]], a2, b2, by simp [e1, hd, e2, T.cut, cutL, sIx], fin _ (by decide) (by decide) (by decide) (wfk _ _ (fun n => rfl) (fun n => rfl))⟩
  · rcases q2 with rfl | rfl
    · exact ⟨.tup [.str [116, 111, 108, 100], .tup [.int 1], .tup [.tup [.int 0], .tup [.int 0, .int 1]]], a2, b2, by simp [e1, hd, e2, T.cut, cutL, sIx], fin _ (by decide) (by decide) (by decide) (wfk _ _ (fun n => rfl) (fun n => rfl))⟩
    · exact ⟨.tup [.str [116, 111, 108, 100], .tup [.int 1, .int 5], .tup [.tup [.int 0], .tup [.int 0, .int 1]]], a2, b2, by simp [e1, hd, e2, T.cut, cutL, sIx], fin _ (by decide) (by decide) (by decide) (wfk _ _ (fun n => rfl) (fun n => rfl))⟩
theorem WK_ge (d : Nat) : 14 ≤ WK d := by
  induction d with
  | zero => exact Nat.le_refl _
  | succ d ih => simp only [WK]; omega
theorem c_kind : ∀ (d m : Nat) (a b : Int) (hm : d + 3 ≤ m), ∃ t a' b', call pr m 53 [.ref 0, .int d] (bx a b) = .ok t (bx a' b') ∧ Gd (4 + d) (3 + d) (WK d) wKind t := by
  intro d
  induction d with
  | zero =>
    intro m a b hm
    obtain ⟨m, rfl⟩ : ∃ k, m = k + 3 := ⟨m - 3, by omega⟩
    obtain ⟨r, a1, b1, ⟨h1, h2⟩, e1⟩ := c_draw (m + 1) 4 (by decide) (by decide) a b
    exact kind_low m 0 4 a b a1 b1 r h1 h2 e1 (.inr ⟨by decide, rfl⟩)
  | succ d ih =>
    intro m a b hm
    obtain ⟨m, rfl⟩ : ∃ k, m = k + 3 := ⟨m - 3, by omega⟩
    obtain ⟨r, a1, b1, ⟨h1, h2⟩, e1⟩ := c_draw (m + 1) 9 (by decide) (by decide) a b
    have hd : (0 : Int) < ((d + 1 : Nat) : Int) := by omega
    have hd' : (0 : Int) < (d : Int) + 1 := by omega
    by_cases hr : r < 4
    · obtain ⟨t, a', b', e, g⟩ := kind_low m ((d + 1 : Nat) : Int) 9 a b a1 b1 r h1 hr e1 (.inl ⟨hd, rfl⟩)
      exact ⟨t, a', b', e, g.mono (by omega) (by omega) (by have := WK_ge (d + 1); omega)⟩
    rw [call_of (d := d_l_kind) rfl rfl]
    simp only [d_l_kind, startE]
    obtain ⟨t2, a2, b2, e2, k2⟩ := ih (m + 2) a1 b1 (by omega)
    obtain ⟨t3, a3, b3, e3, k3⟩ := ih (m + 2) a2 b2 (by omega)
    have q : r = 4 ∨ r = 5 ∨ r = 6 ∨ r = 7 ∨ r = 8 := by omega
    have fin2 : ∀ (s : List Nat), s.length ≤ 6 → (s.all fun c => decide (97 ≤ c) && decide (c ≤ 122)) = true → (∀ n x y, wr (n + 1) wKind (.tup [.str s, x, y]) = (wr n wKind x && (wr n wKind y && true))) → Gd (4 + (d + 1)) (3 + (d + 1)) (WK (d + 1)) wKind (.tup [.str s, t2, t3]) := fun s hs1 hs2 hs3 => by
      refine ⟨?_, ?_, ?_, fun n hn => ?_⟩
      · simp only [fine_tup, fines_cons, fine_str, hs2, k2.fn, k3.fn, fines_nil, Bool.and_self]
      · have := k2.dp; have := k3.dp
        simp only [depth_tup, depth_cons, depth_nil, depth_str]; omega
      · have := k2.bk; have := k3.bk
        simp only [blk_tup, blks_cons, blks_nil, blk_str, WK]; omega
      · obtain ⟨k, rfl⟩ : ∃ k, n = k + 1 := ⟨n - 1, by omega⟩
        rw [hs3, k2.wf k (by omega), k3.wf k (by omega)]; rfl
    rcases q with rfl | rfl | rfl | rfl | rfl
    · exact ⟨_, a3, b3, by simp [e1, hd', e2, e3, Int.add_sub_cancel], fin2 _ (by decide) (by decide) wr_both⟩
    · exact ⟨_, a3, b3, by simp [e1, hd', e2, e3, Int.add_sub_cancel], fin2 _ (by decide) (by decide) wr_either⟩
    · exact ⟨_, a3, b3, by simp [e1, hd', e2, e3, Int.add_sub_cancel], fin2 _ (by decide) (by decide) wr_maps⟩
    · refine ⟨.tup [.str [115, 101, 116, 115], t2], a2, b2, by simp [e1, hd', e2, Int.add_sub_cancel], ?_, ?_, ?_, fun n hn => ?_⟩
      · simp [k2.fn]
      · have := k2.dp
        simp only [depth_tup, depth_cons, depth_nil, depth_str]; omega
      · have := k2.bk
        simp only [blk_tup, blks_cons, blks_nil, blk_str, WK, List.length_cons, List.length_nil]; omega
      · obtain ⟨k, rfl⟩ : ∃ k, n = k + 1 := ⟨n - 1, by omega⟩
        rw [wr_sets, k2.wf k (by omega)]; rfl
    · obtain ⟨nm, a4, b4, e4, k4, q4, rfl⟩ := c_lname m a1 b1
      obtain ⟨t5, a5, b5, e5, k5⟩ := ih (m + 2) a4 b4 (by omega)
      obtain ⟨nm6, a6, b6, e6, k6, q6, rfl⟩ := c_lname m a5 b5
      refine ⟨.tup [.str [112, 97, 114, 116], .str q4, t5, .tup [.str [101, 113, 117, 97, 108], .tup [.str [110, 97, 109, 101], .str q4], .tup [.str [110, 97, 109, 101], .str q6]]], a6, b6, by simp [e1, hd', e4, e5, e6, Int.add_sub_cancel], ?_, ?_, ?_, fun n hn => ?_⟩
      · have f4 := k4.fn; have f6 := k6.fn
        rw [fine_str] at f4 f6
        simp only [fine_tup, fines_cons, fine_str, f4, f6, k5.fn, fines_nil, Bool.and_self]
        rfl
      · have := k5.dp
        simp only [depth_tup, depth_cons, depth_nil, depth_str]; omega
      · have := k5.bk; have := k4.bk; have := k6.bk
        simp only [blk_tup, blks_cons, blks_nil, blk_str, WK, List.length_cons, List.length_nil] at *; omega
      · obtain ⟨k, rfl⟩ : ∃ k, n = k + 4 := ⟨n - 4, by omega⟩
        rw [wr_part, k4.wf _ (by omega), k5.wf _ (by omega), wr_equal, wr_nm, wr_nm, k4.wf _ (by omega), k6.wf _ (by omega)]; rfl
end K20
end Hf
end

section
set_option Elab.async false
set_option linter.all false
set_option maxRecDepth 100000
set_option maxHeartbeats 200000
/-! K20g: the plain law of k20: things. -/
namespace Hf
namespace K20
open P20
def strOf : T → List Nat
  | .str s => s
  | _ => []
def SH : Bool → List (List Nat × List Nat)
  | true => [([116, 114, 117, 101], []), ([102, 97, 108, 115, 101], []), ([115, 111], [116]), ([101, 113, 117, 97, 108], [116, 116]), ([105, 110], [116, 116]), ([97, 110, 100], [102, 102]), ([111, 114], [102, 102]), ([105, 102], [102, 102]), ([110, 111, 116], [102]), ([97, 108, 108], [110, 107, 112]), ([115, 111, 109, 101], [110, 107, 112])]
  | false => [([110, 97, 109, 101], [110]), ([115, 116, 97, 114], []), ([102, 105, 120, 101, 100], [107, 105]), ([99, 97, 108, 108], [107, 107, 109, 116]), ([112, 97, 105, 114], [116, 116]), ([102, 105, 114, 115, 116], [116]), ([115, 101, 99, 111, 110, 100], [116]), ([108, 101, 102, 116], [116, 107]), ([114, 105, 103, 104, 116], [107, 116]), ([99, 97, 115, 101, 115], [116, 110, 115, 110, 114]), ([102, 117, 110], [110, 107, 115]), ([97, 112, 112], [116, 116]), ([115, 101, 116], [110, 107, 112]), ([119, 104, 101, 110], [102]), ([105, 110, 116, 111], [110, 107, 111, 116]), ([111, 117, 116], [116]), ([116, 104, 101], [110, 107, 112])]
def shT (p : List Nat × List Nat) : T := .tup [.str p.1, .str p.2]
theorem c_shapes (m : Nat) (fo : Bool) (S : Store) : call pr (m + 1) 51 [.bl fo] S = .ok (.lst ((SH fo).map shT)) S := by
  rw [call_of (d := d_l_shapes) rfl rfl]
  cases fo
  · simp [d_l_shapes, startE]; rfl
  · simp [d_l_shapes, startE]; rfl
def sortF (fo : Bool) : List Nat := if fo then wFormula else wTerm
/-- the sort of a letter -/
def so (c : Nat) : List Nat := if c = 110 then wName else if c = 107 then wKind else if c = 116 ∨ c = 115 ∨ c = 114 then wTerm else if c = 102 ∨ c = 112 ∨ c = 111 then wFormula else if c = 105 then wElements else wLists
def isTh (c : Nat) : Bool := c == 116 || c == 115 || c == 114 || c == 102 || c == 112 || c == 111
def lw (V c : Nat) : Nat := if c = 110 then 8 else if c = 107 then 102 else if isTh c then V else 6
def tbl (s : List Nat) : List (T × T) := match dlook SK s with
  | some (.dic kvs) => kvs
  | _ => []
def shOk (fo : Bool) (p : List Nat × List Nat) : Bool := (match dlook (tbl (sortF fo)) p.1 with
  | some (.tup sh) => T.beqAll sh (p.2.map fun c => .str (so c))
  | _ => false) && (p.1.all fun c => decide (97 ≤ c) && decide (c ≤ 122)) && (p.2.all fun c => c == 110 || c == 107 || isTh c || c == 105 || c == 109)
theorem sh_ok (fo : Bool) : ((SH fo).all (shOk fo)) = true := by cases fo <;> decide +kernel
theorem sh_low (fo : Bool) : ((SH fo).take 2).all (fun p => p.2.all fun c => c == 110) = true := by cases fo <;> decide +kernel
theorem sh_len (fo : Bool) : (SH fo).length = if fo then 11 else 17 := by cases fo <;> rfl
theorem sh_sum (fo : Bool) (V : Nat) (hV : 100 ≤ V) : ∀ p ∈ SH fo, p.1.length + 1 + ((p.2.map (lw V)).sum + p.2.length) ≤ 3 * V + 27 := by
  intro p hp
  cases fo
  · simp only [SH, List.mem_cons, List.not_mem_nil, or_false] at hp
    rcases hp with rfl | rfl | rfl | rfl | rfl | rfl | rfl | rfl | rfl | rfl | rfl | rfl | rfl | rfl | rfl | rfl | rfl <;> simp [lw, isTh] <;> omega
  · simp only [SH, List.mem_cons, List.not_mem_nil, or_false] at hp
    rcases hp with rfl | rfl | rfl | rfl | rfl | rfl | rfl | rfl | rfl | rfl | rfl <;> simp [lw, isTh] <;> omega
def WT : Nat → Nat
  | 0 => 100
  | d + 1 => 3 * WT d + 27
theorem WT_ge (d : Nat) : 100 ≤ WT d := by
  induction d with
  | zero => exact Nat.le_refl _
  | succ d ih => simp only [WT]; omega
def A2 (R : Nat → T → Prop) : List Nat → List T → Prop
  | [], [] => True
  | c :: cs, x :: xs => R c x ∧ A2 R cs xs
  | _, _ => False
theorem A2.len {R : Nat → T → Prop} : ∀ {cs : List Nat} {xs : List T}, A2 R cs xs → cs.length = xs.length
  | [], [], _ => rfl
  | _ :: _, _ :: _, h => by simp [A2.len h.2]
theorem A2.get {R : Nat → T → Prop} : ∀ {cs : List Nat} {xs : List T}, A2 R cs xs → ∀ (i : Nat) c, cs[i]? = some c → ∃ x, xs[i]? = some x ∧ R c x
  | [], [], _, i, c, h => by simp at h
  | c :: cs, x :: xs, h, 0, c', e => by
    simp at e; subst e
    exact ⟨x, rfl, h.1⟩
  | c :: cs, x :: xs, h, i + 1, c', e => by
    obtain ⟨y, h1, h2⟩ := A2.get h.2 i c' (by simpa using e)
    exact ⟨y, by simpa using h1, h2⟩
theorem A2.snoc {R : Nat → T → Prop} : ∀ {cs : List Nat} {xs : List T} {c : Nat} {x : T}, A2 R cs xs → R c x → A2 R (cs ++ [c]) (xs ++ [x])
  | [], [], _, _, _, r => ⟨r, trivial⟩
  | _ :: _, _ :: _, _, _, h, r => ⟨h.1, A2.snoc h.2 r⟩
theorem beqAll_strs : ∀ {sh : List T} {zs : List (List Nat)}, T.beqAll sh (zs.map .str) = true → sh = zs.map .str
  | [], [], _ => rfl
  | [], _ :: _, h => by simp [T.beqAll] at h
  | _ :: _, [], h => by simp [T.beqAll] at h
  | x :: sh, z :: zs, h => by
    simp only [List.map_cons, T.beqAll, Bool.and_eq_true] at h
    cases x <;> simp only [T.beq] at h <;> try (simp at h; done)
    have e1 := eq_of_beq h.1
    rw [List.map_cons, ← e1, beqAll_strs h.2]
theorem wr_mk {fo : Bool} {p : List Nat × List Nat} (hp : p ∈ SH fo) {n : Nat} {xs : List T} (h : A2 (fun c x => wr n (so c) x = true) p.2 xs) : wr (n + 1) (sortF fo) (.tup (.str p.1 :: xs)) = true := by
  have ok := List.all_eq_true.mp (sh_ok fo) p hp
  have hk : dlook SK (sortF fo) = some (.dic (tbl (sortF fo))) := by cases fo <;> rfl
  simp only [shOk, Bool.and_eq_true] at ok
  obtain ⟨⟨ok1, _⟩, _⟩ := ok
  split at ok1 <;> try contradiction
  rename_i sh hsh
  have e : sh = (p.2.map so).map .str := beqAll_strs (by rw [List.map_map]; exact ok1)
  simp only [wr, hk, hsh, Bool.and_eq_true, decide_eq_true_eq]
  refine ⟨by rw [e]; simp [h.len], ?_⟩
  rw [enumB_all]
  intro j x hx
  rw [e, List.map_map, List.getElem?_map, Option.map_eq_some_iff] at hx
  obtain ⟨c, hc, rfl⟩ := hx
  obtain ⟨y, hy, r⟩ := h.get j c hc
  simp [hy, r]
/-- what stands for a letter -/
def RL (d : Nat) (c : Nat) (x : T) : Prop := Gd (5 + d) (5 + d) (lw (WT (d - 1)) c) (so c) x
theorem gd_elements (d : Nat) (x : T) (h1 : fine x = true) (h2 : x.depth ≤ 5) (h3 : blk x ≤ 6) (h4 : isRow 1 x = true) : RL d 105 x := by
  refine ⟨h1, by omega, by simpa [lw, isTh] using h3, fun n hn => ?_⟩
  obtain ⟨k, rfl⟩ : ∃ k, n = k + 1 := ⟨n - 1, by omega⟩
  have e : dlook SK wElements = none := by rfl
  simpa [wr, e, so] using h4
theorem gd_lists (d : Nat) (x : T) (h1 : fine x = true) (h2 : x.depth ≤ 5) (h3 : blk x ≤ 6) (h4 : isRow 2 x = true) : RL d 109 x := by
  refine ⟨h1, by omega, by simpa [lw, isTh] using h3, fun n hn => ?_⟩
  obtain ⟨k, rfl⟩ : ∃ k, n = k + 1 := ⟨n - 1, by omega⟩
  have e : dlook SK wLists = none := by rfl
  simpa [wr, e, so] using h4
def ThOk (d : Nat) : Prop := ∀ (m : Nat) (fo : Bool) (a b : Int), d + 6 ≤ m → ∃ t a' b', call pr m 54 [.ref 0, .bl fo, .int d] (bx a b) = .ok t (bx a' b') ∧ Gd (6 + d) (6 + d) (WT d) (sortF fo) t
theorem c_letter (d m : Nat) (hm : d + 5 ≤ m) (ih : ∀ d', d = d' + 1 → ThOk d') (fo : Bool) (a b : Int) (made : List T) (hmd : made.length < 100) (x3 x4 x6 x7 x8 : Slot) (c : Nat) (hc : (c == 110 || c == 107 || isTh c || c == 105 || c == 109) = true) (hd : isTh c = true → d ≠ 0) :
    ∃ x a' b', goS pr (call pr m) (make pr m) (.n 6) d_l_thing_b1 (.str [c]) [.val (.ref 0), .val (.bl fo), .val (.int d), x3, x4, .own made, x6, x7, x8] (bx a b) = .nx [.val (.ref 0), .val (.bl fo), .val (.int d), x3, x4, .own (made ++ [x]), .val (.str [c]), x7, x8] (bx a' b') ∧ RL d c x := by
  have hsz : made.length < sizeLim := by unfold sizeLim; omega
  simp only [Bool.or_eq_true, beq_iff_eq] at hc
  have thing : ∀ (fo' : Bool), isTh c = true → so c = sortF fo' → c ≠ 110 → c ≠ 107 → ∃ x a' b', call pr m 54 [.ref 0, .bl fo', .int ((d - 1 : Nat) : Int)] (bx a b) = .ok x (bx a' b') ∧ RL d c x := fun fo' ht hs n1 n2 => by
    have h0 := hd ht
    obtain ⟨d', rfl⟩ : ∃ d', d = d' + 1 := ⟨d - 1, by omega⟩
    obtain ⟨t, a', b', e, g⟩ := ih d' rfl m fo' a b (by omega)
    refine ⟨t, a', b', e, ⟨g.fn, by have := g.dp; omega, ?_, fun n hn => by rw [hs]; exact g.wf n (by omega)⟩⟩
    have := g.bk
    simpa [lw, n1, n2, ht] using this
  have mx : isTh c = true → Bi.ev .max2 [.int 0, .int ((d : Int) - 1)] = some (.int ((d - 1 : Nat) : Int)) := fun ht => by
    have h0 := hd ht
    rw [max2_int]
    have : ((d - 1 : Nat) : Int) = (d : Int) - 1 := by omega
    rw [this]
    by_cases q : (d : Int) - 1 > 0
    · rw [if_pos q]
    · rw [if_neg q]; congr 2; omega
  rcases hc with (((rfl | rfl) | hth) | rfl) | rfl
  · obtain ⟨m, rfl⟩ : ∃ k, m = k + 2 := ⟨m - 2, by omega⟩
    obtain ⟨t, a', b', e, g, _⟩ := c_lname m a b
    exact ⟨t, a', b', by simp [goS, d_l_thing_b1, e, hsz], g.mono (by omega) (by omega) (by simp [lw])⟩
  · obtain ⟨t, a', b', e, g⟩ := c_kind 1 m a b (by omega)
    have e : call pr m 53 [.ref 0, .int 1] (bx a b) = .ok t (bx a' b') := e
    exact ⟨t, a', b', by simp [goS, d_l_thing_b1, e, hsz], g.mono (by omega) (by omega) (by simp [lw, WK])⟩
  · have hth' := hth
    simp only [isTh, Bool.or_eq_true, beq_iff_eq] at hth
    rcases hth with ((((rfl | rfl) | rfl) | rfl) | rfl) | rfl
    · obtain ⟨t, a', b', e, g⟩ := thing false hth' rfl (by decide) (by decide)
      have mx := mx hth'
      exact ⟨t, a', b', by simp [goS, d_l_thing_b1, e, hsz, mx, -max2_int], g⟩
    · obtain ⟨t, a', b', e, g⟩ := thing false hth' rfl (by decide) (by decide)
      have mx := mx hth'
      exact ⟨t, a', b', by simp [goS, d_l_thing_b1, e, hsz, mx, -max2_int], g⟩
    · obtain ⟨t, a', b', e, g⟩ := thing false hth' rfl (by decide) (by decide)
      have mx := mx hth'
      exact ⟨t, a', b', by simp [goS, d_l_thing_b1, e, hsz, mx, -max2_int], g⟩
    · obtain ⟨t, a', b', e, g⟩ := thing true hth' rfl (by decide) (by decide)
      have mx := mx hth'
      exact ⟨t, a', b', by simp [goS, d_l_thing_b1, e, hsz, mx, -max2_int], g⟩
    · obtain ⟨t, a', b', e, g⟩ := thing true hth' rfl (by decide) (by decide)
      have mx := mx hth'
      exact ⟨t, a', b', by simp [goS, d_l_thing_b1, e, hsz, mx, -max2_int], g⟩
    · obtain ⟨t, a', b', e, g⟩ := thing true hth' rfl (by decide) (by decide)
      have mx := mx hth'
      exact ⟨t, a', b', by simp [goS, d_l_thing_b1, e, hsz, mx, -max2_int], g⟩
  · obtain ⟨m, rfl⟩ : ∃ k, m = k + 1 := ⟨m - 1, by omega⟩
    obtain ⟨r, a', b', ⟨h1, h2⟩, e⟩ := c_draw m 3 (by decide) (by decide) a b
    have q : r = 0 ∨ r = 1 ∨ r = 2 := by omega
    rcases q with rfl | rfl | rfl
    · exact ⟨.tup [.int 0, .int 1], a', b', by simp [goS, d_l_thing_b1, e, hsz], gd_elements d _ (by decide) (by decide) (by decide) (by decide)⟩
    · exact ⟨.tup [], a', b', by simp [goS, d_l_thing_b1, e, hsz], gd_elements d _ (by decide) (by decide) (by decide) (by decide)⟩
    · exact ⟨.tup [.tup [.tup [.int 0], .int 3], .int 2], a', b', by simp [goS, d_l_thing_b1, e, hsz], gd_elements d _ (by decide) (by decide) (by decide) (by decide)⟩
  · obtain ⟨m, rfl⟩ : ∃ k, m = k + 1 := ⟨m - 1, by omega⟩
    obtain ⟨r, a', b', ⟨h1, h2⟩, e⟩ := c_draw m 3 (by decide) (by decide) a b
    have q : r = 0 ∨ r = 1 ∨ r = 2 := by omega
    rcases q with rfl | rfl | rfl
    · exact ⟨.tup [.tup [.int 0, .int 1], .tup [.int 1]], a', b', by simp [goS, d_l_thing_b1, e, hsz], gd_lists d _ (by decide) (by decide) (by decide) (by decide)⟩
    · exact ⟨.tup [], a', b', by simp [goS, d_l_thing_b1, e, hsz], gd_lists d _ (by decide) (by decide) (by decide) (by decide)⟩
    · exact ⟨.tup [.tup [.tup [], .tup [.int 0, .int 1]]], a', b', by simp [goS, d_l_thing_b1, e, hsz], gd_lists d _ (by decide) (by decide) (by decide) (by decide)⟩
end K20
end Hf
end

section
set_option Elab.async false
set_option linter.all false
set_option maxRecDepth 100000
set_option maxHeartbeats 200000
/-! K20h: the plain law of k20: things, the whole. -/
namespace Hf
namespace K20
open P20
theorem ix_sh {L : List (List Nat × List Nat)} {i : Int} (h1 : 0 ≤ i) (h2 : i < L.length) : ∃ p ∈ L, atI (L.map shT) i = some (shT p) ∧ (i < 2 → p ∈ L.take 2) := by
  obtain ⟨j, rfl⟩ : ∃ j : Nat, i = j := ⟨i.toNat, by omega⟩
  have hj : j < L.length := by omega
  refine ⟨L[j], List.getElem_mem hj, ?_, fun h => ?_⟩
  · rw [atI_nat]; simp [hj]
  · have : (L.take 2)[j]? = some L[j] := by rw [List.getElem?_take]; simp [hj]; omega
    exact List.mem_of_getElem? this
theorem c_letters (d m : Nat) (hm : d + 5 ≤ m) (ih : ∀ d', d = d' + 1 → ThOk d') (fo : Bool) (x3 x4 x7 x8 : Slot) (w : List Nat) : ∀ (cs ds : List Nat) (xs : List T) (a b : Int) (x6 : Slot), ds.length + cs.length < 50 → A2 (RL d) ds xs → (∀ c ∈ cs, (c == 110 || c == 107 || isTh c || c == 105 || c == 109) = true ∧ (isTh c = true → d ≠ 0)) →
    ∃ ys a' b' x6', forLoop (fun _ => true) (goS pr (call pr m) (make pr m) (.n 6) d_l_thing_b1) (cs.map fun c => .str [c]) [.val (.ref 0), .val (.bl fo), .val (.int d), x3, x4, .own (.str w :: xs), x6, x7, x8] (bx a b) = .nx [.val (.ref 0), .val (.bl fo), .val (.int d), x3, x4, .own (.str w :: ys), x6', x7, x8] (bx a' b') ∧ A2 (RL d) (ds ++ cs) ys
  | [], ds, xs, a, b, x6, _, h, _ => ⟨xs, a, b, x6, rfl, by simpa using h⟩
  | c :: cs, ds, xs, a, b, x6, hl, h, hc => by
    have hlen := h.len
    simp only [List.length_cons] at hl
    obtain ⟨x, a1, b1, e, g⟩ := c_letter d m hm ih fo a b (.str w :: xs) (by simp; omega) x3 x4 x6 x7 x8 c (hc c (List.mem_cons_self ..)).1 (hc c (List.mem_cons_self ..)).2
    obtain ⟨ys, a', b', x6', e2, g2⟩ := c_letters d m hm ih fo x3 x4 x7 x8 w cs (ds ++ [c]) (xs ++ [x]) a1 b1 (.val (.str [c])) (by simp; omega) (h.snoc g) fun c' hc' => hc c' (List.mem_cons_of_mem _ hc')
    refine ⟨ys, a', b', x6', ?_, by simpa using g2⟩
    rw [List.map_cons, forS_nx e rfl]
    simpa using e2
theorem A2_fine {d : Nat} : ∀ {cs : List Nat} {xs : List T}, A2 (RL d) cs xs → fines xs = true ∧ T.depthAll xs ≤ 5 + d ∧ blks xs ≤ (cs.map (lw (WT (d - 1)))).sum + cs.length ∧ ∀ n, 5 + d ≤ n → A2 (fun c x => wr n (so c) x = true) cs xs
  | [], [], _ => ⟨rfl, by simp, by simp, fun _ _ => trivial⟩
  | c :: cs, x :: xs, h => by
    obtain ⟨h1, h2, h3, h4⟩ := A2_fine h.2
    have g := h.1
    refine ⟨by simp [g.fn, h1], ?_, ?_, fun n hn => ⟨g.wf n hn, h4 n hn⟩⟩
    · have := g.dp
      simp only [depth_cons]; omega
    · have := g.bk
      simp only [blks_cons, List.map_cons, List.sum_cons, List.length_cons]; omega
theorem sh_take (fo : Bool) : ∀ p ∈ (SH fo).take 2, p ∈ SH fo ∧ p.1.length ≤ 5 ∧ p.2.length ≤ 1 ∧ ∀ c ∈ p.2, c = 110 := by
  intro p hp
  refine ⟨List.mem_of_mem_take hp, ?_⟩
  cases fo <;> simp [SH] at hp <;> rcases hp with rfl | rfl <;> simp
theorem sh_short (fo : Bool) : ∀ p ∈ SH fo, p.2.length ≤ 5 := by
  intro p hp
  have : (SH fo).all (fun p => decide (p.2.length ≤ 5)) = true := by cases fo <;> decide
  simpa using List.all_eq_true.mp this p hp
theorem th_one (d : Nat) (ih : ∀ d', d = d' + 1 → ThOk d') : ThOk d := by
  intro m fo a b hm
  obtain ⟨m, rfl⟩ : ∃ k, m = k + 1 := ⟨m - 1, by omega⟩
  rw [call_of (d := d_l_thing) rfl rfl]
  have hln := sh_len fo
  obtain ⟨ln, el⟩ : ∃ ln, ln = (SH fo).length := ⟨_, rfl⟩
  rw [← el] at hln
  have hl2 : 2 ≤ ln ∧ ln < 100 := by cases fo <;> simp at hln <;> omega
  have c1 := c_shapes (m - 1) fo
  rw [show m - 1 + 1 = m by omega] at c1
  obtain ⟨r, a1, b1, ⟨h1, h2⟩, e1⟩ := c_draw (m - 1) (2 * (ln : Int)) (by omega) (by omega) a b
  rw [show m - 1 + 1 = m by omega] at e1
  have m1 : 0 ≤ r % ln := Int.emod_nonneg _ (by omega)
  have m2 : r % ln < ln := Int.emod_lt_of_pos _ (by omega)
  obtain ⟨p1, hp1, i1, _⟩ := ix_sh (L := SH fo) m1 (by omega)
  obtain ⟨r2, a2, b2, ⟨h3, h4⟩, e2⟩ := c_draw (m - 1) 2 (by decide) (by decide) a1 b1
  rw [show m - 1 + 1 = m by omega] at e2
  obtain ⟨p2, hp2, i2, t2⟩ := ix_sh (L := SH fo) h3 (by omega)
  have t2 := t2 h4
  obtain ⟨p0, hp0, i0, t0⟩ := ix_sh (L := SH fo) (i := 0) (by omega) (by omega)
  have t0 := t0 (by omega)
  -- the shape that is taken, by the first two tests
  have sB : ∃ p a' b', (p ∈ SH fo ∧ (d = 0 → p ∈ (SH fo).take 2)) ∧ ex pr (call pr m) (make pr m) (.ife (.or (.cmp .eq (.v 2) (.k (.int 0))) (.and (.not (.v 1)) (.cmp .gt (.v 4) (.k (.int 28))))) [.asg (.t [7, 8]) (.sub (.v 3) (.call 12 [(.v 0), (.k (.int 2))]))] []) [.val (.ref 0), .val (.bl fo), .val (.int d), .val (.lst ((SH fo).map shT)), .val (.int r), .no, .no, .val (.str p1.1), .val (.str p1.2)] (bx a1 b1) = .nx [.val (.ref 0), .val (.bl fo), .val (.int d), .val (.lst ((SH fo).map shT)), .val (.int r), .no, .no, .val (.str p.1), .val (.str p.2)] (bx a' b') := by
    by_cases hd : d = 0
    · subst hd
      exact ⟨p2, a2, b2, ⟨hp2, fun _ => t2⟩, by simp [e2, i2, shT]⟩
    · cases fo with
      | true => exact ⟨p1, a1, b1, ⟨hp1, fun h => absurd h hd⟩, by simp [hd]⟩
      | false =>
        by_cases hr : 28 < r
        · exact ⟨p2, a2, b2, ⟨hp2, fun _ => t2⟩, by simp [e2, i2, shT, hd, hr]⟩
        · exact ⟨p1, a1, b1, ⟨hp1, fun h => absurd h hd⟩, by simp [hd, hr]⟩
  obtain ⟨p, a3, b3, ⟨hp, hp'⟩, e3⟩ := sB
  obtain ⟨r4, a4, b4, ⟨h5, h6⟩, e4⟩ := c_draw (m - 1) 3 (by decide) (by decide) a3 b3
  rw [show m - 1 + 1 = m by omega] at e4
  have sC : ∃ q a' b', (q ∈ SH fo ∧ (d = 0 → q ∈ (SH fo).take 2)) ∧ ex pr (call pr m) (make pr m) (.ife (.and (.not (.v 1)) (.and (.cmp .eq (.v 7) (.k (.str [115, 116, 97, 114]))) (.cmp .gt (.call 12 [(.v 0), (.k (.int 3))]) (.k (.int 0))))) [.asg (.t [7, 8]) (.sub (.v 3) (.k (.int 0)))] []) [.val (.ref 0), .val (.bl fo), .val (.int d), .val (.lst ((SH fo).map shT)), .val (.int r), .no, .no, .val (.str p.1), .val (.str p.2)] (bx a3 b3) = .nx [.val (.ref 0), .val (.bl fo), .val (.int d), .val (.lst ((SH fo).map shT)), .val (.int r), .no, .no, .val (.str q.1), .val (.str q.2)] (bx a' b') := by
    cases fo with
    | true => exact ⟨p, a3, b3, ⟨hp, hp'⟩, by simp⟩
    | false =>
      by_cases hs : p.1 = [115, 116, 97, 114]
      · by_cases hr : 0 < r4
        · exact ⟨p0, a4, b4, ⟨hp0, fun _ => t0⟩, by simp [e4, i0, shT, hs, hr]⟩
        · exact ⟨p, a4, b4, ⟨hp, hp'⟩, by simp [e4, hs, hr]⟩
      · exact ⟨p, a3, b3, ⟨hp, hp'⟩, by simp [hs]⟩
  obtain ⟨q, a5, b5, ⟨hq, hq'⟩, e5⟩ := sC
  have ok := List.all_eq_true.mp (sh_ok fo) q hq
  simp only [shOk, Bool.and_eq_true] at ok
  obtain ⟨⟨_, ok2⟩, ok3⟩ := ok
  obtain ⟨ys, a6, b6, x6, e6, g6⟩ := c_letters d m (by omega) ih fo (.val (.lst ((SH fo).map shT))) (.val (.int r)) (.val (.str q.1)) (.val (.str q.2)) q.1 q.2 [] [] a5 b5 .no (by have := sh_short fo q hq; simp; omega) trivial fun c hc => ⟨List.all_eq_true.mp ok3 c hc, fun ht h0 => by
    have := (sh_take fo q (hq' h0)).2.2.2 c hc
    subst this
    cases ht⟩
  refine ⟨.tup (.str q.1 :: ys), a6, b6, ?_, ?_⟩
  · simp only [d_l_thing, startE]
    have el' : ((SH fo).length : Int) = ln := by rw [← el]
    rw [q_cons, show ex pr (call pr m) (make pr m) (.asg (.n 3) (.call 51 [.v 1])) _ (bx a b) = .nx [.val (.ref 0), .val (.bl fo), .val (.int d), .val (.lst ((SH fo).map shT)), .no, .no, .no, .no, .no] (bx a b) from by simp [c1], seq_nx]
    rw [q_cons, show ex pr (call pr m) (make pr m) (.asg (.n 4) (.call 12 [(.v 0), (.op .mul (.k (.int 2)) (.bi .len [(.v 3)]))])) [.val (.ref 0), .val (.bl fo), .val (.int d), .val (.lst ((SH fo).map shT)), .no, .no, .no, .no, .no] (bx a b) = .nx [.val (.ref 0), .val (.bl fo), .val (.int d), .val (.lst ((SH fo).map shT)), .val (.int r), .no, .no, .no, .no] (bx a1 b1) from by
      have em : Op2.ev .mul (.int 2) (.int ln) = some (.int (2 * ln)) := mul_int 2 ln (by omega) (by omega)
      have eb : ev pr (call pr m) (make pr m) [.val (.ref 0), .val (.bl fo), .val (.int d), .val (.lst ((SH fo).map shT)), .no, .no, .no, .no, .no] (.bi .len [(.v 3)]) (bx a b) = .ok (.int ln) (bx a b) := by simp [el']
      have ec : ev pr (call pr m) (make pr m) [.val (.ref 0), .val (.bl fo), .val (.int d), .val (.lst ((SH fo).map shT)), .no, .no, .no, .no, .no] (.op .mul (.k (.int 2)) (.bi .len [(.v 3)])) (bx a b) = .ok (.int (2 * ln)) (bx a b) := by rw [e_op, e_k, bnd_ok, eb, bnd_ok, em, of_some]
      rw [q_asg, e_call, e_cons, e_v, show ([Slot.val (T.ref 0), Slot.val (T.bl fo), Slot.val (T.int d), Slot.val (T.lst ((SH fo).map shT)), Slot.no, Slot.no, Slot.no, Slot.no, Slot.no] : Env)[0]? = some (.val (.ref 0)) from rfl, nameV_val, bnd_ok, e_cons, ec]
      simp [e1], seq_nx]
    rw [q_cons, show ex pr (call pr m) (make pr m) (.asg (.t [7, 8]) (.sub (.v 3) (.op .mod (.v 4) (.bi .len [(.v 3)])))) [.val (.ref 0), .val (.bl fo), .val (.int d), .val (.lst ((SH fo).map shT)), .val (.int r), .no, .no, .no, .no] (bx a1 b1) = .nx [.val (.ref 0), .val (.bl fo), .val (.int d), .val (.lst ((SH fo).map shT)), .val (.int r), .no, .no, .val (.str p1.1), .val (.str p1.2)] (bx a1 b1) from by simp [el', mod_int r ln (by omega), i1, shT], seq_nx]
    rw [q_cons, e3, seq_nx, q_cons, e5, seq_nx]
    simp
    rw [show (still (T.str q.2) (q.2.map fun c => T.str [c])) = fun _ => true from rfl, e6]
    simp
  · obtain ⟨f1, f2, f3, f4⟩ := A2_fine g6
    simp only [List.nil_append] at f3 f4
    refine ⟨by simp only [fine_tup, fines_cons, fine_str, f1, ok2, Bool.and_self], by simp only [depth_tup, depth_cons, depth_str]; omega, ?_, fun n hn => ?_⟩
    · simp only [blk_tup, blks_cons, blk_str]
      cases d with
      | zero =>
        obtain ⟨_, k1, k2, k3⟩ := sh_take fo q (hq' rfl)
        have : (q.2.map (lw (WT (0 - 1)))).sum ≤ 8 := by
          match h : q.2, k2 with
          | [], _ => simp
          | [c], _ =>
            have := k3 c (by rw [h]; simp)
            subst this
            simp [lw]
        simp only [WT]; omega
      | succ d =>
        have := sh_sum fo (WT d) (WT_ge d) q hq
        simp only [Nat.add_sub_cancel] at f3
        simp only [WT]; omega
    · obtain ⟨k, rfl⟩ : ∃ k, n = k + 1 := ⟨n - 1, by omega⟩
      exact wr_mk hq (f4 k (by omega))
theorem th_all : ∀ d, ThOk d
  | 0 => th_one 0 fun d' h => by omega
  | d + 1 => th_one (d + 1) fun d' h => by
    obtain rfl : d' = d := by omega
    exact th_all d'
end K20
end Hf
end

section
set_option Elab.async false
set_option linter.all false
set_option maxRecDepth 100000
set_option maxHeartbeats 200000
/-! K20i: the plain law of k20: what is told, what is broken. -/
namespace Hf
namespace K20
open P20
theorem joined_chars (s : List Nat) : joined (s.map fun c => T.str [c]) = some s := by
  induction s with
  | nil => rfl
  | cons c s ih => simp [joined, ih]
theorem c_read : ∀ (n : Nat) (t : T), t.data = true → t.depth < n → blk t ≤ 16777216 → ∀ S, call pr n 9 [t] S = .ok t S
  | n + 1, t, h, hd, hb, S => by
    rw [call_of (d := d_l_read) rfl rfl]
    cases t <;> try (simp [T.data] at h; done)
    case non => simp [d_l_read, startE]
    case bl b => cases b <;> simp [d_l_read, startE]
    case int i => simp [d_l_read, startE, Ty.ev, T.isK]
    case str s =>
      have e : compLoop (fun _ => true) (turn pr (call pr n) (make pr n) [.val (.str s), .no, .no] (.v 2) (.n 2)) (s.map fun c => T.str [c]) S = .ok (s.map fun c => T.str [c]) S := by
        refine compLoop_of rfl _ _ fun c _ => ?_
        simp [turn]
      simp only [blk_str] at hb
      simp [d_l_read, startE, Ty.ev, T.isK]
      rw [show (still (T.str s) (s.map fun c => T.str [c])) = fun _ => true from rfl, e]
      simp [joinV, joined_chars, sizeLim, hb]
    case tup xs =>
      have e : compLoop (fun _ => true) (turn pr (call pr n) (make pr n) [.val (.tup xs), .no, .no] (.call 9 [(.v 1)]) (.n 1)) xs S = .ok xs S := by
        have := compLoop_map (g := fun _ => true) (f := turn pr (call pr n) (make pr n) [.val (.tup xs), .no, .no] (.call 9 [(.v 1)]) (.n 1)) (S := S) rfl id (xs := xs) fun x hx => by
          simp only [data_tup, depth_tup, blk_tup] at h hd hb
          have i1 := c_read n x (dataAll_mem h hx) (by have := depth_mem hx; omega) (by have := blk_mem hx; omega) S
          simp [turn, i1]
        simpa using this
      simp [d_l_read, startE, Ty.ev, T.isK]
      rw [show (still (T.tup xs) xs) = fun _ => true from rfl, e]
      simp
    case lst xs =>
      have e : compLoop (fun _ => true) (turn pr (call pr n) (make pr n) [.val (.lst xs), .no, .no] (.call 9 [(.v 1)]) (.n 1)) xs S = .ok xs S := by
        have := compLoop_map (g := fun _ => true) (f := turn pr (call pr n) (make pr n) [.val (.lst xs), .no, .no] (.call 9 [(.v 1)]) (.n 1)) (S := S) rfl id (xs := xs) fun x hx => by
          simp only [data_lst, depth_lst, blk_lst] at h hd hb
          have i1 := c_read n x (dataAll_mem h hx) (by have := depth_mem hx; omega) (by have := blk_mem hx; omega) S
          simp [turn, i1]
        simpa using this
      simp [d_l_read, startE, Ty.ev, T.isK]
      rw [show (still (T.lst xs) xs) = fun _ => true from rfl, e]
      simp
theorem c_form (m : Nat) (b : Bool) (S : Store) : call pr (m + 1) 43 [.bl b] S = if b then .ok .non S else .exn 2 S := by
  rw [call_of (d := d_check_form) rfl rfl]
  cases b <;> simp [d_check_form, startE]
theorem words_tf : ((keysOf wTerm).all (fun w => (dlook (tbl wFormula) w).isNone) && (keysOf wFormula).all (fun w => (dlook (tbl wTerm) w).isNone)) = true := by decide +kernel
theorem tbl_eq {s : List Nat} (hs : isTF s = true) : dlook SK s = some (.dic (tbl s)) := by
  simp only [isTF, Bool.or_eq_true, beq_iff_eq] at hs
  rcases hs with rfl | rfl <;> rfl
/-- a word belongs to one table -/
theorem Th.one {n : Nat} {s : List Nat} {t : T} {w : List Nat} {ps : List T} (h : Th n s t w ps) (hs : isTF s = true) {s' : List Nat} (hs' : isTF s' = true) {sh : T} (e : dlook (tbl s') w = some sh) : s' = s ∧ sh = .tup (shp s w) := by
  have hm := h.key
  have wt := words_tf
  simp only [Bool.and_eq_true, List.all_eq_true] at wt
  obtain ⟨kvs, hk, hw⟩ := h.dl
  have hk2 := tbl_eq hs
  rw [hk] at hk2
  have : kvs = tbl s := by injection hk2 with q; injection q
  have hs0 := hs; have hs0' := hs'
  simp only [isTF, Bool.or_eq_true, beq_iff_eq] at hs hs'
  rcases hs with rfl | rfl <;> rcases hs' with rfl | rfl
  · refine ⟨rfl, ?_⟩
    rw [this, e] at hw
    exact Option.some.inj hw
  · have := wt.1 w hm
    rw [e] at this; cases this
  · have := wt.2 w hm
    rw [e] at this; cases this
  · refine ⟨rfl, ?_⟩
    rw [this, e] at hw
    exact Option.some.inj hw
theorem not_both {n : Nat} {t : T} (h : wr (n + 1) wFormula t = true) (k : Nat) : wr k wTerm t = false := by
  obtain ⟨w, ps, th⟩ := th_of rfl h
  obtain rfl := th.eq
  cases k with
  | zero => rfl
  | succ k =>
    simp only [wr, tbl_eq (s := wTerm) rfl]
    cases e : dlook (tbl wTerm) w with
    | none => rfl
    | some sh =>
      obtain ⟨e1, _⟩ := th.one rfl (s' := wTerm) rfl e
      cases e1
/-- put, where all is of the form -/
theorem c_put (fo : Bool) (t u : T) (x : List Nat) (m : Nat) (hm : 60 ≤ m) (hm' : m ≤ 100) (ht : ∀ n, 12 ≤ n → wr n (sortF fo) t = true) (htd : t.data = true) (htp : t.depth ≤ 20) (hx : isName (.str x) = true) (hu : ∀ n, 12 ≤ n → wr n wTerm u = true) (hud : u.data = true) (hup : u.depth ≤ 20) (S : Store) : call pr (m + 1) 50 [t, .str x, u] S = putR (pui 20 20 (sortF fo) t x u) S := by
  rw [call_of (d := d_put) rfl rfl]
  have w1 := c_written m wTerm t (by decide) htd (by omega) S
  have w2 := c_written m wFormula t (by decide) htd (by omega) S
  have w3 := c_written m wTerm u (by decide) hud (by omega) S
  have n1 := c_name (m - 1) (.str x) rfl S
  rw [show m - 1 + 1 = m by omega] at n1
  have f1 := c_form (m - 1)
  rw [show m - 1 + 1 = m by omega] at f1
  have hum := hu m (by omega)
  have htm := ht m (by omega)
  have pu := c_putin 20 u (hu 20 (by omega)) 20 (sortF fo) t x m (by cases fo <;> rfl) (ht 20 (by omega)) (by omega) (by omega) S
  rw [hum] at w3
  rw [hx] at n1
  have ht1 := f1 true S
  simp only [if_true] at ht1
  cases fo with
  | true =>
    have : wr m wTerm t = false := by
      obtain ⟨k, rfl⟩ : ∃ k, m = k + 1 := ⟨m - 1, by omega⟩
      exact not_both htm _
    rw [this] at w1
    have htm : wr m wFormula t = true := htm
    rw [htm] at w2
    simp [d_put, startE, w1, w2, w3, n1, ht1]
    have pu : call pr m 49 [t, .str wFormula, .str x, u] S = _ := pu
    rw [pu]
    cases pui 20 20 (sortF true) t x u <;> simp [putR]
  | false =>
    have htm : wr m wTerm t = true := htm
    rw [htm] at w1
    simp [d_put, startE, w1, w3, n1, ht1]
    have pu : call pr m 49 [t, .str wTerm, .str x, u] S = _ := pu
    rw [pu]
    cases pui 20 20 (sortF false) t x u <;> simp [putR]
/-- put, where the thing is of no form -/
theorem c_put_bad (t u x : T) (m : Nat) (hm : 60 ≤ m) (ht : ∀ n, wr n wTerm t = false ∧ wr n wFormula t = false) (htd : t.data = true) (htp : t.depth ≤ 30) (S : Store) : call pr (m + 1) 50 [t, x, u] S = .exn 2 S := by
  rw [call_of (d := d_put) rfl rfl]
  have w1 := c_written m wTerm t (by decide) htd (by omega) S
  have w2 := c_written m wFormula t (by decide) htd (by omega) S
  rw [(ht m).1] at w1
  rw [(ht m).2] at w2
  have f1 : call pr m 43 [.bl false] S = .exn 2 S := by
    have := c_form (m - 1) false S
    rw [show m - 1 + 1 = m by omega] at this
    simpa using this
  simp [d_put, startE, w1, w2, f1]
/-- put, where the term is of no form -/
theorem c_put_bad2 (fo : Bool) (t u : T) (x : List Nat) (m : Nat) (hm : 60 ≤ m) (ht : ∀ n, 12 ≤ n → wr n (sortF fo) t = true) (htd : t.data = true) (htp : t.depth ≤ 20) (hx : isName (.str x) = true) (hu : ∀ n, wr n wTerm u = false) (hud : u.data = true) (hup : u.depth ≤ 30) (S : Store) : call pr (m + 1) 50 [t, .str x, u] S = .exn 2 S := by
  rw [call_of (d := d_put) rfl rfl]
  have w1 := c_written m wTerm t (by decide) htd (by omega) S
  have w2 := c_written m wFormula t (by decide) htd (by omega) S
  have w3 := c_written m wTerm u (by decide) hud (by omega) S
  have n1 := c_name (m - 1) (.str x) rfl S
  rw [show m - 1 + 1 = m by omega] at n1
  have ht1 : call pr m 43 [.bl true] S = .ok .non S := by
    have := c_form (m - 1) true S
    rw [show m - 1 + 1 = m by omega] at this
    simpa using this
  have f1 : call pr m 43 [.bl false] S = .exn 2 S := by
    have := c_form (m - 1) false S
    rw [show m - 1 + 1 = m by omega] at this
    simpa using this
  have htm := ht m (by omega)
  rw [hu m] at w3
  rw [hx] at n1
  cases fo with
  | true =>
    have : wr m wTerm t = false := by
      obtain ⟨k, rfl⟩ : ∃ k, m = k + 1 := ⟨m - 1, by omega⟩
      exact not_both htm _
    rw [this] at w1
    have htm : wr m wFormula t = true := htm
    rw [htm] at w2
    simp [d_put, startE, w1, w2, w3, n1, ht1, f1]
  | false =>
    have htm : wr m wTerm t = true := htm
    rw [htm] at w1
    simp [d_put, startE, w1, w3, n1, ht1, f1]
/-! what is told -/
theorem told_exn (t u x : T) (m : Nat) (S : Store) (h : call pr m 50 [t, x, u] S = .exn 2 S) : call pr (m + 1) 59 [t, x, u] S = .ok (.tup [.int 1, .str [102, 111, 114, 109]]) S := by
  rw [call_of (d := d_l_told) rfl rfl]
  have e1 : pr.sub 2 2 = true := rfl
  have e2 : pr.sub 2 8 = false := rfl
  simp [d_l_told, startE, q_tryn2, h, e1, e2, SRes.drop]
theorem told_ref (t u x : T) (m : Nat) (S : Store) (h : call pr m 50 [t, x, u] S = .exn 8 S) : call pr (m + 1) 59 [t, x, u] S = .ok (.tup [.int 1, .str [114, 101, 102, 117, 115, 101, 100]]) S := by
  rw [call_of (d := d_l_told) rfl rfl]
  have e1 : pr.sub 8 2 = false := rfl
  have e2 : pr.sub 8 8 = true := rfl
  have e3 : pr.sub 8 0 = true := rfl
  simp [d_l_told, startE, q_tryn2, h, e1, e2, e3, SRes.drop]
theorem told_ok (t u x v : T) (m : Nat) (S : Store) (h : call pr m 50 [t, x, u] S = .ok v S) (h2 : call pr m 9 [v] S = .ok v S) : call pr (m + 1) 59 [t, x, u] S = .ok (.tup [.int 0, v]) S := by
  rw [call_of (d := d_l_told) rfl rfl]
  simp [d_l_told, startE, q_tryn2, h, h2]
end K20
end Hf
end

section
set_option Elab.async false
set_option linter.all false
set_option maxRecDepth 100000
set_option maxHeartbeats 200000
/-! K20j: the plain law of k20: what is broken. -/
namespace Hf
namespace K20
open P20
def NW (t : T) : Prop := ∀ k s, isTF s = true → wr k s t = false
theorem nw_not {t : T} (h : ∀ w ps, t ≠ .tup (.str w :: ps)) : NW t := by
  intro k s hs
  cases k with
  | zero => rfl
  | succ k =>
    simp only [wr, tbl_eq hs]
    try (split <;> first | rfl | exact absurd rfl (h _ _))
theorem nw_part {w : List Nat} {ps : List T} (h : ∀ s, isTF s = true → ∀ sh, dlook (tbl s) w = some (.tup sh) → sh.length = ps.length → ∃ (j : Nat) (z : List Nat) (x : T), sh[j]? = some (T.str z) ∧ ps[j]? = some x ∧ ∀ k, wr k z x = false) : NW (.tup (.str w :: ps)) := by
  intro k s hs
  cases k with
  | zero => rfl
  | succ k =>
    simp only [wr, tbl_eq hs]
    split <;> try rfl
    rename_i sh hsh
    by_cases hl : sh.length = ps.length
    · obtain ⟨j, z, x, h1, h2, h3⟩ := h s hs sh hsh hl
      cases q : (enumB (fun i p => match p, ps[i]? with
          | .str z, some x => wr k z x
          | _, _ => false) 0 sh).all id with
      | false => simp [q]
      | true =>
        rw [enumB_all] at q
        have := q j _ h1
        simp [h2, h3 k] at this
    · simp [hl]
theorem nw_word {w : List Nat} {ps : List T} (h1 : dlook (tbl wTerm) w = none) (h2 : dlook (tbl wFormula) w = none) : NW (.tup (.str w :: ps)) := nw_part fun s hs sh e => by
  simp only [isTF, Bool.or_eq_true, beq_iff_eq] at hs
  rcases hs with rfl | rfl
  · rw [h1] at e; cases e
  · rw [h2] at e; cases e
/-- a known word, with a part that is none -/
theorem nw_known {w : List Nat} {ps : List T} {s0 : List Nat} {sh0 : List T} (h0 : dlook (tbl s0) w = some (.tup sh0)) (h1 : ∀ s, isTF s = true → s ≠ s0 → dlook (tbl s) w = none) (j : Nat) (z : List Nat) (x : T) (e1 : sh0[j]? = some (T.str z)) (e2 : ps[j]? = some x) (e3 : ∀ k, wr k z x = false) : NW (.tup (.str w :: ps)) := nw_part fun s hs sh e hl => by
  by_cases q : s = s0
  · subst q
    rw [h0] at e; cases e
    exact ⟨j, z, x, e1, e2, e3⟩
  · rw [h1 s hs q] at e; cases e
theorem other_tf {s0 : List Nat} {P : List Nat → Prop} (h1 : s0 ≠ wTerm → P wTerm) (h2 : s0 ≠ wFormula → P wFormula) : ∀ s, isTF s = true → s ≠ s0 → P s := by
  intro s hs q
  simp only [isTF, Bool.or_eq_true, beq_iff_eq] at hs
  rcases hs with rfl | rfl
  · exact h1 fun e => q e.symm
  · exact h2 fun e => q e.symm
theorem wr_badname {x : T} (h : isName x = false) (k : Nat) : wr k wName x = false := by
  cases k with
  | zero => rfl
  | succ k =>
    have e : dlook SK wName = none := by rfl
    simpa [wr, e] using h
section
variable {n : Nat} {s : List Nat} {t : T} {w : List Nat} {ps : List T}
theorem Th.sub_shp (h : Th n s t w ps) {p : Nat × List Nat × Option Nat} (hp : p ∈ sbs s w) : (shp s w)[p.1 - 1]? = some (.str p.2.1) := by
  have r := h.row
  simp only [rowOk, Bool.and_eq_true, List.all_eq_true] at r
  obtain ⟨⟨⟨r1, r2⟩, r3⟩, r4⟩ := r
  have := r1 p hp
  simp only [Bool.and_eq_true, decide_eq_true_eq] at this
  obtain ⟨⟨⟨a1, a2⟩, a3⟩, a4⟩ := this
  split at a2 <;> try contradiction
  rename_i z hz
  simp only [beq_iff_eq] at a2
  rw [a2] at hz
  exact hz
theorem Th.nw_len (h : Th n s t w ps) (hs : isTF s = true) {qs : List T} (hl : qs.length ≠ ps.length) : NW (.tup (.str w :: qs)) := nw_part fun s' hs' sh e hl' => by
  obtain ⟨_, e2⟩ := h.one hs hs' e
  cases e2
  exact absurd (hl'.symm.trans h.len) hl
theorem Th.nw_at (h : Th n s t w ps) (hs : isTF s = true) {qs : List T} {p : Nat × List Nat × Option Nat} (hp : p ∈ sbs s w) {b : T} (hb : NW b) (hq : qs[p.1 - 1]? = some b) : NW (.tup (.str w :: qs)) := nw_part fun s' hs' sh e hl' => by
  obtain ⟨_, e2⟩ := h.one hs hs' e
  cases e2
  exact ⟨p.1 - 1, p.2.1, b, h.sub_shp hp, hq, fun k => hb k _ (h.sub hp).2.1⟩
end
theorem lens_ok : ((keysOf wTerm).all (fun w => decide ((shp wTerm w).length ≤ 5)) && (keysOf wFormula).all (fun w => decide ((shp wFormula w).length ≤ 5))) = true := by decide +kernel
theorem Th.short {n : Nat} {s : List Nat} {t : T} {w : List Nat} {ps : List T} (h : Th n s t w ps) (hs : isTF s = true) : ps.length ≤ 5 := by
  have := lens_ok
  simp only [Bool.and_eq_true, List.all_eq_true, decide_eq_true_eq] at this
  have hm := h.key
  rw [← h.len]
  simp only [isTF, Bool.or_eq_true, beq_iff_eq] at hs
  rcases hs with rfl | rfl
  · exact this.1 w hm
  · exact this.2 w hm
theorem cut_take (xs : List T) (i : Nat) (h : i ≤ xs.length) : T.cut (.tup xs) none (some (i : Int)) = some (.tup (xs.take i)) := by
  simp only [T.cut, cutL, sIx]
  have : ¬ (i : Int) < 0 := by omega
  simp only [this, if_false]
  simp
  try omega
theorem cut_drop (xs : List T) (i : Nat) (h : i ≤ xs.length) : T.cut (.tup xs) (some (i : Int)) none = some (.tup (xs.drop i)) := by
  simp only [T.cut, cutL, sIx]
  have : ¬ (i : Int) < 0 := by omega
  simp only [this, if_false]
  have e : min (i : Int).toNat xs.length = i := by simp; omega
  rw [e, List.take_of_length_le (by simp)]
theorem cut_last (xs : List T) (h : xs ≠ []) : T.cut (.tup xs) none (some (-1)) = some (.tup xs.dropLast) := by
  have : 0 < xs.length := List.length_pos_iff.mpr h
  simp only [T.cut, cutL, sIx]
  simp [List.dropLast_eq_take]
  try omega
def kinds7 : List T := [.tup [.str [111, 110, 101, 115]], .tup [.str [116, 111, 108, 100], .tup [.int 1]], .tup [.str [116, 111, 108, 100], .lst [.int 1], .tup []], .tup [.str [98, 111, 116, 104], .tup [.str [111, 110, 101]]], .tup [.str [115, 101, 116, 115], .tup [.str [115, 116, 97, 114]]], .lst [.str [111, 110, 101]], .tup [.str [116, 111, 108, 100], .tup [.str [120]], .tup []]]
theorem kinds_bad : ∀ x ∈ kinds7, (∀ k, wr k wKind x = false) ∧ x.data = true ∧ x.depth ≤ 3 := by
  intro x hx
  simp only [kinds7, List.mem_cons, List.not_mem_nil, or_false] at hx
  rcases hx with rfl | rfl | rfl | rfl | rfl | rfl | rfl
  · exact ⟨fun k => by cases k <;> rfl, by decide, by decide⟩
  · exact ⟨fun k => by cases k <;> rfl, by decide, by decide⟩
  · refine ⟨fun k => ?_, by decide, by decide⟩
    cases k with
    | zero => rfl
    | succ k =>
      rw [wr_told]
      have : wr k wNumbers (.lst [.int 1]) = false := by cases k <;> rfl
      rw [this]; rfl
  · exact ⟨fun k => by cases k <;> rfl, by decide, by decide⟩
  · refine ⟨fun k => ?_, by decide, by decide⟩
    cases k with
    | zero => rfl
    | succ k =>
      rw [wr_sets]
      have : wr k wKind (.tup [.str [115, 116, 97, 114]]) = false := by cases k <;> rfl
      rw [this]; rfl
  · exact ⟨fun k => by cases k <;> rfl, by decide, by decide⟩
  · refine ⟨fun k => ?_, by decide, by decide⟩
    cases k with
    | zero => rfl
    | succ k =>
      rw [wr_told]
      have : wr k wNumbers (.tup [.str [120]]) = false := by cases k <;> rfl
      rw [this]; rfl
def names7 : List T := [.str [], .str [88], .str [120, 49], .str [97, 98, 99, 100, 101, 102, 103, 104, 105], .str [97, 32, 98], .int 3, .tup [.str [120]]]
theorem names_bad : ∀ x ∈ names7, isName x = false ∧ x.data = true ∧ x.depth ≤ 1 := by
  intro x hx
  simp only [names7, List.mem_cons, List.not_mem_nil, or_false] at hx
  rcases hx with rfl | rfl | rfl | rfl | rfl | rfl | rfl <;> exact ⟨by decide, by decide, by decide⟩
def menu7 : List T := [.tup [], .int 3, .str [120], .tup [.str [120]], .tup [.int 3, .str [120]], .non, .tup [.str [78, 65, 77, 69], .str [120]]]
theorem menu_bad : ∀ x ∈ menu7, NW x ∧ x.data = true ∧ x.depth ≤ 1 := by
  intro x hx
  simp only [menu7, List.mem_cons, List.not_mem_nil, or_false] at hx
  rcases hx with rfl | rfl | rfl | rfl | rfl | rfl | rfl
  · exact ⟨nw_not (by intro w ps h; cases h), by decide, by decide⟩
  · exact ⟨nw_not (by intro w ps h; cases h), by decide, by decide⟩
  · exact ⟨nw_not (by intro w ps h; cases h), by decide, by decide⟩
  · exact ⟨nw_word rfl rfl, by decide, by decide⟩
  · exact ⟨nw_not (by intro w ps h; cases h), by decide, by decide⟩
  · exact ⟨nw_not (by intro w ps h; cases h), by decide, by decide⟩
  · exact ⟨nw_word rfl rfl, by decide, by decide⟩
theorem atI_mem {L : List T} {i : Int} (h1 : 0 ≤ i) (h2 : i < L.length) : ∃ x ∈ L, atI L i = some x := by
  obtain ⟨j, rfl⟩ : ∃ j : Nat, i = j := ⟨i.toNat, by omega⟩
  have hj : j < L.length := by omega
  exact ⟨L[j], List.getElem_mem hj, by rw [atI_nat]; simp [hj]⟩
def brk1 : Hf.S := .ife (.and (.cmp .gt (.bi .len [(.v 2)]) (.k (.int 0))) (.cmp .gt (.call 12 [(.v 0), (.k (.int 3))]) (.k (.int 0)))) [.asg (.n 7) (.sub (.sub (.v 2) (.call 12 [(.v 0), (.bi .len [(.v 2)])])) (.k (.int 0))), .ret (.op .add (.op .add (.sliceR (.v 1) (.v 7)) (.tup [(.call 58 [(.v 0), (.sub (.v 1) (.v 7))])])) (.sliceL (.v 1) (.op .add (.v 7) (.k (.int 1)))))] []
def brkR : List Hf.S := [.asg (.n 3) (.call 12 [(.v 0), (.k (.int 9))]), .ife (.cmp .eq (.v 3) (.k (.int 0))) [.ret (.lof (.v 1))] [], .ife (.cmp .eq (.v 3) (.k (.int 1))) [.ret (.op .add (.v 1) (.tup [(.tup [(.k (.str [115, 116, 97, 114]))])]))] [], .ife (.and (.cmp .eq (.v 3) (.k (.int 2))) (.cmp .gt (.bi .len [(.v 1)]) (.k (.int 1)))) [.ret (.sliceR (.v 1) (.neg (.k (.int 1))))] [], .ife (.cmp .eq (.v 3) (.k (.int 3))) [.ret (.op .add (.tup [(.k (.str [110, 97, 109, 101, 115]))]) (.sliceL (.v 1) (.k (.int 1))))] [], .ife (.cmp .eq (.v 3) (.k (.int 4))) [.ret (.sub (.disp [(.tup []), (.k (.int 3)), (.k (.str [120])), (.tup [(.k (.str [120]))]), (.tup [(.k (.int 3)), (.k (.str [120]))]), (.k (.non)), (.tup [(.k (.str [78, 65, 77, 69])), (.k (.str [120]))])]) (.call 12 [(.v 0), (.k (.int 7))]))] [], .asg (.n 4) (.disp [(.k (.str [])), (.k (.str [88])), (.k (.str [120, 49])), (.k (.str [97, 98, 99, 100, 101, 102, 103, 104, 105])), (.k (.str [97, 32, 98])), (.k (.int 3)), (.tup [(.k (.str [120]))])]), .asg (.n 5) (.sub (.v 4) (.call 12 [(.v 0), (.k (.int 7))])), .ife (.cmp .lt (.v 3) (.k (.int 7))) [.ife (.cmp .isin (.sub (.v 1) (.k (.int 0))) (.comp (.sub (.v 8) (.k (.int 0))) (.n 8) (.call 51 [(.k (.bl true))]))) [.ret (.tup [(.k (.str [97, 108, 108])), (.v 5), (.tup [(.k (.str [111, 110, 101]))]), (.v 1)])] [], .ret (.sub (.disp [(.tup [(.k (.str [116, 104, 101])), (.v 5), (.tup [(.k (.str [111, 110, 101]))]), (.tup [(.k (.str [116, 114, 117, 101]))])]), (.tup [(.k (.str [110, 97, 109, 101])), (.v 5)]), (.tup [(.k (.str [112, 97, 105, 114])), (.v 1), (.tup [(.k (.str [116, 114, 117, 101]))])])]) (.op .add (.op .sub (.v 3) (.k (.int 5))) (.call 12 [(.v 0), (.k (.int 2))])))] [], .asg (.n 6) (.sub (.disp [(.tup [(.k (.str [111, 110, 101, 115]))]), (.tup [(.k (.str [116, 111, 108, 100])), (.tup [(.k (.int 1))])]), (.tup [(.k (.str [116, 111, 108, 100])), (.disp [(.k (.int 1))]), (.tup [])]), (.tup [(.k (.str [98, 111, 116, 104])), (.tup [(.k (.str [111, 110, 101]))])]), (.tup [(.k (.str [115, 101, 116, 115])), (.tup [(.k (.str [115, 116, 97, 114]))])]), (.disp [(.k (.str [111, 110, 101]))]), (.tup [(.k (.str [116, 111, 108, 100])), (.tup [(.k (.str [120]))]), (.tup [])])]) (.call 12 [(.v 0), (.k (.int 7))])), .ife (.cmp .isin (.sub (.v 1) (.k (.int 0))) (.comp (.sub (.v 8) (.k (.int 0))) (.n 8) (.call 51 [(.k (.bl true))]))) [.ret (.tup [(.k (.str [115, 111, 109, 101])), (.k (.str [120])), (.v 6), (.v 1)])] [], .ret (.tup [(.k (.str [108, 101, 102, 116])), (.v 1), (.v 6)])]
theorem brk_body : d_l_broken.body = .asg (.n 2) (.call 55 [.v 1]) :: brk1 :: brkR := rfl
/-- of no form, small -/
structure Bd (D : Nat) (r : T) : Prop where
  da : r.data = true
  dp : r.depth ≤ D + 3
  nw : NW r
theorem c_words (m : Nat) (r : Env) (hr : 8 < r.length) (S : Store) : compLoop (still (.lst ((SH true).map shT)) ((SH true).map shT)) (turn pr (call pr m) (make pr m) r (.sub (.v 8) (.k (.int 0))) (.n 8)) ((SH true).map shT) S = .ok ((SH true).map fun p => .str p.1) S := by
  refine compLoop_of rfl _ _ fun p _ => ?_
  have e1 : ((r.set 8 Slot.no).set 8 (Slot.val (shT p)))[8]? = some (.val (shT p)) := by
    rw [List.getElem?_set_self (by simpa using hr)]
  simp [turn, e1, hr]
  simp [shT]
theorem data_strs' {α : Type} (f : α → List Nat) (L : List α) : T.dataAll (L.map fun p => .str (f p)) = true := dataAll_of fun x hx => by
  obtain ⟨y, _, rfl⟩ := List.mem_map.mp hx
  rfl
theorem c_brkR (D : Nat) (hD : 1 ≤ D) (m : Nat) {n : Nat} {s : List Nat} {w : List Nat} {ps : List T} (th : Th n s (.tup (.str w :: ps)) w ps) (hs : isTF s = true) (hd : T.data (.tup (.str w :: ps)) = true) (hdp : T.depth (.tup (.str w :: ps)) ≤ D) (x2 : Slot) (a b : Int) : ∃ r a' b', exs pr (call pr (m + 1)) (make pr (m + 1)) brkR [.val (.ref 0), .val (.tup (.str w :: ps)), x2, .no, .no, .no, .no, .no, .no] (bx a b) = .ret r (bx a' b') ∧ Bd D r := by
  obtain ⟨k, a1, b1, ⟨h1, h2⟩, e1⟩ := c_draw m 9 (by decide) (by decide) a b
  have hsh := th.short hs
  have hq : k = 0 ∨ k = 1 ∨ k = 2 ∨ k = 3 ∨ k = 4 ∨ k = 5 ∨ k = 6 ∨ k = 7 ∨ k = 8 := by omega
  have hps : T.dataAll ps = true := by simpa using hd
  have hpd : T.depthAll ps + 1 ≤ D := by simpa using hdp
  obtain ⟨j7, a2, b2, ⟨h3, h4⟩, e2⟩ := c_draw m 7 (by decide) (by decide) a1 b1
  obtain ⟨bad, hb, eb⟩ := atI_mem (L := names7) h3 h4
  obtain ⟨mn, hm, em⟩ := atI_mem (L := menu7) h3 h4
  obtain ⟨n1, n2, n3⟩ := names_bad bad hb
  obtain ⟨m1, m2, m3⟩ := menu_bad mn hm
  simp only [names7] at eb
  simp only [menu7] at em
  have cs := c_shapes m true
  have cw := fun r hr S => c_words (m + 1) r hr S
  obtain ⟨c, hc⟩ : ∃ c, inItems (.str w) ((SH true).map fun p => .str p.1) = some c := ⟨_, inItems_str _ _ (data_strs' _ _)⟩
  have hlook : ∀ S, look S bad = bad := fun S => look_data S n2
  obtain ⟨j8, a4, b4, ⟨h7, h8⟩, e4⟩ := c_draw m 7 (by decide) (by decide) a2 b2
  obtain ⟨kd, hk, ek⟩ := atI_mem (L := kinds7) h7 h8
  obtain ⟨k1, k2, k3⟩ := kinds_bad kd hk
  simp only [kinds7] at ek
  have atm3 : ∀ x y z : T, atI [x, y, z] (-3) = some x := fun _ _ _ => rfl
  have atm2 : ∀ x y z : T, atI [x, y, z] (-2) = some y := fun _ _ _ => rfl
  have bAll : Bd D (.tup [.str [97, 108, 108], bad, .tup [.str [111, 110, 101]], .tup (.str w :: ps)]) := ⟨by simp [n2, hps], by simp; omega, nw_known (s0 := wFormula) rfl (other_tf (fun _ => rfl) (fun h => absurd rfl h)) 0 wName bad rfl rfl (wr_badname n1)⟩
  have bThe : Bd D (.tup [.str [116, 104, 101], bad, .tup [.str [111, 110, 101]], .tup [.str [116, 114, 117, 101]]]) := ⟨by simp [n2], by simp; omega, nw_known (s0 := wTerm) rfl (other_tf (fun h => absurd rfl h) (fun _ => rfl)) 0 wName bad rfl rfl (wr_badname n1)⟩
  have bName : Bd D (.tup [.str [110, 97, 109, 101], bad]) := ⟨by simp [n2], by simp; omega, nw_known (s0 := wTerm) rfl (other_tf (fun h => absurd rfl h) (fun _ => rfl)) 0 wName bad rfl rfl (wr_badname n1)⟩
  have bPair : Bd D (.tup [.str [112, 97, 105, 114], .tup (.str w :: ps), .tup [.str [116, 114, 117, 101]]]) := ⟨by simp [hps], by simp; omega, nw_known (s0 := wTerm) rfl (other_tf (fun h => absurd rfl h) (fun _ => rfl)) 1 wTerm (.tup [.str [116, 114, 117, 101]]) rfl rfl (fun k => by cases k <;> rfl)⟩
  have bSome : Bd D (.tup [.str [115, 111, 109, 101], .str [120], kd, .tup (.str w :: ps)]) := ⟨by simp [k2, hps], by simp; omega, nw_known (s0 := wFormula) rfl (other_tf (fun _ => rfl) (fun h => absurd rfl h)) 1 wKind kd rfl rfl k1⟩
  have bLeft : Bd D (.tup [.str [108, 101, 102, 116], .tup (.str w :: ps), kd]) := ⟨by simp [k2, hps], by simp; omega, nw_known (s0 := wTerm) rfl (other_tf (fun h => absurd rfl h) (fun _ => rfl)) 1 wKind kd rfl rfl k1⟩
  rcases hq with rfl | rfl | rfl | rfl | rfl | rfl | rfl | rfl | rfl
  · exact ⟨.lst (.str w :: ps), a1, b1, by simp [brkR, e1], by simpa using hd, by simp; omega, nw_not (by intro w ps h; cases h)⟩
  · refine ⟨.tup (.str w :: (ps ++ [.tup [.str [115, 116, 97, 114]]])), a1, b1, ?_, ?_, ?_, th.nw_len hs (by simp)⟩
    · have : ps.length + 1 + 1 ≤ sizeLim := by unfold sizeLim; omega
      simp [brkR, e1, Op2.ev, this]
    · simp
      exact dataAll_of fun x hx => by
        rw [List.mem_append] at hx
        rcases hx with hx | hx
        · exact dataAll_mem hps hx
        · simp at hx; subst hx; rfl
    · simp
      have : T.depthAll (ps ++ [.tup [.str [115, 116, 97, 114]]]) ≤ D := depthAll_le fun x hx => by
        rw [List.mem_append] at hx
        rcases hx with hx | hx
        · have := depth_mem hx; omega
        · simp at hx; subst hx; simpa using hD
      omega
  · by_cases hl : ps = []
    · subst hl
      obtain ⟨j2, a3, b3, ⟨h5, h6⟩, e3⟩ := c_draw m 2 (by decide) (by decide) a2 b2
      cases c with
      | true => exact ⟨_, a2, b2, by simp [brkR, e1, e2, eb, cs, cw, hc], bAll⟩
      | false =>
        have q2 : j2 = 0 ∨ j2 = 1 := by omega
        rcases q2 with rfl | rfl
        · exact ⟨_, a3, b3, by simp [brkR, e1, e2, e3, eb, cs, cw, hc, atm3], bThe⟩
        · exact ⟨_, a3, b3, by simp [brkR, e1, e2, e3, eb, cs, cw, hc, atm2], bName⟩
    · have hpos : 0 < ps.length := List.length_pos_iff.mpr hl
      have hpos' : (1 : Int) < (ps.length : Int) + 1 := by omega
      have ct := cut_last (.str w :: ps) (by simp)
      refine ⟨.tup (.str w :: ps.dropLast), a1, b1, ?_, ?_, ?_, th.nw_len hs (by simp; omega)⟩
      · have e : (T.str w :: ps).dropLast = .str w :: ps.dropLast := List.dropLast_cons_of_ne_nil hl
        rw [e] at ct
        simp [brkR, e1, hpos', ct]
      · simp
        exact dataAll_of fun x hx => dataAll_mem hps ((List.dropLast_sublist _).subset hx)
      · simp
        have : T.depthAll ps.dropLast ≤ T.depthAll ps := depthAll_le fun x hx => depth_mem ((List.dropLast_sublist _).subset hx)
        omega
  · have cd := cut_drop (.str w :: ps) 1 (by simp)
    refine ⟨.tup (.str [110, 97, 109, 101, 115] :: ps), a1, b1, ?_, ?_, ?_, nw_word rfl rfl⟩
    · have : 1 + ps.length ≤ sizeLim := by unfold sizeLim; omega
      have cd : T.cut (.tup (.str w :: ps)) (some 1) none = some (.tup ps) := cd
      simp [brkR, e1, cd, Op2.ev, this]
    · simpa using hps
    · simp; omega
  · exact ⟨mn, a2, b2, by simp [brkR, e1, e2, em], m2, by omega, m1⟩
  · obtain ⟨j2, a3, b3, ⟨h5, h6⟩, e3⟩ := c_draw m 2 (by decide) (by decide) a2 b2
    cases c with
    | true => exact ⟨_, a2, b2, by simp [brkR, e1, e2, eb, cs, cw, hc], bAll⟩
    | false =>
      have q2 : j2 = 0 ∨ j2 = 1 := by omega
      rcases q2 with rfl | rfl
      · exact ⟨_, a3, b3, by simp [brkR, e1, e2, e3, eb, cs, cw, hc], bThe⟩
      · exact ⟨_, a3, b3, by simp [brkR, e1, e2, e3, eb, cs, cw, hc], bName⟩
  · obtain ⟨j2, a3, b3, ⟨h5, h6⟩, e3⟩ := c_draw m 2 (by decide) (by decide) a2 b2
    cases c with
    | true => exact ⟨_, a2, b2, by simp [brkR, e1, e2, eb, cs, cw, hc], bAll⟩
    | false =>
      have q2 : j2 = 0 ∨ j2 = 1 := by omega
      rcases q2 with rfl | rfl
      · exact ⟨_, a3, b3, by simp [brkR, e1, e2, e3, eb, cs, cw, hc], bName⟩
      · exact ⟨_, a3, b3, by simp [brkR, e1, e2, e3, eb, cs, cw, hc], bPair⟩
  · cases c with
    | true => exact ⟨_, a4, b4, by simp [brkR, e1, e2, e4, eb, ek, cs, cw, hc], bSome⟩
    | false => exact ⟨_, a4, b4, by simp [brkR, e1, e2, e4, eb, ek, cs, cw, hc], bLeft⟩
  · cases c with
    | true => exact ⟨_, a4, b4, by simp [brkR, e1, e2, e4, eb, ek, cs, cw, hc], bSome⟩
    | false => exact ⟨_, a4, b4, by simp [brkR, e1, e2, e4, eb, ek, cs, cw, hc], bLeft⟩
end K20
end Hf
end

section
set_option Elab.async false
set_option linter.all false
set_option maxRecDepth 100000
set_option maxHeartbeats 200000
/-! K20k: the plain law of k20: what is broken, the whole. -/
namespace Hf
namespace K20
open P20
theorem c_broken (D : Nat) : ∀ (n : Nat) (s : List Nat) (t : T) (m : Nat) (a b : Int) (hs : isTF s = true) (h : wr n s t = true) (hd : t.data = true) (D : Nat) (hD : 1 ≤ D) (hdp : t.depth ≤ D) (hm : n + 4 ≤ m), ∃ r a' b', call pr m 58 [.ref 0, t] (bx a b) = .ok r (bx a' b') ∧ Bd D r
  | 0, s, t, m, a, b, hs, h, hd, D, hD, hdp, hm => by simp [wr] at h
  | n + 1, s, t, m + 1, a, b, hs, h, hd, D, hD, hdp, hm => by
    obtain ⟨w, ps, th⟩ := th_of hs h
    obtain rfl := th.eq
    rw [call_of (d := d_l_broken) rfl rfl, brk_body]
    simp only [d_l_broken, startE]
    have cp := c_lparts (m - 1) th hs
    rw [show m - 1 + 1 = m by omega] at cp
    have hsh := th.short hs
    have hlp := (th.lp hs).1
    rw [q_cons, show ex pr (call pr m) (make pr m) (.asg (.n 2) (.call 55 [.v 1])) _ (bx a b) = .nx [.val (.ref 0), .val (.tup (.str w :: ps)), .val (.lst ((lps w).map (lpT ps))), .no, .no, .no, .no, .no, .no] (bx a b) from by simp [cp], seq_nx]
    obtain ⟨m, rfl⟩ : ∃ k, m = k + 1 := ⟨m - 1, by omega⟩
    have hps : T.dataAll ps = true := by simpa using hd
    have hpd : T.depthAll ps + 1 ≤ D := by simpa using hdp
    -- no spot is taken
    have skip : ∀ a1 b1, ex pr (call pr (m + 1)) (make pr (m + 1)) brk1 [.val (.ref 0), .val (.tup (.str w :: ps)), .val (.lst ((lps w).map (lpT ps))), .no, .no, .no, .no, .no, .no] (bx a b) = .nx [.val (.ref 0), .val (.tup (.str w :: ps)), .val (.lst ((lps w).map (lpT ps))), .no, .no, .no, .no, .no, .no] (bx a1 b1) → ∃ r a' b', (exs pr (call pr (m + 1)) (make pr (m + 1)) (brk1 :: brkR) [.val (.ref 0), .val (.tup (.str w :: ps)), .val (.lst ((lps w).map (lpT ps))), .no, .no, .no, .no, .no, .no] (bx a b)).fin = .ok r (bx a' b') ∧ Bd D r := by
      intro a1 b1 e
      obtain ⟨r, a', b', e2, g⟩ := c_brkR D hD m th hs hd hdp (.val (.lst ((lps w).map (lpT ps)))) a1 b1
      exact ⟨r, a', b', by rw [q_cons, e, seq_nx, e2]; rfl, g⟩
    by_cases hz : (lps w).length = 0
    · have hz' : lps w = [] := List.length_eq_zero_iff.mp hz
      exact skip a b (by simp [brk1, hz'])
    · have hz1 : (0 : Int) < (lps w).length := by omega
      have hz2 : 0 < (lps w).length := by omega
      obtain ⟨j, a1, b1, ⟨h1, h2⟩, e1⟩ := c_draw m 3 (by decide) (by decide) a b
      by_cases hj : 0 < j
      · have hll : (lps w).length < 100 := by
          rw [hlp, List.length_map]
          have h5 : ∀ L k, (ptsL k L).length ≤ L.length := by
            intro L
            induction L with
            | nil => intro k; simp [ptsL]
            | cons x L ih =>
              intro k
              have := ih (k + 1)
              cases x <;> simp only [ptsL] <;> try (simp only [List.length_cons]; omega)
              split <;> simp only [List.length_cons] <;> omega
          have h6 : (sbs s w).length ≤ (ptsL 0 (shp s w)).length := List.length_filterMap_le _ _
          have := h5 (shp s w) 0
          have := th.len
          omega
        obtain ⟨i, a2, b2, ⟨h3, h4⟩, e2⟩ := c_draw m ((lps w).length : Int) hz1 (by omega) a1 b1
        obtain ⟨i', rfl⟩ : ∃ k : Nat, i = k := ⟨i.toNat, by omega⟩
        have hi : i' < (lps w).length := by omega
        obtain ⟨p, hp, hpe⟩ : ∃ p ∈ sbs s w, (lps w)[i'] = (p.1, p.2.2) := by
          have : (lps w)[i'] ∈ (sbs s w).map fun p => (p.1, p.2.2) := by rw [← hlp]; exact List.getElem_mem hi
          obtain ⟨p, hp, e⟩ := List.mem_map.mp this
          exact ⟨p, hp, e.symm⟩
        obtain ⟨s1, s2, ⟨y, s3, s4⟩, s5⟩ := th.sub hp
        have hmem : y ∈ ps := List.mem_of_getElem? s3
        have hlt := (List.getElem?_eq_some_iff.mp s3).1
        have hy1 : 1 ≤ y.depth := by
          cases n with
          | zero => simp [wr] at s4
          | succ n =>
            obtain ⟨_, _, th'⟩ := th_of s2 s4
            rw [th'.eq]; simp
        have hdm := depth_mem hmem
        obtain ⟨r, a3, b3, e3, g⟩ := c_broken D n p.2.1 y (m + 1) a2 b2 s2 s4 (dataAll_mem hps hmem) (D - 1) (by omega) (by have := depth_mem hmem; omega) (by omega)
        have ei : atI (T.str w :: ps) (p.1 : Int) = some y := by
          rw [atI_nat]
          generalize p.1 = k at s1 s3
          obtain ⟨j, rfl⟩ : ∃ j, k = j + 1 := ⟨k - 1, by omega⟩
          simpa using s3
        have el : atI ((lps w).map (lpT ps)) (i' : Int) = some (lpT ps (p.1, p.2.2)) := by
          rw [atI_nat, List.getElem?_map, List.getElem?_eq_getElem hi, hpe]; rfl
        have c1 := cut_take (.str w :: ps) p.1 (by simp; omega)
        have c2 := cut_drop (.str w :: ps) (p.1 + 1) (by simp; omega)
        have c2 : T.cut (.tup (.str w :: ps)) (some ((p.1 : Int) + 1)) none = some (.tup ((T.str w :: ps).drop (p.1 + 1))) := c2
        obtain ⟨q, hq⟩ : ∃ q, p.1 = q + 1 := ⟨p.1 - 1, by omega⟩
        have et : (T.str w :: ps).take p.1 = .str w :: ps.take q := by rw [hq]; rfl
        have ed : (T.str w :: ps).drop (p.1 + 1) = ps.drop (q + 1) := by rw [hq]; rfl
        rw [et] at c1
        rw [ed] at c2
        have z1 : ∀ x : T, (T.str w :: ps.take q).length + [x].length ≤ sizeLim := fun x => by unfold sizeLim; simp; omega
        have z2 : ∀ x : T, ((T.str w :: ps.take q) ++ [x]).length + (ps.drop (q + 1)).length ≤ sizeLim := fun x => by unfold sizeLim; simp; omega
        have a1' : ∀ x : T, Op2.ev .add (.tup (T.str w :: ps.take q)) (.tup [x]) = some (.tup ((T.str w :: ps.take q) ++ [x])) := fun x => by simp only [Op2.ev]; rw [if_pos (z1 x)]
        have a2' : ∀ x : T, Op2.ev .add (.tup ((T.str w :: ps.take q) ++ [x])) (.tup (ps.drop (q + 1))) = some (.tup (((T.str w :: ps.take q) ++ [x]) ++ ps.drop (q + 1))) := fun x => by simp only [Op2.ev]; rw [if_pos (z2 x)]
        simp only [List.cons_append] at a1' a2'
        refine ⟨.tup (.str w :: (ps.take q ++ [r] ++ ps.drop (q + 1))), a3, b3, ?_, ?_, ?_, ?_⟩
        · simp [brk1, hz2, hz, e1, hj, e2, el, lpT, ei, e3, c1, c2, a1', a2']
        · simp
          exact dataAll_of fun x hx => by
            simp only [List.mem_append, List.mem_cons] at hx
            rcases hx with hx | hx | hx
            · exact dataAll_mem hps (List.mem_of_mem_take hx)
            · rw [hx]; exact g.da
            · exact dataAll_mem hps (List.mem_of_mem_drop hx)
        · simp
          have : T.depthAll (ps.take q ++ r :: ps.drop (q + 1)) ≤ D + 2 := depthAll_le fun x hx => by
            simp only [List.mem_append, List.mem_cons] at hx
            rcases hx with hx | hx | hx
            · have := depth_mem (List.mem_of_mem_take hx); omega
            · rw [hx]; have := g.dp; have := depth_mem hmem; omega
            · have := depth_mem (List.mem_of_mem_drop hx); omega
          omega
        · refine th.nw_at hs hp g.nw ?_
          have hlen : (ps.take q).length = q := by simp; omega
          rw [hq, List.append_assoc, Nat.add_sub_cancel, List.getElem?_append_right (by omega), hlen]
          simp
      · exact skip a1 b1 (by simp [brk1, hz2, hz, e1, hj])
end K20
end Hf
end

section
set_option Elab.async false
set_option linter.all false
set_option maxRecDepth 100000
set_option maxHeartbeats 200000
/-! K20l: the plain law of k20, whole. -/
namespace Hf
namespace K20
open P20
/-- what is put in stays small -/
structure Sm (du bu : Nat) (x y : T) : Prop where
  fn : fine y = true
  dp : y.depth ≤ x.depth + du
  bk : 7 * blk y ≤ blk x * (bu + 7)
theorem Sm.refl {du bu : Nat} {x : T} (h : fine x = true) : Sm du bu x x := ⟨h, by omega, by
  have : 7 * blk x = blk x * 7 := Nat.mul_comm ..
  rw [Nat.mul_add]; omega⟩
def Sms (du bu : Nat) : List T → List T → Prop
  | [], [] => True
  | x :: xs, y :: ys => Sm du bu x y ∧ Sms du bu xs ys
  | _, _ => False
theorem Sms.refl {du bu : Nat} : ∀ {xs : List T}, fines xs = true → Sms du bu xs xs
  | [], _ => trivial
  | x :: xs, h => by
    simp only [fines_cons, Bool.and_eq_true] at h
    exact ⟨.refl h.1, Sms.refl h.2⟩
theorem Sms.set {du bu : Nat} : ∀ {xs ys : List T} {i : Nat} {z x : T}, Sms du bu xs ys → xs[i]? = some x → Sm du bu x z → Sms du bu xs (ys.set i z)
  | [], [], i, z, x, _, e, _ => by simp at e
  | x :: xs, y :: ys, 0, z, x', h, e, r => by
    simp at e; subst e
    exact ⟨r, h.2⟩
  | x :: xs, y :: ys, i + 1, z, x', h, e, r => ⟨h.1, Sms.set h.2 (by simpa using e) r⟩
theorem Sms.all {du bu : Nat} : ∀ {xs ys : List T}, Sms du bu xs ys → fines ys = true ∧ T.depthAll ys ≤ T.depthAll xs + du ∧ 7 * blks ys ≤ blks xs * (bu + 7)
  | [], [], _ => ⟨rfl, by simp, by simp⟩
  | x :: xs, y :: ys, h => by
    obtain ⟨h1, h2, h3⟩ := Sms.all h.2
    have g := h.1
    refine ⟨by simp [g.fn, h1], ?_, ?_⟩
    · have := g.dp
      simp only [depth_cons]; omega
    · have := g.bk
      simp only [blks_cons, Nat.add_mul]; omega
theorem pui_small (k : Nat) (u : T) (hu : fine u = true) : ∀ (n : Nat) (s : List Nat) (t : T) (x : List Nat) (v : T), isTF s = true → wr n s t = true → fine t = true → pui k n s t x u = some v → Sm u.depth (blk u) t v
  | 0, s, t, x, v, hs, h, hf, e => by simp [wr] at h
  | n + 1, s, t, x, v, hs, h, hf, e => by
    obtain ⟨w, ps, th⟩ := th_of hs h
    obtain rfl := th.eq
    by_cases hw : w = wName
    · obtain ⟨_, q, rfl, hq⟩ := th.name hw
      subst hw
      simp only [pui, if_true] at e
      split at e
      · cases e
        refine ⟨hu, by simp, ?_⟩
        have : 1 ≤ q.length := by
          simp only [isName, Bool.and_eq_true, decide_eq_true_eq] at hq
          exact hq.1.1
        simp only [blk_tup, blks_cons, blks_nil, blk_str, List.length_cons, List.length_nil]
        have e2 : 7 * (blk u + 7) ≤ (0 + 1 + 1 + 1 + 1 + 1 + (q.length + 1 + 0)) * (blk u + 7) := Nat.mul_le_mul_right _ (by omega)
        omega
      · cases e
        exact .refl hf
    · simp only [pui, hw, if_false, Option.map_eq_some_iff] at e
      obtain ⟨vs, e, rfl⟩ := e
      have hf' : fines (.str w :: ps) = true := by simpa only [fine_tup] using hf
      have go : ∀ (L : List (Nat × List Nat × Option Nat)) (made : List T), (∀ p ∈ L, p ∈ sbs s w) → Sms u.depth (blk u) (.str w :: ps) made → puL k n (fun z y => pui k n z y x u) x u ps L made = some vs → Sms u.depth (blk u) (.str w :: ps) vs := by
        intro L
        induction L with
        | nil => intro made _ hm e; simp only [puL] at e; cases e; exact hm
        | cons p L ih =>
          intro made hL hm e
          have hLr : ∀ q ∈ L, q ∈ sbs s w := fun q hq => hL q (List.mem_cons_of_mem _ hq)
          obtain ⟨s1, s2, ⟨y, s3, s4⟩, s5⟩ := th.sub (hL p (List.mem_cons_self ..))
          have ey : ps.getD (p.1 - 1) .non = y := by simp [s3]
          rw [puL] at e
          split at e
          · split at e
            · cases e
            · split at e
              · cases e
              · rename_i z hz
                rw [ey] at hz
                refine ih _ hLr (hm.set (x := y) ?_ (pui_small k u hu n p.2.1 y x z s2 s4 ?_ hz)) e
                · generalize p.1 = i at s1 s3
                  obtain ⟨j, rfl⟩ : ∃ j, i = j + 1 := ⟨i - 1, by omega⟩
                  simpa using s3
                · simp only [fines_cons, Bool.and_eq_true] at hf'
                  exact fines_mem hf'.2 (List.mem_of_getElem? s3)
          · exact ih _ hLr hm e
      have g := (go _ _ (fun _ h => h) (.refl hf') e).all
      exact ⟨by simpa using g.1, by simp only [depth_tup]; omega, by simpa only [blk_tup] using g.2.2⟩
theorem nw_equal (u : T) (n : Nat) : wr n wTerm (.tup [.str [101, 113, 117, 97, 108], u, u]) = false := by
  cases n with
  | zero => rfl
  | succ n =>
    have e : dlook (tbl wTerm) [101, 113, 117, 97, 108] = none := by rfl
    simp [wr, tbl_eq (s := wTerm) rfl, e]
abbrev FORM : T := .tup [.int 1, .str [102, 111, 114, 109]]
theorem form_eq : T.eqs FORM FORM = some true := by decide
theorem wt4 : WT 4 = 9180 := by decide
theorem wt2 : WT 2 = 1008 := by decide
theorem one_turn (m : Nat) (hm : 62 ≤ m) (hm' : m ≤ 90) (i : Int) (a b : Int) (x0 x2 x3 x4 x5 x6 x7 x8 x9 x10 : Slot) : ∃ a' b' y3 y4 y5 y6 y7 y8 y9 y10, goS pr (call pr m) (make pr m) (.n 2) d_law_b1 (.int i) [x0, .val (.ref 0), x2, x3, x4, x5, x6, x7, x8, x9, x10] (bx a b) = .nx [x0, .val (.ref 0), .val (.int i), y3, y4, y5, y6, y7, y8, y9, y10] (bx a' b') := by
  obtain ⟨m, rfl⟩ : ∃ k, m = k + 2 := ⟨m - 2, by omega⟩
  obtain ⟨r, a1, b1, ⟨h1, h2⟩, e1⟩ := c_draw (m + 1) 2 (by decide) (by decide) a b
  obtain ⟨fo, hfo⟩ : ∃ fo : Bool, fo = decide (r = 0) := ⟨_, rfl⟩
  obtain ⟨t, a2, b2, e2, g2⟩ := th_all 4 (m + 2) fo a1 b1 (by omega)
  obtain ⟨u, a3, b3, e3, g3⟩ := th_all 2 (m + 2) false a2 b2 (by omega)
  obtain ⟨nm, a4, b4, e4, g4, q, rfl⟩ := c_lname m a3 b3
  have e2 : call pr (m + 2) 54 [.ref 0, .bl fo, .int 4] (bx a1 b1) = .ok t (bx a2 b2) := e2
  have e3 : call pr (m + 2) 54 [.ref 0, .bl false, .int 2] (bx a2 b2) = .ok u (bx a3 b3) := e3
  have htf : isTF (sortF fo) = true := by cases fo <;> rfl
  have hq : isName (.str q) = true := by
    have := g4.wf 1 (by omega)
    have e : dlook SK wName = none := by rfl
    simpa [wr, e] using this
  have tb := g2.bk
  have ub := g3.bk
  rw [wt4] at tb
  rw [wt2] at ub
  have td := g2.dp
  have ud := g3.dp
  have tda := fine_data t g2.fn
  have uda := fine_data u g3.fn
  have wt20 := g2.wf 20 (by omega)
  have wu20 : wr 20 wTerm u = true := g3.wf 20 (by omega)
  have gt : ∀ n, 12 ≤ n → wr n (sortF fo) t = true := fun n hn => g2.wf n (by omega)
  have gu : ∀ n, 12 ≤ n → wr n wTerm u = true := fun n hn => g3.wf n (by omega)
  -- the texts that are kept
  have er := repr_fine (t := .lst [t, u]) rfl (by simp [g2.fn, g3.fn]) (by simp; omega) (by simp; omega)
  -- what is due
  have ef := c_lfree 20 wTerm u (m + 2) rfl wu20 (by omega) (by omega)
  have ep := c_lput 20 u wu20 20 (sortF fo) t q (m + 2) htf wt20 (by omega) (by omega)
  have epp := c_put fo t u q m (by omega) (by omega) gt tda (by omega) hq gu uda (by omega)
  obtain ⟨kept, hkept⟩ : ∃ kept, kept = (T.lst [t, u]).show := ⟨_, rfl⟩
  rw [← hkept] at er
  -- what is told: a value and its text
  have told : ∃ v z, (∀ S, call pr (m + 2) 59 [t, .str q, u] S = .ok v S) ∧ Bi.ev .repr [v] = some (.str z) ∧ look (bx a4 b4) v = v ∧ ∃ d, d = putN (pui 20 20 (sortF fo) t q u) ∧ ∃ w, T.isK d .non = some w ∧ (w = true → Bi.ev .repr [T.tup [.int 1, .str [114, 101, 102, 117, 115, 101, 100]]] = some (.str z)) ∧ (w = false → Bi.ev .repr [T.tup [.int 0, d]] = some (.str z)) := by
    cases hp : pui 20 20 (sortF fo) t q u with
    | none =>
      rw [hp] at epp
      have er2 := repr_fine (t := .tup [.int 1, .str [114, 101, 102, 117, 115, 101, 100]]) rfl (by decide) (by decide) (by decide)
      refine ⟨_, _, fun S => told_ref t u (.str q) (m + 1) S (epp S), er2, rfl, _, rfl, true, rfl, fun _ => er2, fun h => (by cases h)⟩
    | some v =>
      rw [hp] at epp
      have sm := pui_small 20 u g3.fn 20 (sortF fo) t q v htf wt20 g2.fn hp
      have vd := fine_data v sm.fn
      have vdp := sm.dp
      have vb := sm.bk
      have hb : blk v ≤ 1400000 := by
        have : blk t * (blk u + 7) ≤ 9180 * 1015 := Nat.mul_le_mul tb (by omega)
        omega
      have er2 := repr_fine (t := .tup [.int 0, v]) rfl (by simp [sm.fn]) (by simp; omega) (by simp; omega)
      have hv : T.isK v .non = some false := by
        obtain ⟨us, hus⟩ : ∃ us, u = .tup us := by
          obtain ⟨w, ps, th⟩ := th_of (n := 19) rfl wu20
          exact ⟨_, th.eq⟩
        obtain ⟨vs, hvs⟩ := pui_tup 20 hus 20 (sortF fo) t q v hp
        rw [hvs]; rfl
      refine ⟨_, _, fun S => told_ok t u (.str q) v (m + 1) S (epp S) (c_read (m + 1) v vd (by omega) (by omega) S), er2, rfl, _, rfl, false, hv, fun h => (by cases h), fun _ => er2⟩
  obtain ⟨v, z, ev, ez, elv, d, hd, w, ew1, ew2, ew3⟩ := told
  rw [← hd] at ep
  -- what is broken
  obtain ⟨br, a5, b5, e5, k5⟩ := c_broken 0 20 (sortF fo) t (m + 2) a4 b4 htf wt20 tda 20 (by omega) (by omega) (by omega)
  obtain ⟨bu, a6, b6, e6, k6⟩ := c_broken 0 20 wTerm u (m + 2) a5 b5 rfl wu20 uda 20 (by omega) (by omega) (by omega)
  have f1 := fun S => told_exn br u (.str q) (m + 1) S (c_put_bad br u (.str q) m (by omega) (fun n => ⟨k5.nw n _ rfl, k5.nw n _ rfl⟩) k5.da (by have := k5.dp; omega) S)
  have f2 := fun S => told_exn t bu (.str q) (m + 1) S (c_put_bad2 fo t bu q m (by omega) gt tda (by omega) hq (fun n => k6.nw n _ rfl) k6.da (by have := k6.dp; omega) S)
  have f3 := fun S => told_exn t (.tup [.str [101, 113, 117, 97, 108], u, u]) (.str q) (m + 1) S (c_put_bad2 fo t _ q m (by omega) gt tda (by omega) hq (nw_equal u) (by simp [uda]) (by simp; omega) S)
  have lt := fun S => look_data S tda
  have lu := fun S => look_data S uda
  have fe : T.eqs (.tup [.int 1, .str [102, 111, 114, 109]]) (.tup [.int 1, .str [102, 111, 114, 109]]) = some true := form_eq
  refine ⟨a6, b6, .val (.bl fo), .val t, .val u, .val (.str q), .val (.str kept), .val d, .val v, .val br, ?_⟩
  cases w with
  | true =>
    have ew2 := ew2 rfl
    simp [goS, d_law_b1, e1, ← hfo, e2, e3, e4, lt, lu, er, ef, ep, ev, elv, ez, ew1, ew2, e5, f1, fe, e6, f2, f3]
  | false =>
    have ew3 := ew3 rfl
    simp [goS, d_law_b1, e1, ← hfo, e2, e3, e4, lt, lu, er, ef, ep, ev, elv, ez, ew1, ew3, e5, f1, fe, e6, f2, f3]
theorem c_cell (m : Nat) (ns : List Int) (S : Store) : ∃ c : Int, call pr (m + 1) 10 [.lst (ns.map .int), .int 0] S = .ok (.int c) S := by
  rw [call_of (d := d_l_cell) rfl rfl]
  cases ns with
  | nil => exact ⟨0, by simp [d_l_cell, startE]⟩
  | cons n ns =>
    have h : (0 : Int) < (ns.length : Int) + 1 := by omega
    exact ⟨n, by simp [d_l_cell, startE, h]⟩
theorem law : ∀ ns : List Int, ns.length ≤ 63 → ∃ S', call pr 70 26 [.lst (ns.map .int)] [] = .ok (.bl true) S' := by
  intro ns _
  rw [call_of (d := d_law) rfl rfl]
  obtain ⟨c, ec⟩ := c_cell 67 ns []
  have es : ∃ a b : Int, call pr 69 11 [.lst (ns.map .int), .int 0] [] = .ok (.ref 0) (bx a b) := by
    rw [call_of (d := d_l_stream) rfl rfl]
    have ec : call pr 68 10 [.lst (ns.map .int), .int 0] [] = .ok (.int c) [] := ec
    refine ⟨if c < 0 then -c else c, (if c < 0 then -c else c) % 1000003 + 7, ?_⟩
    simp [d_l_stream, startE, ec, mod_int _ 1000003 (by decide)]
    rfl
  obtain ⟨a, b, es⟩ := es
  have go : ∀ (is : List Int) (a b : Int) (x0 x2 x3 x4 x5 x6 x7 x8 x9 x10 : Slot), ∃ a' b' r, forLoop (fun _ => true) (goS pr (call pr 69) (make pr 69) (.n 2) d_law_b1) (is.map .int) [x0, .val (.ref 0), x2, x3, x4, x5, x6, x7, x8, x9, x10] (bx a b) = .nx r (bx a' b') := by
    intro is
    induction is with
    | nil => intro a b x0 x2 x3 x4 x5 x6 x7 x8 x9 x10; exact ⟨a, b, _, rfl⟩
    | cons i is ih =>
      intro a b x0 x2 x3 x4 x5 x6 x7 x8 x9 x10
      obtain ⟨a1, b1, y3, y4, y5, y6, y7, y8, y9, y10, e⟩ := one_turn 69 (by omega) (by omega) i a b x0 x2 x3 x4 x5 x6 x7 x8 x9 x10
      obtain ⟨a', b', r, e2⟩ := ih a1 b1 x0 (.val (.int i)) y3 y4 y5 y6 y7 y8 y9 y10
      exact ⟨a', b', r, by rw [List.map_cons, forS_nx e rfl, e2]⟩
  obtain ⟨a', b', r, e⟩ := go [0, 1, 2, 3] a b (.val (.lst (ns.map .int))) .no .no .no .no .no .no .no .no .no
  refine ⟨bx a' b', ?_⟩
  simp only [d_law, startE]
  rw [q_cons, show ex pr (call pr 69) (make pr 69) (.asg (.n 1) (.call 11 [(.v 0), (.k (.int 0))])) _ [] = .nx [.val (.lst (ns.map .int)), .val (.ref 0), .no, .no, .no, .no, .no, .no, .no, .no, .no] (bx a b) from by simp [es], seq_nx]
  have er : rangeL 0 4 = [(0 : Int), 1, 2, 3].map .int := rfl
  simp [er]
  rw [show (still (T.lst [T.int 0, T.int 1, T.int 2, T.int 3]) [T.int 0, T.int 1, T.int 2, T.int 3]) = fun _ => true from rfl]
  have e : forLoop (fun _ => true) (goS pr (call pr 69) (make pr 69) (.n 2) d_law_b1) [T.int 0, T.int 1, T.int 2, T.int 3] [.val (.lst (ns.map .int)), .val (.ref 0), .no, .no, .no, .no, .no, .no, .no, .no, .no] (bx a b) = .nx r (bx a' b') := e
  rw [e]
  simp
end K20
end Hf
end

open PySem PySem.W PyProof.Rows
theorem PySem.Challenge.cw_henceforth_k20_terms_put_in_holds : PySem.Challenge.rw_henceforth_k20_terms_put_in.Holds := by
  exact Hf.L20.holds_of 70 (by decide) fun ns h => Hf.K20.law ns h
