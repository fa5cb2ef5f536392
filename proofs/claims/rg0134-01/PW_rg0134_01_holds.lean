import PyProof.Rows.All
import Wide.All
import OpenK.AllK
import Wide.FinOn
import PySem.Challenge.RW_rg0134_01
set_option Elab.async false
set_option genSizeOfSpec false

section
namespace Mine

inductive N where
  | code | sign | text | is_folding | item | pattern | found | point | at_ | style | candidate | start | end_ | wanted | places | waiting | seen
  | width | index | last | further | spot | own | candidates | styles | size | texts | fits | place | some_ | parted | own_point | head | rests
  | is_parted | tail | deck | many | nth | one | other | most | has_lead | first | rows | row | own_place | begin_ | lain | due | reply
  | later_reply | self_ | script | cell
  deriving DecidableEq

inductive T where
  | none | bool (b : Bool) | int (i : Int) | str (s : List Nat)
  | list (xs : List T) | tup (xs : List T) | fit (p : T) | mrg (t p : T)
  | dict (ks : List Int) | iset (n : Nat) | rng (a b : Int) | deck

structure Dk where
  cells : List Int
  n : Int

inductive Ent where
  | val (t : T)
  | own (t : T)

noncomputable abbrev Rho := N → Option Ent
noncomputable def upd (r : Rho) (x : N) (e : Ent) : Rho := fun y => if y = x then some e else r y
noncomputable def frz (r : Rho) (x : N) : Rho := match r x with
  | some (.own (.list l)) => upd r x (.val (.list l))
  | _ => r
theorem upd_same (r : Rho) (x : N) (e : Ent) : upd r x e x = some e := if_pos rfl
theorem upd_ne (r : Rho) {x y : N} (e : Ent) (h : y ≠ x) : upd r x e y = r y := if_neg h

noncomputable abbrev M (α : Type) := Dk → Option (α × Dk)
noncomputable abbrev X := Rho → M T
noncomputable abbrev B := Rho → M Bool

/-- sizes -/
noncomputable def szL : Nat := 1048576

noncomputable def mkS (s : List Nat) : Option T := if s.length ≤ szL then some (.str s) else none
noncomputable def mkL (s : List T) : Option T := if s.length ≤ szL then some (.list s) else none

/-! primitive operations -/
noncomputable def tAdd : T → T → Option T
  | .int a, .int b => some (.int (a + b))
  | .str a, .str b => mkS (a ++ b)
  | .list a, .list b => mkL (a ++ b)
  | _, _ => none
noncomputable def tSub : T → T → Option T
  | .int a, .int b => some (.int (a - b))
  | _, _ => none
noncomputable def small (a : Int) : Bool := decide (-1073741824 < a ∧ a < 1073741824)
noncomputable def tMul : T → T → Option T
  | .int a, .int b => if small a && small b then some (.int (a * b)) else none
  | .str s, .int n => if 0 ≤ n ∧ n ≤ 64 ∧ s.length ≤ 64 then some (.str (List.flatten (List.replicate n.toNat s))) else none
  | _, _ => none
noncomputable def tMod : T → T → Option T
  | .int a, .int b => if b = 0 then none else some (.int (a.fmod b))
  | _, _ => none
noncomputable def tFdiv : T → T → Option T
  | .int a, .int b => if b = 0 ∨ !(small a && small b) then none else some (.int (a.fdiv b))
  | _, _ => none

noncomputable def ascii (s : List Nat) : Bool := s.all fun c => decide (c < 128)
noncomputable def tNeg : T → Option T
  | .int a => some (.int (-a))
  | _ => none
noncomputable def tNot : T → Option T
  | .bool a => some (.bool (!a))
  | _ => none
/-- plain data, compared by == -/
inductive P where
  | int (i : Int) | str (s : List Nat)
  deriving DecidableEq
noncomputable def tPlain : T → Option P
  | .int i => some (.int i)
  | .str s => if ascii s then some (.str s) else none
  | _ => none
noncomputable def plains : List T → Option (List P)
  | [] => some []
  | t :: r => match tPlain t, plains r with
    | some p, some ps => some (p :: ps)
    | _, _ => none
noncomputable def tEq : T → T → Option Bool
  | .int a, .int b => some (decide (a = b))
  | .str a, .str b => some (decide (a = b))
  | .int _, .str _ => some false
  | .list xs, .list ys => match ys with
    | [] => some xs.isEmpty
    | _ :: _ => match plains xs, plains ys with
      | some a, some b => if xs.length ≤ 1000 ∧ ys.length ≤ 1000 then some (decide (a = b)) else none
      | _, _ => none
  | .tup xs, .tup ys => match plains xs, plains ys with
    | some a, some b => if xs.length ≤ 1000 ∧ ys.length ≤ 1000 then some (decide (a = b)) else none
    | _, _ => none
  | _, _ => none

inductive Cm where | eq | ne | lt | le | gt | ge | in_ | isn | isnn
  deriving DecidableEq

noncomputable def tCmp : Cm → T → T → Option Bool
  | .eq, a, b => tEq a b
  | .ne, a, b => (tEq a b).map (!·)
  | .lt, .int a, .int b => some (decide (a < b))
  | .le, .int a, .int b => some (decide (a ≤ b))
  | .gt, .int a, .int b => some (decide (b < a))
  | .ge, .int a, .int b => some (decide (b ≤ a))
  | .in_, .int a, .dict ks => some (ks.contains a)
  | _, _, _ => none

noncomputable def fitI (i : Int) : Bool := decide (-4611686018427387904 < i ∧ i < 4611686018427387904)

/-- the place of an index, as Python reads it -/
noncomputable def pyIdx (i : Int) (n : Nat) : Option Nat :=
  if 0 ≤ i then (if i < n then some i.toNat else none)
  else (if -(n : Int) ≤ i then some (i + n).toNat else none)

noncomputable def tIdx : T → T → Option T
  | .list xs, .int i => if fitI i then (pyIdx i xs.length).bind (xs[·]?) else none
  | .str s, .int i => if fitI i then ((pyIdx i s.length).bind (s[·]?)).map fun c => .str [c] else none
  | _, _ => none

noncomputable def clampLo (i : Option Int) (n : Nat) : Nat := match i with
  | none => 0
  | some i => if i < 0 then (i + n).toNat else min i.toNat n
noncomputable def clampHi (i : Option Int) (n : Nat) : Nat := match i with
  | none => n
  | some i => if i < 0 then (i + n).toNat else min i.toNat n
noncomputable def pySl {α : Type} (s : List α) (lo hi : Option Int) : List α :=
  (s.drop (clampLo lo s.length)).take (clampHi hi s.length - clampLo lo s.length)

noncomputable def tAsInt : T → Option Int
  | .int i => some i
  | _ => none
noncomputable def tSl : T → Option Int → Option Int → Option T
  | .str s, lo, hi => if (lo.all fitI && hi.all fitI) then some (.str (pySl s lo hi)) else none
  | _, _, _ => none
noncomputable def tRev : T → Option T
  | .str s => some (.str s.reverse)
  | .list s => some (.list s.reverse)
  | _ => none

noncomputable def tLen : T → Option T
  | .str s => some (.int s.length)
  | .list s => some (.int s.length)
  | .iset n => some (.int n)
  | _ => none
noncomputable def tOrd : T → Option T
  | .str [c] => some (.int c)
  | _ => none
noncomputable def tChr : T → Option T
  | .int i => if 0 ≤ i ∧ i ≤ 1114111 then some (.str [i.toNat]) else none
  | _ => none
noncomputable def tInts : List T → Option (List Int)
  | [] => some []
  | .int i :: r => (tInts r).map (i :: ·)
  | _ :: _ => none
noncomputable def tStrs : List T → Option (List (List Nat))
  | [] => some []
  | .str i :: r => (tStrs r).map (i :: ·)
  | _ :: _ => none
noncomputable def minL : Int → List Int → Int
  | a, [] => a
  | a, b :: r => minL (if b < a then b else a) r
noncomputable def tMin : T → Option T
  | .list xs => match tInts xs with
    | some (a :: r) => some (.int (minL a r))
    | _ => none
  | _ => none
noncomputable def stepD (l : List Int) (k : Int) : List Int := if l.any (· == k) then l else l ++ [k]
noncomputable def tSet : T → Option T
  | .list xs => match tInts xs with
    | some l => if l.length ≤ 1000 then some (.iset (l.foldl stepD []).length) else none
    | _ => none
  | _ => none
noncomputable def tJoin : T → T → Option T
  | .str sep, .list xs => match tStrs xs with
    | some l => if sep.length ≤ 64 ∧ l.length ≤ 1000 ∧ l.all (fun s => decide (s.length ≤ 500)) then some (.str (List.flatten (l.intersperse sep))) else none
    | _ => none
  | _, _ => none
noncomputable def up1 (c : Nat) : Nat := if 97 ≤ c ∧ c ≤ 122 then c - 32 else c
noncomputable def lo1 (c : Nat) : Nat := if 65 ≤ c ∧ c ≤ 90 then c + 32 else c
noncomputable def tUpper : T → Option T
  | .str s => if ascii s ∧ s.length ≤ 1000 then some (.str (s.map up1)) else none
  | _ => none
noncomputable def tLower : T → Option T
  | .str s => if ascii s ∧ s.length ≤ 1000 then some (.str (s.map lo1)) else none
  | _ => none
noncomputable def tIsStr : T → Option T
  | .str _ => some (.bool true)
  | .int _ => some (.bool false)
  | _ => none
noncomputable def tRange1 : T → Option T
  | .int b => if fitI b ∧ b ≤ szL then some (.rng 0 b) else none
  | _ => none
noncomputable def tRange2 : T → T → Option T
  | .int a, .int b => if fitI a ∧ fitI b ∧ b - a ≤ szL then some (.rng a b) else none
  | _, _ => none
noncomputable def tRepr : T → Option T
  | .bool true => some (.str [84, 114, 117, 101])
  | _ => none
inductive At where | places | text | point
  deriving DecidableEq
noncomputable def tAttr : At → T → Option T
  | .places, .fit p => some p
  | .text, .mrg t _ => some t
  | .point, .mrg _ p => some p
  | _, _ => none
noncomputable def tTruth : T → Option Bool
  | .bool b => some b
  | .none => some false
  | .fit _ => some true
  | _ => none
noncomputable def tItems : T → Option (List T)
  | .list xs => some xs
  | .str s => some (s.map fun c => .str [c])
  | .rng a b => some ((List.range (b - a).toNat).map fun (k : Nat) => .int (a + k))
  | _ => none

/-! expressions -/
noncomputable def xVar (x : N) : X := fun r d => match r x with
  | some (.val t) => some (t, d)
  | _ => none
/-- a name that is only looked at -/
noncomputable def xPeek (x : N) : X := fun r d => match r x with
  | some (.val t) => some (t, d)
  | some (.own t) => some (t, d)
  | _ => none
noncomputable def xC (t : T) : X := fun _ d => some (t, d)
noncomputable def x1 (op : T → Option T) (f : X) : X := fun r d => match f r d with
  | some (a, d1) => match op a with
    | some c => some (c, d1)
    | none => none
  | none => none
noncomputable def x2 (op : T → T → Option T) (f g : X) : X := fun r d => match f r d with
  | some (a, d1) => match g r d1 with
    | some (b, d2) => match op a b with
      | some c => some (c, d2)
      | none => none
    | none => none
  | none => none
noncomputable def b2 (op : T → T → Option Bool) (f g : X) : B := fun r d => match f r d with
  | some (a, d1) => match g r d1 with
    | some (b, d2) => match op a b with
      | some c => some (c, d2)
      | none => none
    | none => none
  | none => none
noncomputable def bCmp (o : Cm) (f g : X) : B := b2 (tCmp o) f g
noncomputable def isN : T → Bool
  | .none => true
  | _ => false
/-- a is None -/
noncomputable def bIsNone (f : X) : B := fun r d => match f r d with
  | some (a, d1) => some (isN a, d1)
  | none => none
noncomputable def bNot (f : B) : B := fun r d => match f r d with
  | some (b, d1) => some (!b, d1)
  | none => none
/-- a o1 b o2 c -/
noncomputable def bChain (o1 o2 : Cm) (f g h : X) : B := fun r d => match f r d with
  | some (a, d1) => match g r d1 with
    | some (b, d2) => match tCmp o1 a b with
      | some true => match h r d2 with
        | some (c, d3) => match tCmp o2 b c with
          | some t => some (t, d3)
          | none => none
        | none => none
      | some false => some (false, d2)
      | none => none
    | none => none
  | none => none
noncomputable def bOf (f : X) : B := fun r d => match f r d with
  | some (a, d1) => match tTruth a with
    | some c => some (c, d1)
    | none => none
  | none => none
noncomputable def bAll : List B → B
  | [] => fun _ d => some (true, d)
  | f :: l => fun r d => match f r d with
    | some (true, d1) => bAll l r d1
    | some (false, d1) => some (false, d1)
    | none => none
noncomputable def bAny : List B → B
  | [] => fun _ d => some (false, d)
  | f :: l => fun r d => match f r d with
    | some (false, d1) => bAny l r d1
    | some (true, d1) => some (true, d1)
    | none => none
/-- a test as a value (a comparison, a not) -/
noncomputable def xB (f : B) : X := fun r d => match f r d with
  | some (b, d1) => some (.bool b, d1)
  | none => none
noncomputable def xIte (c : B) (f g : X) : X := fun r d => match c r d with
  | some (true, d1) => f r d1
  | some (false, d1) => g r d1
  | none => none
noncomputable def xs : List X → Rho → M (List T)
  | [], _, d => some ([], d)
  | f :: l, r, d => match f r d with
    | some (a, d1) => match xs l r d1 with
      | some (as, d2) => some (a :: as, d2)
      | none => none
    | none => none
noncomputable def xList (l : List X) : X := fun r d => match xs l r d with
  | some (as, d1) => some (.list as, d1)
  | none => none
noncomputable def xTup (l : List X) : X := fun r d => match xs l r d with
  | some (as, d1) => some (.tup as, d1)
  | none => none
noncomputable def xCall (sp : List T → M T) (l : List X) : X := fun r d => match xs l r d with
  | some (as, d1) => sp as d1
  | none => none
noncomputable def oInt (f : Option X) : Rho → M (Option Int) := fun r d => match f with
  | none => some (none, d)
  | some f => match f r d with
    | some (.int i, d1) => some (some i, d1)
    | _ => none
noncomputable def xSl (f : X) (lo hi : Option X) : X := fun r d => match f r d with
  | some (a, d1) => match oInt lo r d1 with
    | some (i, d2) => match oInt hi r d2 with
      | some (j, d3) => match tSl a i j with
        | some c => some (c, d3)
        | none => none
      | none => none
    | none => none
  | none => none
/-- deck[0], deck[1] -/
noncomputable def xDeck0 (x : N) : X := fun r d => match r x with
  | some (.val .deck) => some (.list (d.cells.map .int), d)
  | _ => none
noncomputable def xDeck1 (x : N) : X := fun r d => match r x with
  | some (.val .deck) => some (.int d.n, d)
  | _ => none
/-- the environment of a comprehension: its own name, and what it captures -/
noncomputable def inner (fv : List N) (x : N) (t : T) (r : Rho) : Rho := fun y =>
  if y = x then some (.val t) else if fv.contains y then (match r y with | some (.val t) => some (.val t) | _ => none) else none
noncomputable def compGo (fv : List N) (x : N) (c : B) (elt : X) (r : Rho) : List T → M (List T)
  | [], d => some ([], d)
  | t :: l, d => match c (inner fv x t r) d with
    | some (true, d1) => match elt (inner fv x t r) d1 with
      | some (a, d2) => match compGo fv x c elt r l d2 with
        | some (as, d3) => some (a :: as, d3)
        | none => none
      | none => none
    | some (false, d1) => compGo fv x c elt r l d1
    | none => none
noncomputable def xComp (fv : List N) (elt : X) (x : N) (it : X) (c : B) : X := fun r d => match it r d with
  | some (a, d1) => match tItems a with
    | some l => if l.length ≤ szL then (match compGo fv x c elt r l d1 with
      | some (as, d2) => some (.list as, d2)
      | none => none) else none
    | none => none
  | none => none

/-! statements -/
inductive Fl where
  | next | cont
  | ret (t : T)
noncomputable abbrev R3 := Option (Fl × Rho × Dk)
noncomputable abbrev SX := Rho → Dk → R3

noncomputable def seqs : List SX → SX
  | [] => fun r d => some (.next, r, d)
  | s :: l => fun r d => match s r d with
    | some (.next, r1, d1) => seqs l r1 d1
    | x => x
noncomputable def sAsg (x : N) (f : X) : SX := fun r d => match f r d with
  | some (t, d1) => some (.next, upd r x (.val t), d1)
  | none => none
/-- x = [..] : a list that is the name's own -/
noncomputable def sOwn (x : N) (l : List X) : SX := fun r d => match xs l r d with
  | some (as, d1) => some (.next, upd r x (.own (.list as)), d1)
  | none => none
/-- x = y + .. : y is let go first -/
noncomputable def sFrz (x : N) (s : SX) : SX := fun r d => s (frz r x) d
inductive Rhs where
  | v (f : X)
  | lst (l : List X)
  | dic
noncomputable def rhs1 : Rhs → Rho → M Ent
  | .v f => fun r d => match f r d with
    | some (t, d1) => some (.val t, d1)
    | none => none
  | .lst l => fun r d => match xs l r d with
    | some (as, d1) => some (.own (.list as), d1)
    | none => none
  | .dic => fun _ d => some (.own (.dict []), d)
noncomputable def rhss : List Rhs → Rho → M (List Ent)
  | [], _, d => some ([], d)
  | f :: l, r, d => match rhs1 f r d with
    | some (a, d1) => match rhss l r d1 with
      | some (as, d2) => some (a :: as, d2)
      | none => none
    | none => none
noncomputable def upds : Rho → List N → List Ent → Option Rho
  | r, [], [] => some r
  | r, x :: l, e :: es => upds (upd r x e) l es
  | _, _, _ => none
/-- a, b = e, f -/
noncomputable def sMulti (ns : List N) (l : List Rhs) : SX := fun r d => match rhss l r d with
  | some (es, d1) => match upds r ns es with
    | some r1 => some (.next, r1, d1)
    | none => none
  | none => none
/-- the same, stored from the right -/
noncomputable def sMultiR (ns : List N) (l : List Rhs) : SX := fun r d => match rhss l r d with
  | some (es, d1) => match upds r ns.reverse es.reverse with
    | some r1 => some (.next, r1, d1)
    | none => none
  | none => none
noncomputable def updv : Rho → List N → List T → Option Rho
  | r, [], [] => some r
  | r, x :: l, e :: es => updv (upd r x (.val e)) l es
  | _, _, _ => none
/-- a, b = t -/
noncomputable def sUnp (ns : List N) (f : X) : SX := fun r d => match f r d with
  | some (.tup ts, d1) => match updv r ns ts with
    | some r1 => some (.next, r1, d1)
    | none => none
  | _ => none
/-- a, b = w.pop() -/
noncomputable def sPop (ns : List N) (w : N) : SX := fun r d => match r w with
  | some (.own (.list l)) => match l.getLast? with
    | some (.tup ts) => match updv (upd r w (.own (.list l.dropLast))) ns ts with
      | some r1 => some (.next, r1, d)
      | none => none
    | _ => none
  | _ => none
noncomputable def sApp (x : N) (f : X) : SX := fun r d => match f r d with
  | some (t, d1) => match r x with
    | some (.own (.list l)) => if l.length < szL then some (.next, upd r x (.own (.list (l ++ [t]))), d1) else none
    | _ => none
  | none => none
/-- x.extend(e) -/
noncomputable def sExt (x : N) (f : X) : SX := fun r d => match f r d with
  | some (.list m, d1) => match r x with
    | some (.own (.list l)) => if l.length + m.length ≤ szL then some (.next, upd r x (.own (.list (l ++ m))), d1) else none
    | _ => none
  | _ => none
/-- x[-1] = e -/
noncomputable def sSetLast (x : N) (f : X) : SX := fun r d => match f r d with
  | some (t, d1) => match r x with
    | some (.own (.list l)) => match l with
      | [] => none
      | _ :: _ => some (.next, upd r x (.own (.list (l.dropLast ++ [t]))), d1)
    | _ => none
  | none => none
/-- x[k] = True -/
noncomputable def sSetKey (x : N) (f : X) : SX := fun r d => match f r d with
  | some (.int k, d1) => match r x with
    | some (.own (.dict l)) => if l.length < 1000 ∧ l.contains k = false then some (.next, upd r x (.own (.dict (l ++ [k]))), d1) else none
    | _ => none
  | _ => none
/-- deck[1] = e -/
noncomputable def sDeck1 (x : N) (f : X) : SX := fun r d => match f r d with
  | some (.int i, d1) => match r x with
    | some (.val .deck) => some (.next, r, { d1 with n := i })
    | _ => none
  | _ => none
noncomputable def sRet (f : X) : SX := fun r d => match f r d with
  | some (t, d1) => some (.ret t, r, d1)
  | none => none
/-- return x, x perhaps the name's own -/
noncomputable def sRetVar (x : N) : SX := fun r d => match r x with
  | some (.val t) => some (.ret t, r, d)
  | some (.own (.list l)) => some (.ret (.list l), r, d)
  | _ => none
noncomputable def sIf (c : B) (a b : SX) : SX := fun r d => match c r d with
  | some (true, d1) => a r d1
  | some (false, d1) => b r d1
  | none => none
noncomputable def sCont : SX := fun r d => some (.cont, r, d)
noncomputable def whGo (c : B) (a : SX) : Nat → SX
  | 0 => fun _ _ => none
  | n + 1 => fun r d => match c r d with
    | some (true, d1) => match a r d1 with
      | some (.next, r1, d2) => whGo c a n r1 d2
      | some (.cont, r1, d2) => whGo c a n r1 d2
      | some (.ret t, r1, d2) => some (.ret t, r1, d2)
      | none => none
    | some (false, d1) => some (.next, r, d1)
    | none => none
noncomputable def sWhile (c : B) (a : SX) : SX := whGo c a 100
noncomputable def forGo (x : N) (a : SX) : List T → SX
  | [] => fun r d => some (.next, r, d)
  | t :: l => fun r d => match a (upd r x (.val t)) d with
    | some (.next, r1, d2) => forGo x a l r1 d2
    | some (.cont, r1, d2) => forGo x a l r1 d2
    | some (.ret t, r1, d2) => some (.ret t, r1, d2)
    | none => none
noncomputable def sFor (x : N) (it : X) (a : SX) : SX := fun r d => match it r d with
  | some (v, d1) => match tItems v with
    | some l => if l.length ≤ szL then forGo x a l r d1 else none
    | none => none
  | none => none

/-! a function -/
noncomputable def bindR : List N → List T → Option Rho
  | [], [] => some fun _ => none
  | x :: l, t :: ts => (bindR l ts).map fun r => upd r x (.val t)
  | _, _ => none
/-- what a function gives back -/
noncomputable def fnGo (params : List N) (body : SX) : List T → M T := fun as d => match bindR params as with
  | some r => match body r d with
    | some (.ret t, _, d1) => some (t, d1)
    | _ => none
  | none => none

/-- code that is not reached -/
noncomputable def xFail : X := fun _ _ => none
noncomputable def sFail : SX := fun _ _ => none
/-- the two classes -/
noncomputable def sp_Fit : List T → M T := fun ts d => match ts with
  | [p] => some (.fit p, d)
  | _ => none
noncomputable def sp_Merged : List T → M T := fun ts d => match ts with
  | [t, p] => some (.mrg t p, d)
  | _ => none

end Mine
end

section
namespace Mine
noncomputable def f_downcase : SX := (seqs [(sIf (bAny [(bChain .le .le (xC (.int 65)) (xVar .code) (xC (.int 90))), (bAll [(bChain .le .le (xC (.int 192)) (xVar .code) (xC (.int 222))), (bCmp .ne (xPeek .code) (xC (.int 215)))])]) (seqs [(sRet (x2 tAdd (xVar .code) (xC (.int 32))))]) (seqs [])),
  (sRetVar .code)])
noncomputable def sp_downcase : List T → M T := fnGo [.code] f_downcase
noncomputable def f_is_gap : SX := (seqs [(sRet (x1 tNot (x1 tIsStr (xVar .item))))])
noncomputable def sp_is_gap : List T → M T := fnGo [.item] f_is_gap
noncomputable def f_gap_texts : SX := (seqs [(sOwn .found []),
  (sFor .place (x1 tRange1 (x1 tLen (xVar .candidates))) (seqs [(sAsg .places (x1 (tAttr .places) (x2 tIdx (xPeek .fits) (xVar .place)))),
  (sApp .found (xSl (x2 tIdx (xPeek .candidates) (xVar .place)) (some (x2 tIdx (xPeek .places) (xVar .index))) (some (x2 tIdx (xPeek .places) (x2 tAdd (xVar .index) (xC (.int 1)))))))])),
  (sRetVar .found)])
noncomputable def sp_gap_texts : List T → M T := fnGo [.pattern, .fits, .candidates, .index] f_gap_texts
noncomputable def f_law_draw : SX := (seqs [(sDeck1 .deck (x2 tAdd (xDeck1 .deck) (xC (.int 1)))),
  (sIf (bCmp .le (xDeck1 .deck) (x1 tLen (xDeck0 .deck))) (seqs [(sRet (x2 tMod (x2 tIdx (xDeck0 .deck) (x2 tSub (xDeck1 .deck) (xC (.int 1)))) (xVar .many)))]) (seqs [])),
  (sRet (x2 tMod (x2 tFdiv (x2 tAdd (x2 tAdd (x2 tMul (x2 tMul (xDeck1 .deck) (xDeck1 .deck)) (xC (.int 37))) (x2 tMul (xC (.int 11)) (xDeck1 .deck))) (x2 tMul (xC (.int 5)) (x1 tLen (xDeck0 .deck)))) (xC (.int 4))) (xVar .many)))])
noncomputable def sp_law_draw : List T → M T := fnGo [.deck, .many] f_law_draw
noncomputable def f_law_even : SX := (seqs [(sRet (xIte (bOf (xVar .is_folding)) (xB (bCmp .eq (x1 tLower (xVar .one)) (x1 tLower (xVar .other)))) (xB (bCmp .eq (xPeek .one) (xPeek .other)))))])
noncomputable def sp_law_even : List T → M T := fnGo [.one, .other, .is_folding] f_law_even
noncomputable def f_fold : SX := (seqs [(sRet (xCall sp_downcase [(xVar .code)]))])
noncomputable def sp_fold : List T → M T := fnGo [.code] f_fold
noncomputable def f_tidied : SX := (seqs [(sOwn .found []),
  (sFor .item (xVar .pattern) (seqs [(sIf (bAll [(bCmp .eq (xPeek .item) (xC (.str []))), (bNot (bOf (xCall sp_is_gap [(xVar .item)])))]) (seqs [sCont]) (seqs [])),
  (sIf (bAll [(bCmp .ne (xPeek .found) (xList [])), (bOf (xCall sp_is_gap [(xVar .item)])), (bOf (xCall sp_is_gap [(x2 tIdx (xPeek .found) (x1 tNeg (xC (.int 1))))]))]) (seqs [(sIf (bAny [(bCmp .eq (xPeek .item) (xC (.int 2))), (bCmp .eq (x2 tIdx (xPeek .found) (x1 tNeg (xC (.int 1)))) (xC (.int 1)))]) (seqs [(sSetLast .found (xVar .item))]) (seqs []))]) (seqs [(sIf (bAll [(bCmp .ne (xPeek .found) (xList [])), (bNot (bOf (xCall sp_is_gap [(xVar .item)]))), (bNot (bOf (xCall sp_is_gap [(x2 tIdx (xPeek .found) (x1 tNeg (xC (.int 1))))])))]) (seqs [(sSetLast .found (x2 tAdd (x2 tIdx (xPeek .found) (x1 tNeg (xC (.int 1)))) (xVar .item)))]) (seqs [(sApp .found (xVar .item))]))]))])),
  (sRetVar .found)])
noncomputable def sp_tidied : List T → M T := fnGo [.pattern] f_tidied
noncomputable def f_law_signs : SX := (seqs [(sRet (x2 tJoin (xC (.str [])) (xComp [.deck] (x2 tIdx (xC (.str [97, 98, 65])) (xCall sp_law_draw [(xVar .deck), (xC (.int 3))])) .nth (x1 tRange1 (xVar .many)) (bAll []))))])
noncomputable def sp_law_signs : List T → M T := fnGo [.deck, .many] f_law_signs
noncomputable def f_law_cased : SX := (seqs [(sIf (bNot (bOf (xVar .is_folding))) (seqs [(sRetVar .text)]) (seqs [])),
  (sRet (x2 tJoin (xC (.str [])) (xComp [.deck] (xIte (bCmp .eq (xCall sp_law_draw [(xVar .deck), (xC (.int 2))]) (xC (.int 1))) (x1 tUpper (xVar .sign)) (xVar .sign)) .sign (xVar .text) (bAll []))))])
noncomputable def sp_law_cased : List T → M T := fnGo [.deck, .text, .is_folding] f_law_cased
noncomputable def f_law_head : SX := (seqs [(sAsg .most (x1 tMin (xComp [] (x1 tLen (xVar .own)) .own (xVar .some_) (bAll [])))),
  (sFor .at_ (x1 tRange1 (xVar .most)) (seqs [(sIf (bCmp .ne (xComp [.is_folding, .at_, .some_] (xVar .own) .own (xVar .some_) (bNot (bOf (xCall sp_law_even [(x2 tIdx (xPeek .own) (xVar .at_)), (x2 tIdx (x2 tIdx (xPeek .some_) (xC (.int 0))) (xVar .at_)), (xVar .is_folding)])))) (xList [])) (seqs [(sRetVar .at_)]) (seqs []))])),
  (sRetVar .most)])
noncomputable def sp_law_head : List T → M T := fnGo [.some_, .is_folding] f_law_head
noncomputable def f_folded : SX := (seqs [(sRet (xIte (bOf (xVar .is_folding)) (x2 tJoin (xC (.str [])) (xComp [] (x1 tChr (xCall sp_fold [(x1 tOrd (xVar .sign))])) .sign (xVar .text) (bAll []))) (xVar .text)))])
noncomputable def sp_folded : List T → M T := fnGo [.text, .is_folding] f_folded
noncomputable def f_basic_pattern : SX := (seqs [(sRet (xCall sp_tidied [(xIte (bCmp .lt (xPeek .point) (x1 tLen (xVar .text))) (xList [(xSl (xPeek .text) none (some (xVar .point))), (xC (.int 2)), (xSl (xPeek .text) (some (xVar .point)) none), (xC (.int 0))]) (xList [(xVar .text), (xC (.int 2))]))]))])
noncomputable def sp_basic_pattern : List T → M T := fnGo [.text, .point] f_basic_pattern
noncomputable def f_substring_pattern : SX := (seqs [(sRet (xCall sp_tidied [(xList [(xC (.int 0)), (xSl (xPeek .text) none (some (xVar .point))), (xC (.int 2)), (xSl (xPeek .text) (some (xVar .point)) none), (xC (.int 0))])]))])
noncomputable def sp_substring_pattern : List T → M T := fnGo [.text, .point] f_substring_pattern
noncomputable def f_law_made : SX := (seqs [(sMultiR [.rows, .many] [(.lst []), (.v (x2 tAdd (xC (.int 1)) (xCall sp_law_draw [(xVar .deck), (xC (.int 4))])))]),
  (sFor .nth (x1 tRange1 (xVar .many)) (seqs [(sOwn .row [(xCall sp_law_signs [(xVar .deck), (xIte (bOf (xVar .has_lead)) (xCall sp_law_draw [(xVar .deck), (xC (.int 3))]) (xC (.int 0)))]), (xCall sp_law_cased [(xVar .deck), (xVar .first), (xVar .is_folding)])]),
  (sApp .row (xCall sp_law_signs [(xVar .deck), (xCall sp_law_draw [(xVar .deck), (xC (.int 4))])])),
  (sIf (bCmp .ne (xPeek .last) (xC (.str []))) (seqs [(sFrz .row (sAsg .row (x2 tAdd (xVar .row) (xList [(xCall sp_law_cased [(xVar .deck), (xVar .last), (xVar .is_folding)]), (xCall sp_law_signs [(xVar .deck), (xCall sp_law_draw [(xVar .deck), (xC (.int 3))])])]))))]) (seqs [])),
  (sFrz .row (sApp .rows (xVar .row)))])),
  (sRetVar .rows)])
noncomputable def sp_law_made : List T → M T := fnGo [.deck, .is_folding, .has_lead, .first, .last] f_law_made
noncomputable def f_law_common : SX := (seqs [(sMulti [.text, .own_place, .parted] [(.v (xC (.str []))), (.v (xC (.int 0))), (.v (x1 tNeg (xC (.int 1))))]),
  (sFor .index (x1 tRange1 (x1 tLen (x2 tIdx (xPeek .rows) (xC (.int 0))))) (seqs [(sAsg .some_ (xComp [.index] (x2 tIdx (xPeek .row) (xVar .index)) .row (xVar .rows) (bAll []))),
  (sIf (bCmp .eq (x2 tMod (xVar .index) (xC (.int 2))) (xC (.int 1))) (seqs [(sAsg .text (x2 tAdd (xVar .text) (x2 tIdx (xPeek .some_) (xC (.int 0))))),
  sCont]) (seqs [])),
  (sAsg .head (xCall sp_law_head [(xVar .some_), (xVar .is_folding)])),
  (sAsg .rests (xComp [.head] (xSl (xPeek .own) (some (xVar .head)) none) .own (xVar .some_) (bAll []))),
  (sAsg .text (x2 tAdd (xVar .text) (xSl (x2 tIdx (xPeek .some_) (xC (.int 0))) none (some (xVar .head))))),
  (sIf (bCmp .eq (xPeek .index) (xC (.int 2))) (seqs [(sAsg .own_place (x1 tLen (xVar .text)))]) (seqs [])),
  (sIf (bCmp .ne (xComp [] (xVar .own) .own (xVar .rests) (bCmp .ne (xPeek .own) (xC (.str [])))) (xList [])) (seqs [(sAsg .parted (xIte (bCmp .lt (xPeek .parted) (xC (.int 0))) (x1 tLen (xVar .text)) (xVar .parted))),
  (sAsg .tail (xIte (bCmp .lt (xPeek .index) (x2 tSub (x1 tLen (x2 tIdx (xPeek .rows) (xC (.int 0)))) (xC (.int 1)))) (xCall sp_law_head [(xComp [] (x1 tRev (xVar .own)) .own (xVar .rests) (bAll [])), (xVar .is_folding)]) (xC (.int 0)))),
  (sAsg .text (x2 tAdd (xVar .text) (xSl (x2 tIdx (xPeek .rests) (xC (.int 0))) (some (x2 tSub (x1 tLen (x2 tIdx (xPeek .rests) (xC (.int 0)))) (xVar .tail))) none)))]) (seqs []))])),
  (sRet (xTup [(xVar .text), (xIte (bCmp .ge (xPeek .parted) (xC (.int 0))) (xVar .parted) (xVar .own_place))]))])
noncomputable def sp_law_common : List T → M T := fnGo [.rows, .is_folding] f_law_common
noncomputable def f_pattern_of : SX := (seqs [(sIf (bCmp .eq (xPeek .style) (xC (.str [98, 97, 115, 105, 99]))) (seqs [(sRet (xCall sp_basic_pattern [(xVar .text), (xVar .point)]))]) (seqs [])),
  (sIf (bCmp .eq (xPeek .style) (xC (.str [115, 117, 98, 115, 116, 114, 105, 110, 103]))) (seqs [(sRet (xCall sp_substring_pattern [(xVar .text), (xVar .point)]))]) (seqs [])),
  (sIf (bCmp .eq (xPeek .style) (xC (.str [112, 97, 114, 116, 105, 97, 108, 45, 99, 111, 109, 112, 108, 101, 116, 105, 111, 110]))) (seqs [(sRet xFail)]) (seqs [])),
  (sIf (bCmp .eq (xPeek .style) (xC (.str [105, 110, 105, 116, 105, 97, 108, 115]))) (seqs [(sRet xFail)]) (seqs [])),
  (sIf (bCmp .eq (xPeek .style) (xC (.str [102, 108, 101, 120]))) (seqs [(sRet xFail)]) (seqs [])),
  (sRet (xC .none))])
noncomputable def sp_pattern_of : List T → M T := fnGo [.style, .text, .point] f_pattern_of
noncomputable def f_found_from : SX := (seqs [(sAsg .wanted (xCall sp_folded [(xVar .text), (xVar .is_folding)])),
  (sFor .at_ (x2 tRange2 (xVar .start) (x2 tAdd (x2 tSub (xVar .end_) (x1 tLen (xVar .text))) (xC (.int 1)))) (seqs [(sIf (bCmp .eq (xCall sp_folded [(xSl (xPeek .candidate) (some (xVar .at_)) (some (x2 tAdd (xVar .at_) (x1 tLen (xVar .text))))), (xVar .is_folding)]) (xPeek .wanted)) (seqs [(sRetVar .at_)]) (seqs []))])),
  (sRet (x1 tNeg (xC (.int 1))))])
noncomputable def sp_found_from : List T → M T := fnGo [.text, .candidate, .start, .end_, .is_folding] f_found_from
noncomputable def f_common_head : SX := (seqs [(sAsg .size (x1 tMin (xComp [] (x1 tLen (xVar .own)) .own (xVar .texts) (bAll [])))),
  (sAsg .at_ (xC (.int 0))),
  (sWhile (bAll [(bCmp .lt (xPeek .at_) (xPeek .size)), (bCmp .eq (x1 tLen (x1 tSet (xComp [.is_folding, .at_] (x1 tOrd (x2 tIdx (xCall sp_folded [(x2 tIdx (xPeek .own) (xVar .at_)), (xVar .is_folding)]) (xC (.int 0)))) .own (xVar .texts) (bAll [])))) (xC (.int 1)))]) (seqs [(sAsg .at_ (x2 tAdd (xVar .at_) (xC (.int 1))))])),
  (sRetVar .at_)])
noncomputable def sp_common_head : List T → M T := fnGo [.texts, .is_folding] f_common_head
noncomputable def f_fit_of : SX := (seqs [(sMultiR [.waiting, .seen, .width] [(.lst [(xTup [(xC (.int 0)), (xC (.int 0)), (xList [])])]), .dic, (.v (x2 tAdd (x1 tLen (xVar .candidate)) (xC (.int 1))))]),
  (sWhile (bCmp .ne (xPeek .waiting) (xList [])) (seqs [(sPop [.index, .at_, .places] .waiting),
  (sIf (bCmp .in_ (x2 tAdd (x2 tMul (xVar .index) (xVar .width)) (xVar .at_)) (xPeek .seen)) (seqs [sCont]) (seqs [])),
  (sSetKey .seen (x2 tAdd (x2 tMul (xVar .index) (xVar .width)) (xVar .at_))),
  (sIf (bCmp .eq (xPeek .index) (x1 tLen (xVar .pattern))) (seqs [(sIf (bCmp .eq (xPeek .at_) (x1 tLen (xVar .candidate))) (seqs [(sRet (xCall sp_Fit [(x2 tAdd (xVar .places) (xList [(xVar .at_)]))]))]) (seqs [])),
  sCont]) (seqs [])),
  (sAsg .item (x2 tIdx (xPeek .pattern) (xVar .index))),
  (sIf (bNot (bOf (xCall sp_is_gap [(xVar .item)]))) (seqs [(sIf (bCmp .eq (xCall sp_folded [(xSl (xPeek .candidate) (some (xVar .at_)) (some (x2 tAdd (xVar .at_) (x1 tLen (xVar .item))))), (xVar .is_folding)]) (xCall sp_folded [(xVar .item), (xVar .is_folding)])) (seqs [(sApp .waiting (xTup [(x2 tAdd (xVar .index) (xC (.int 1))), (x2 tAdd (xVar .at_) (x1 tLen (xVar .item))), (x2 tAdd (xVar .places) (xList [(xVar .at_)]))]))]) (seqs [])),
  sCont]) (seqs [])),
  (sAsg .last (xIte (bCmp .eq (xPeek .item) (xC (.int 1))) xFail (x1 tLen (xVar .candidate)))),
  (sIf (bCmp .eq (xPeek .index) (x2 tSub (x1 tLen (xVar .pattern)) (xC (.int 1)))) (seqs [(sIf (bCmp .eq (xPeek .last) (x1 tLen (xVar .candidate))) (seqs [(sApp .waiting (xTup [(x2 tAdd (xVar .index) (xC (.int 1))), (xVar .last), (x2 tAdd (xVar .places) (xList [(xVar .at_)]))]))]) (seqs [])),
  sCont]) (seqs [])),
  (sAsg .text (x2 tIdx (xPeek .pattern) (x2 tAdd (xVar .index) (xC (.int 1))))),
  (sOwn .further []),
  (sAsg .spot (xCall sp_found_from [(xVar .text), (xVar .candidate), (xVar .at_), (x2 tAdd (xVar .last) (x1 tLen (xVar .text))), (xVar .is_folding)])),
  (sWhile (bAll [(bCmp .ge (xPeek .spot) (xC (.int 0))), (bCmp .le (xPeek .spot) (xPeek .last))]) (seqs [(sApp .further (xTup [(x2 tAdd (xVar .index) (xC (.int 1))), (xVar .spot), (x2 tAdd (xVar .places) (xList [(xVar .at_)]))])),
  (sAsg .spot (xCall sp_found_from [(xVar .text), (xVar .candidate), (x2 tAdd (xVar .spot) (xC (.int 1))), (x2 tAdd (xVar .last) (x1 tLen (xVar .text))), (xVar .is_folding)]))])),
  (sFrz .further (sExt .waiting (x1 tRev (xVar .further))))])),
  (sRet (xC .none))])
noncomputable def sp_fit_of : List T → M T := fnGo [.pattern, .candidate, .is_folding] f_fit_of
noncomputable def f_common_tail : SX := (seqs [(sRet (xCall sp_common_head [(xComp [] (x1 tRev (xVar .own)) .own (xVar .texts) (bAll [])), (xVar .is_folding)]))])
noncomputable def sp_common_tail : List T → M T := fnGo [.texts, .is_folding] f_common_tail
noncomputable def f_fitting : SX := (seqs [(sRet (xComp [.pattern, .is_folding] (xVar .own) .own (xVar .candidates) (bNot (bIsNone (xCall sp_fit_of [(xVar .pattern), (xVar .own), (xVar .is_folding)])))))])
noncomputable def sp_fitting : List T → M T := fnGo [.pattern, .candidates, .is_folding] f_fitting
noncomputable def f_merged : SX := (seqs [(sAsg .fits (xComp [.pattern, .is_folding] (xCall sp_fit_of [(xVar .pattern), (xVar .own), (xVar .is_folding)]) .own (xVar .candidates) (bAll []))),
  (sMulti [.text, .parted, .own_point] [(.v (xC (.str []))), (.v (x1 tNeg (xC (.int 1)))), (.v (x1 tNeg (xC (.int 1))))]),
  (sFor .index (x1 tRange1 (x1 tLen (xVar .pattern))) (seqs [(sAsg .some_ (xCall sp_gap_texts [(xVar .pattern), (xVar .fits), (xVar .candidates), (xVar .index)])),
  (sIf (bNot (bOf (xCall sp_is_gap [(x2 tIdx (xPeek .pattern) (xVar .index))]))) (seqs [(sAsg .text (x2 tAdd (xVar .text) (x2 tIdx (xPeek .some_) (xC (.int 0))))),
  sCont]) (seqs [])),
  (sAsg .head (xCall sp_common_head [(xVar .some_), (xVar .is_folding)])),
  (sAsg .text (x2 tAdd (xVar .text) (xSl (x2 tIdx (xPeek .some_) (xC (.int 0))) none (some (xVar .head))))),
  (sAsg .rests (xComp [.head] (xSl (xPeek .own) (some (xVar .head)) none) .own (xVar .some_) (bAll []))),
  (sAsg .is_parted (xB (bCmp .ne (xComp [] (xC (.int 1)) .own (xVar .rests) (bCmp .ne (xPeek .own) (xC (.str [])))) (xList [])))),
  (sIf (bAll [(bOf (xVar .is_parted)), (bCmp .lt (xPeek .parted) (xC (.int 0)))]) (seqs [(sAsg .parted (x1 tLen (xVar .text)))]) (seqs [])),
  (sIf (bCmp .eq (x2 tIdx (xPeek .pattern) (xVar .index)) (xC (.int 2))) (seqs [(sAsg .own_point (x1 tLen (xVar .text)))]) (seqs [])),
  (sIf (bAll [(bOf (xVar .is_parted)), (bCmp .lt (xPeek .index) (x2 tSub (x1 tLen (xVar .pattern)) (xC (.int 1))))]) (seqs [(sAsg .tail (xCall sp_common_tail [(xVar .rests), (xVar .is_folding)])),
  (sAsg .text (x2 tAdd (xVar .text) (xSl (x2 tIdx (xPeek .rests) (xC (.int 0))) (some (x2 tSub (x1 tLen (x2 tIdx (xPeek .rests) (xC (.int 0)))) (xVar .tail))) none)))]) (seqs []))])),
  (sIf (bAll [(bCmp .ge (xPeek .own_point) (xC (.int 0))), (bCmp .lt (xPeek .parted) (xC (.int 0)))]) (seqs [(sRet (xCall sp_Merged [(xVar .text), (xIte (bCmp .eq (xPeek .own_point) (x1 tLen (xVar .text))) (x1 tLen (xVar .text)) (xVar .own_point))]))]) (seqs [])),
  (sRet (xCall sp_Merged [(xVar .text), (xIte (bCmp .ge (xPeek .parted) (xC (.int 0))) (xVar .parted) (x1 tLen (xVar .text)))]))])
noncomputable def sp_merged : List T → M T := fnGo [.pattern, .candidates, .is_folding] f_merged
noncomputable def f_first_style : SX := (seqs [(sFor .style (xVar .styles) (seqs [(sAsg .pattern (xCall sp_pattern_of [(xVar .style), (xVar .text), (xVar .point)])),
  (sIf (bNot (bIsNone (xVar .pattern))) (seqs [(sAsg .found (xCall sp_fitting [(xVar .pattern), (xVar .candidates), (xVar .is_folding)])),
  (sIf (bCmp .ne (xPeek .found) (xList [])) (seqs [(sRet (xTup [(xVar .pattern), (xVar .found)]))]) (seqs []))]) (seqs []))])),
  (sRet (xTup [(xC .none), (xList [])]))])
noncomputable def sp_first_style : List T → M T := fnGo [.styles, .text, .point, .candidates, .is_folding] f_first_style
noncomputable def f_completed : SX := (seqs [(sUnp [.pattern, .found] (xCall sp_first_style [(xVar .styles), (xVar .text), (xVar .point), (xVar .candidates), (xVar .is_folding)])),
  (sIf (bIsNone (xVar .pattern)) (seqs [(sRet (xC .none))]) (seqs [])),
  (sIf (bCmp .eq (xComp [.text] (xC (.int 1)) .own (xVar .found) (bCmp .ne (xPeek .own) (xPeek .text))) (xList [])) (seqs [(sRet (xC (.bool true)))]) (seqs [])),
  (sRet (xCall sp_merged [(xVar .pattern), (xVar .found), (xVar .is_folding)]))])
noncomputable def sp_completed : List T → M T := fnGo [.styles, .text, .point, .candidates, .is_folding] f_completed
noncomputable def f_law : SX := (seqs [(sAsg .style (x2 tIdx (xList [(xC (.str [98, 97, 115, 105, 99])), (xC (.str [115, 117, 98, 115, 116, 114, 105, 110, 103]))]) (xCall sp_law_draw [(xVar .deck), (xC (.int 2))]))),
  (sMulti [.is_folding, .has_lead] [(.v (xB (bCmp .eq (xCall sp_law_draw [(xVar .deck), (xC (.int 2))]) (xC (.int 1))))), (.v (xB (bCmp .eq (xPeek .style) (xC (.str [115, 117, 98, 115, 116, 114, 105, 110, 103])))))]),
  (sMulti [.first, .last] [(.v (x2 tMul (xC (.str [120])) (x2 tAdd (xC (.int 1)) (xCall sp_law_draw [(xVar .deck), (xC (.int 2))])))), (.v (x2 tIdx (xList [(xC (.str [112])), (xC (.str [112, 112])), (xC (.str []))]) (xCall sp_law_draw [(xVar .deck), (xC (.int 3))])))]),
  (sAsg .rows (xCall sp_law_made [(xVar .deck), (xVar .is_folding), (xVar .has_lead), (xVar .first), (xVar .last)])),
  (sAsg .texts (xComp [] (x2 tJoin (xC (.str [])) (xVar .row)) .row (xVar .rows) (bAll []))),
  (sAsg .pattern (xCall sp_pattern_of [(xVar .style), (x2 tAdd (xVar .first) (xVar .last)), (x1 tLen (xVar .first))])),
  (sAsg .lain (xComp [.pattern, .is_folding] (xCall sp_fit_of [(xVar .pattern), (xVar .own), (xVar .is_folding)]) .own (xVar .texts) (bAll []))),
  (sIf (bCmp .ne (xComp [] (xVar .own) .own (xVar .lain) (bNot (bOf (xVar .own)))) (xList [])) (seqs [(sRet (xC (.bool false)))]) (seqs [])),
  (sAsg .begin_ (xIte (bOf (xVar .has_lead)) (xC (.int 0)) (xC (.int 1)))),
  (sIf (bCmp .ne (x1 tLen (xVar .pattern)) (x2 tSub (x1 tLen (x2 tIdx (xPeek .rows) (xC (.int 0)))) (xVar .begin_))) (seqs [(sRet (xC (.bool false)))]) (seqs [])),
  (sFor .index (x1 tRange1 (x1 tLen (xVar .pattern))) (seqs [(sIf (bCmp .ne (xCall sp_gap_texts [(xVar .pattern), (xVar .lain), (xVar .texts), (xVar .index)]) (xComp [.index, .begin_] (x2 tIdx (xPeek .row) (x2 tAdd (xVar .index) (xVar .begin_))) .row (xVar .rows) (bAll []))) (seqs [(sRet (xC (.bool false)))]) (seqs []))])),
  (sAsg .due (xCall sp_law_common [(xVar .rows), (xVar .is_folding)])),
  (sAsg .found (xCall sp_merged [(xVar .pattern), (xVar .texts), (xVar .is_folding)])),
  (sIf (bCmp .ne (xTup [(x1 (tAttr .text) (xVar .found)), (x1 (tAttr .point) (xVar .found))]) (xPeek .due)) (seqs [(sRet (xC (.bool false)))]) (seqs [])),
  (sAsg .reply (xCall sp_completed [(xList [(xVar .style)]), (x2 tAdd (xVar .first) (xVar .last)), (x1 tLen (xVar .first)), (xVar .texts), (xVar .is_folding)])),
  (sIf (bCmp .eq (xComp [.first, .last] (xVar .own) .own (xVar .texts) (bCmp .ne (xPeek .own) (x2 tAdd (xVar .first) (xVar .last)))) (xList [])) (seqs [(sRet (xB (bCmp .eq (x1 tRepr (xVar .reply)) (xC (.str [84, 114, 117, 101])))))]) (seqs [])),
  (sIf (bAny [(bCmp .ne (xTup [(x1 (tAttr .text) (xVar .reply)), (x1 (tAttr .point) (xVar .reply))]) (xPeek .due)), (bOf (xVar .has_lead))]) (seqs [(sRet (xB (bCmp .eq (xTup [(x1 (tAttr .text) (xVar .reply)), (x1 (tAttr .point) (xVar .reply))]) (xPeek .due))))]) (seqs [])),
  (sAsg .later_reply (xCall sp_completed [(xList [(xC (.str [102, 108, 101, 120, 45, 108, 101, 115, 115])), (xC (.str [98, 97, 115, 105, 99]))]), (x1 (tAttr .text) (xVar .reply)), (x1 (tAttr .point) (xVar .reply)), (xVar .texts), (xVar .is_folding)])),
  (sIf (bCmp .eq (xComp [.reply] (xVar .own) .own (xVar .texts) (bCmp .ne (xPeek .own) (x1 (tAttr .text) (xVar .reply)))) (xList [])) (seqs [(sRet (xB (bCmp .eq (x1 tRepr (xVar .later_reply)) (xC (.str [84, 114, 117, 101])))))]) (seqs [])),
  (sRet (xB (bCmp .eq (xTup [(x1 (tAttr .text) (xVar .later_reply)), (x1 (tAttr .point) (xVar .later_reply))]) (xPeek .due))))])
end Mine
end

section
set_option linter.unusedSimpArgs false
set_option linter.unusedVariables false
namespace Mine

noncomputable def foldc (c : Nat) : Nat := if 65 ≤ c ∧ c ≤ 90 then c + 32 else c

theorem downcase_ev {c : Nat} (h : c < 128) (d : Dk) : sp_downcase [.int c] d = some (.int (foldc c), d) := by
  unfold foldc
  have h3 : ¬ (192 : Int) ≤ (c : Int) := by omega
  by_cases h1 : (65 : Int) ≤ (c : Int)
  · by_cases h2 : (c : Int) ≤ 90
    · have h1' : 65 ≤ c := by omega
      have h2' : c ≤ 90 := by omega
      simp [sp_downcase, fnGo, bindR, f_downcase, seqs, sIf, bAny, bAll, bChain, bCmp, b2, x2, xC, xVar, xPeek, sRet, sRetVar, upd, tCmp, tAdd, tEq, h1, h2, h1', h2']
    · have h2' : ¬ c ≤ 90 := by omega
      simp [sp_downcase, fnGo, bindR, f_downcase, seqs, sIf, bAny, bAll, bChain, bCmp, b2, x2, xC, xVar, xPeek, sRet, sRetVar, upd, tCmp, tAdd, tEq, h1, h2, h2', h3]
  · have h1' : ¬ 65 ≤ c := by omega
    simp [sp_downcase, fnGo, bindR, f_downcase, seqs, sIf, bAny, bAll, bChain, bCmp, b2, x2, xC, xVar, xPeek, sRet, sRetVar, upd, tCmp, tAdd, tEq, h1, h1', h3]
theorem fold_ev {c : Nat} (h : c < 128) (d : Dk) : sp_fold [.int c] d = some (.int (foldc c), d) := by
  simp [sp_fold, fnGo, bindR, f_fold, seqs, sRet, xCall, xs, xVar, upd, downcase_ev h]

noncomputable def fd (f : Bool) (s : List Nat) : List Nat := if f then s.map foldc else s
theorem foldc_lt {c : Nat} (h : c < 128) : foldc c < 128 := by unfold foldc; split <;> omega
theorem fd_len (f : Bool) (s : List Nat) : (fd f s).length = s.length := by unfold fd; split <;> simp

/-- a list comprehension, item by item -/
theorem compGo_map {fv : List N} {x : N} {elt : X} {r : Rho} (g : T → T) : ∀ {l : List T} {d : Dk}, (∀ t ∈ l, elt (inner fv x t r) d = some (g t, d)) → compGo fv x (bAll []) elt r l d = some (l.map g, d)
  | [], d, _ => rfl
  | t :: l, d, h => by
    have ih := compGo_map g (l := l) fun t' ht => h t' (List.mem_cons_of_mem _ ht)
    unfold compGo
    rw [show (bAll [] : B) (inner fv x t r) d = some (true, d) from rfl]
    dsimp only
    rw [h t (List.mem_cons_self)]
    dsimp only
    rw [ih]
    rfl
theorem compGo_filter {fv : List N} {x : N} {elt : X} {c : B} {r : Rho} (g : T → T) (p : T → Bool) : ∀ {l : List T} {d : Dk}, (∀ t ∈ l, c (inner fv x t r) d = some (p t, d) ∧ elt (inner fv x t r) d = some (g t, d)) → compGo fv x c elt r l d = some ((l.filter p).map g, d)
  | [], d, _ => rfl
  | t :: l, d, h => by
    have ih := compGo_filter g p (l := l) fun t' ht => h t' (List.mem_cons_of_mem _ ht)
    unfold compGo
    obtain ⟨h1, h2⟩ := h t (List.mem_cons_self)
    rw [h1]
    cases q : p t with
    | true => dsimp only; rw [h2]; dsimp only; rw [ih]; simp [q]
    | false => dsimp only; rw [ih]; simp [q]

theorem tStrs_map (l : List (List Nat)) : tStrs (l.map T.str) = some l := by
  induction l with
  | nil => rfl
  | cons a l ih => simp [tStrs, ih]
theorem tInts_map (l : List Int) : tInts (l.map T.int) = some l := by
  induction l with
  | nil => rfl
  | cons a l ih => simp [tInts, ih]
theorem flatten_single (l : List Nat) : ((l.map fun c => [c]).intersperse []).flatten = l := by
  induction l with
  | nil => rfl
  | cons a l ih =>
    cases l with
    | nil => rfl
    | cons b l => simp only [List.map_cons, List.intersperse_cons_cons, List.flatten_cons, List.nil_append] at ih ⊢; simp [ih]

theorem folded_ev {s : List Nat} {f : Bool} (h : ∀ c ∈ s, c < 128) (hl : s.length ≤ 1000) (d : Dk) : sp_folded [.str s, .bool f] d = some (.str (fd f s), d) := by
  cases f with
  | false => simp [sp_folded, fnGo, bindR, f_folded, seqs, sRet, xIte, bOf, xVar, upd, tTruth, fd]
  | true =>
    have e := compGo_map (fv := []) (x := .sign) (elt := x1 tChr (xCall sp_fold [x1 tOrd (xVar .sign)])) (r := upd (upd (fun _ => none) .is_folding (.val (.bool true))) .text (.val (.str s))) (g := fun t => match t with | .str [c] => .str [foldc c] | t => t) (l := s.map fun c => T.str [c]) (d := d) (by
      intro t ht
      obtain ⟨c, hc, rfl⟩ := List.mem_map.mp ht
      have h1 := h c hc
      have h2 := foldc_lt h1
      simp [x1, xCall, xs, xVar, inner, tOrd, tChr, fold_ev h1]
      rw [if_pos (by omega)])
    have e2 : ((s.map fun c => T.str [c]).map fun t => match t with | .str [c] => T.str [foldc c] | t => t) = (s.map foldc).map fun c => T.str [c] := by simp [List.map_map, Function.comp_def]
    rw [e2] at e
    have e3 : tStrs ((s.map foldc).map fun c => T.str [c]) = some ((s.map foldc).map fun c => [c]) := by
      have := tStrs_map ((s.map foldc).map fun c => [c])
      rw [List.map_map] at this; exact this
    have hl2 : s.length ≤ szL := Nat.le_trans hl (by decide)
    simp [sp_folded, fnGo, bindR, f_folded, seqs, sRet, xIte, bOf, xVar, upd, tTruth, x2, xC, xComp, tItems, hl2]
    rw [e]
    simp only [tJoin, e3]
    have e4 : (((s.map foldc).map fun c => [c]).all fun s => decide (s.length ≤ 500)) = true := by simp
    rw [if_pos ⟨by decide, by simpa using hl, e4⟩, flatten_single]
    simp [fd]

/-! running a program -/
theorem fnGo_of {ps : List N} {body : SX} {as : List T} {r : Rho} {d d' : Dk} {t : T} (hb : bindR ps as = some r) (h : ∃ r', body r d = some (.ret t, r', d')) : fnGo ps body as d = some (t, d') := by
  obtain ⟨r', h⟩ := h
  unfold fnGo; rw [hb]; dsimp only; rw [h]
theorem seqs_next {s : SX} {l : List SX} {r r1 : Rho} {d d1 : Dk} (h : s r d = some (.next, r1, d1)) : seqs (s :: l) r d = seqs l r1 d1 := by
  show (match s r d with | some (.next, r1, d1) => seqs l r1 d1 | x => x) = _
  rw [h]
theorem seqs_ret {s : SX} {l : List SX} {r r1 : Rho} {d d1 : Dk} {t : T} (h : s r d = some (.ret t, r1, d1)) : seqs (s :: l) r d = some (.ret t, r1, d1) := by
  show (match s r d with | some (.next, r1, d1) => seqs l r1 d1 | x => x) = _
  rw [h]
theorem seqs_cont {s : SX} {l : List SX} {r r1 : Rho} {d d1 : Dk} (h : s r d = some (.cont, r1, d1)) : seqs (s :: l) r d = some (.cont, r1, d1) := by
  show (match s r d with | some (.next, r1, d1) => seqs l r1 d1 | x => x) = _
  rw [h]
theorem seqs_nil {r : Rho} {d : Dk} : seqs [] r d = some (.next, r, d) := rfl
theorem sAsg_ev {x : N} {f : X} {r : Rho} {d d1 : Dk} {t : T} (h : f r d = some (t, d1)) : sAsg x f r d = some (.next, upd r x (.val t), d1) := by
  unfold sAsg; rw [h]
theorem sRet_ev {f : X} {r : Rho} {d d1 : Dk} {t : T} (h : f r d = some (t, d1)) : sRet f r d = some (.ret t, r, d1) := by
  unfold sRet; rw [h]
theorem sRetVar_ev {x : N} {r : Rho} {d : Dk} {t : T} (h : r x = some (.val t)) : sRetVar x r d = some (.ret t, r, d) := by
  unfold sRetVar; rw [h]
theorem sIf_t {c : B} {a b : SX} {r : Rho} {d d1 : Dk} (h : c r d = some (true, d1)) : sIf c a b r d = a r d1 := by
  unfold sIf; rw [h]
theorem sIf_f {c : B} {a b : SX} {r : Rho} {d d1 : Dk} (h : c r d = some (false, d1)) : sIf c a b r d = b r d1 := by
  unfold sIf; rw [h]
theorem sFor_ev {x : N} {it : X} {a : SX} {r : Rho} {d d1 : Dk} {v : T} {l : List T} (h : it r d = some (v, d1)) (hi : tItems v = some l) (hl : l.length ≤ szL) : sFor x it a r d = forGo x a l r d1 := by
  unfold sFor; rw [h]; dsimp only; rw [hi]; dsimp only; rw [if_pos hl]
theorem xComp_ev {fv : List N} {elt : X} {x : N} {it : X} {c : B} {r : Rho} {d d1 d2 : Dk} {v : T} {l as : List T} (h : it r d = some (v, d1)) (hi : tItems v = some l) (hl : l.length ≤ szL) (hg : compGo fv x c elt r l d1 = some (as, d2)) :
    xComp fv elt x it c r d = some (.list as, d2) := by
  unfold xComp; rw [h]; dsimp only; rw [hi]; dsimp only; rw [if_pos hl, hg]
theorem whGo_next {c : B} {a : SX} {n : Nat} {r r1 : Rho} {d d1 d2 : Dk} (hc : c r d = some (true, d1)) (ha : a r d1 = some (.next, r1, d2)) : whGo c a (n + 1) r d = whGo c a n r1 d2 := by
  show (match c r d with | some (true, d1) => _ | some (false, d1) => _ | none => _) = _
  rw [hc]; dsimp only; rw [ha]
theorem whGo_cont {c : B} {a : SX} {n : Nat} {r r1 : Rho} {d d1 d2 : Dk} (hc : c r d = some (true, d1)) (ha : a r d1 = some (.cont, r1, d2)) : whGo c a (n + 1) r d = whGo c a n r1 d2 := by
  show (match c r d with | some (true, d1) => _ | some (false, d1) => _ | none => _) = _
  rw [hc]; dsimp only; rw [ha]
theorem whGo_ret {c : B} {a : SX} {n : Nat} {r r1 : Rho} {d d1 d2 : Dk} {t : T} (hc : c r d = some (true, d1)) (ha : a r d1 = some (.ret t, r1, d2)) : whGo c a (n + 1) r d = some (.ret t, r1, d2) := by
  show (match c r d with | some (true, d1) => _ | some (false, d1) => _ | none => _) = _
  rw [hc]; dsimp only; rw [ha]
theorem whGo_done {c : B} {a : SX} {n : Nat} {r : Rho} {d d1 : Dk} (hc : c r d = some (false, d1)) : whGo c a (n + 1) r d = some (.next, r, d1) := by
  show (match c r d with | some (true, d1) => _ | some (false, d1) => _ | none => _) = _
  rw [hc]
theorem forGo_next {x : N} {a : SX} {t : T} {l : List T} {r r1 : Rho} {d d1 : Dk} (h : a (upd r x (.val t)) d = some (.next, r1, d1)) : forGo x a (t :: l) r d = forGo x a l r1 d1 := by
  show (match a (upd r x (.val t)) d with | some (.next, r1, d1) => _ | some (.cont, r1, d1) => _ | some (.ret t, r1, d1) => _ | none => _) = _
  rw [h]
theorem forGo_cont {x : N} {a : SX} {t : T} {l : List T} {r r1 : Rho} {d d1 : Dk} (h : a (upd r x (.val t)) d = some (.cont, r1, d1)) : forGo x a (t :: l) r d = forGo x a l r1 d1 := by
  show (match a (upd r x (.val t)) d with | some (.next, r1, d1) => _ | some (.cont, r1, d1) => _ | some (.ret t, r1, d1) => _ | none => _) = _
  rw [h]
theorem forGo_ret {x : N} {a : SX} {t u : T} {l : List T} {r r1 : Rho} {d d1 : Dk} (h : a (upd r x (.val t)) d = some (.ret u, r1, d1)) : forGo x a (t :: l) r d = some (.ret u, r1, d1) := by
  show (match a (upd r x (.val t)) d with | some (.next, r1, d1) => _ | some (.cont, r1, d1) => _ | some (.ret t, r1, d1) => _ | none => _) = _
  rw [h]
theorem forGo_nil {x : N} {a : SX} {r : Rho} {d : Dk} : forGo x a [] r d = some (.next, r, d) := rfl
end Mine
end

section
set_option linter.unusedSimpArgs false
set_option linter.unusedVariables false
namespace Mine

noncomputable def slice (s : List Nat) (i n : Nat) : List Nat := (s.drop i).take n
theorem slice_len_le (s : List Nat) (i n : Nat) : (slice s i n).length ≤ s.length := by simp [slice]; omega
theorem slice_mem {s : List Nat} {i n : Nat} {c : Nat} (h : c ∈ slice s i n) : c ∈ s := List.mem_of_mem_drop (List.mem_of_mem_take h)

theorem clampLo_nat (i n : Nat) : clampLo (some (i : Int)) n = min i n := by
  unfold clampLo
  have h : ¬ (i : Int) < 0 := by omega
  simp [h]
theorem clampHi_nat (i n : Nat) : clampHi (some (i : Int)) n = min i n := by
  unfold clampHi
  have h : ¬ (i : Int) < 0 := by omega
  simp [h]
theorem pySl_nat (s : List Nat) (i n : Nat) : pySl s (some (i : Int)) (some ((i : Int) + n)) = slice s i n := by
  have h1 : clampLo (some (i : Int)) s.length = min i s.length := clampLo_nat _ _
  have h2 : clampHi (some ((i : Int) + n)) s.length = min (i + n) s.length := clampHi_nat (i + n) _
  unfold pySl slice
  rw [h1, h2]
  by_cases h : i ≤ s.length
  · rw [Nat.min_eq_left h]
    by_cases h' : i + n ≤ s.length
    · rw [Nat.min_eq_left h', Nat.add_sub_cancel_left]
    · rw [Nat.min_eq_right (by omega), List.take_of_length_le (by simp), List.take_of_length_le (by simp; omega)]
  · have h : s.length ≤ i := by omega
    rw [Nat.min_eq_right h, List.drop_of_length_le (Nat.le_refl _), List.drop_of_length_le h]; simp
theorem pySl_lo (s : List Nat) (i : Nat) : pySl s (some (i : Int)) none = s.drop i := by
  have h1 : clampLo (some (i : Int)) s.length = min i s.length := clampLo_nat _ _
  unfold pySl
  rw [h1]
  show (s.drop (min i s.length)).take (s.length - min i s.length) = _
  by_cases h : i ≤ s.length
  · rw [Nat.min_eq_left h, List.take_of_length_le (by simp)]
  · rw [Nat.min_eq_right (by omega), List.drop_of_length_le (Nat.le_refl _), List.drop_of_length_le (by omega)]; simp
theorem pySl_hi (s : List Nat) (i : Nat) : pySl s none (some (i : Int)) = s.take i := by
  have h1 : clampHi (some (i : Int)) s.length = min i s.length := clampHi_nat _ _
  unfold pySl
  rw [h1]
  show (s.drop 0).take (min i s.length - 0) = _
  simp only [List.drop_zero, Nat.sub_zero]
  by_cases h : i ≤ s.length
  · rw [Nat.min_eq_left h]
  · rw [Nat.min_eq_right (by omega), List.take_of_length_le (Nat.le_refl _), List.take_of_length_le (by omega)]
theorem pySl_two (s : List Nat) (i j : Nat) (h : i ≤ j) : pySl s (some (i : Int)) (some (j : Int)) = slice s i (j - i) := by
  have := pySl_nat s i (j - i)
  rw [show (i : Int) + ((j - i : Nat) : Int) = (j : Int) by omega] at this
  exact this

theorem fitI_small {i : Int} (h : -100000000 < i) (h2 : i < 100000000) : fitI i = true := by unfold fitI; exact decide_eq_true ⟨by omega, by omega⟩

/-- texts of this program -/
structure Ok (s : List Nat) : Prop where
  asc : ∀ c ∈ s, c < 128
  len : s.length ≤ 100
theorem Ok.slice {s : List Nat} (h : Ok s) (i n : Nat) : Ok (slice s i n) := ⟨fun c hc => h.asc c (slice_mem hc), Nat.le_trans (slice_len_le s i n) h.len⟩
theorem Ok.folded {s : List Nat} (h : Ok s) (f : Bool) (d : Dk) : sp_folded [.str s, .bool f] d = some (.str (fd f s), d) := folded_ev h.asc (Nat.le_trans h.len (by decide)) d
theorem Ok.drop {s : List Nat} (h : Ok s) (i : Nat) : Ok (s.drop i) := ⟨fun c hc => h.asc c (List.mem_of_mem_drop hc), by have := h.len; simp; omega⟩
theorem Ok.take {s : List Nat} (h : Ok s) (i : Nat) : Ok (s.take i) := ⟨fun c hc => h.asc c (List.mem_of_mem_take hc), by have := h.len; simp; omega⟩

/-- a search by a for -/
theorem upd_same_off {r r' : Rho} {x : N} {e : Ent} (h : ∀ y, y ≠ x → r' y = r y) : upd r' x e = upd r x e := by
  funext y; unfold upd; split
  · rfl
  · rename_i q; exact h y q
theorem forGo_find {x : N} {a : SX} {r : Rho} {d : Dk} (p : T → Bool) (g : T → T) : ∀ {l : List T} {r' : Rho}, (∀ y, y ≠ x → r' y = r y) →
    (∀ t ∈ l, a (upd r x (.val t)) d = if p t then some (.ret (g t), upd r x (.val t), d) else some (.next, upd r x (.val t), d)) →
    ∃ r'', (∀ y, y ≠ x → r'' y = r y) ∧ forGo x a l r' d = match l.find? p with | some t => some (.ret (g t), r'', d) | none => some (.next, r'', d)
  | [], r', hr, _ => ⟨r', hr, rfl⟩
  | t :: l, r', hr, h => by
    have e := h t (List.mem_cons_self)
    unfold forGo
    rw [upd_same_off hr, e]
    have hr2 : ∀ y, y ≠ x → (upd r x (.val t)) y = r y := fun y hy => upd_ne _ _ hy
    cases q : p t with
    | true => exact ⟨upd r x (.val t), hr2, by simp [List.find?_cons, q]⟩
    | false =>
      obtain ⟨r'', h1, h2⟩ := forGo_find (d := d) p g (l := l) hr2 fun t' ht => h t' (List.mem_cons_of_mem _ ht)
      exact ⟨r'', h1, by simp [List.find?_cons, q, h2]⟩

theorem gap_int (i : Int) (d : Dk) : sp_is_gap [.int i] d = some (.bool true, d) := by
  simp [sp_is_gap, fnGo, bindR, f_is_gap, seqs, sRet, x1, xVar, upd, tIsStr, tNot]
theorem gap_str (s : List Nat) (d : Dk) : sp_is_gap [.str s] d = some (.bool false, d) := by
  simp [sp_is_gap, fnGo, bindR, f_is_gap, seqs, sRet, x1, xVar, upd, tIsStr, tNot]

theorem asc_of {s : List Nat} (h : ∀ c ∈ s, c < 128) : ascii s = true := by unfold ascii; simpa using h

noncomputable def hits (f : Bool) (t c : List Nat) (j : Nat) : Bool := fd f (slice c j t.length) == fd f t
theorem all_some' {p : Int → Bool} {i : Int} : (some i).all p = p i := rfl
theorem all_none' {p : Int → Bool} : (none : Option Int).all p = true := rfl
theorem tSl_ok (s : List Nat) {lo hi : Option Int} (h1 : lo.all fitI = true) (h2 : hi.all fitI = true) : tSl (.str s) lo hi = some (.str (pySl s lo hi)) := by
  have h : (lo.all fitI && hi.all fitI) = true := by rw [h1, h2]; rfl
  unfold tSl
  exact if_pos h
theorem xSl_ev {a : X} {lo hi : Option X} {r : Rho} {d d1 d2 d3 : Dk} {v c : T} {i j : Option Int} (ha : a r d = some (v, d1)) (hl : oInt lo r d1 = some (i, d2)) (hh : oInt hi r d2 = some (j, d3)) (ht : tSl v i j = some c) : xSl a lo hi r d = some (c, d3) := by
  unfold xSl; rw [ha]; dsimp only; rw [hl]; dsimp only; rw [hh]; dsimp only; rw [ht]
theorem oInt_ev {f : X} {r : Rho} {d d1 : Dk} {i : Int} (h : f r d = some (.int i, d1)) : oInt (some f) r d = some (some i, d1) := by
  unfold oInt; dsimp only; rw [h]
theorem oInt_none {r : Rho} {d : Dk} : oInt none r d = some (none, d) := rfl
theorem x1_ev {op : T → Option T} {f : X} {r : Rho} {d d1 : Dk} {a c : T} (h : f r d = some (a, d1)) (ho : op a = some c) : x1 op f r d = some (c, d1) := by
  unfold x1; rw [h]; dsimp only; rw [ho]
theorem x2_ev {op : T → T → Option T} {f g : X} {r : Rho} {d d1 d2 : Dk} {a b c : T} (h : f r d = some (a, d1)) (h2 : g r d1 = some (b, d2)) (ho : op a b = some c) : x2 op f g r d = some (c, d2) := by
  unfold x2; rw [h]; dsimp only; rw [h2]; dsimp only; rw [ho]
theorem bCmp_ev {o : Cm} {f g : X} {r : Rho} {d d1 d2 : Dk} {a b : T} {c : Bool} (h : f r d = some (a, d1)) (h2 : g r d1 = some (b, d2)) (ho : tCmp o a b = some c) : bCmp o f g r d = some (c, d2) := by
  unfold bCmp b2; rw [h]; dsimp only; rw [h2]; dsimp only; rw [ho]
theorem xVar_ev {x : N} {r : Rho} {d : Dk} {t : T} (h : r x = some (.val t)) : xVar x r d = some (t, d) := by unfold xVar; rw [h]
theorem xPeek_ev {x : N} {r : Rho} {d : Dk} {t : T} (h : r x = some (.val t)) : xPeek x r d = some (t, d) := by unfold xPeek; rw [h]
theorem xPeek_own {x : N} {r : Rho} {d : Dk} {t : T} (h : r x = some (.own t)) : xPeek x r d = some (t, d) := by unfold xPeek; rw [h]
theorem xC_ev {t : T} {r : Rho} {d : Dk} : xC t r d = some (t, d) := rfl
theorem xs_nil {r : Rho} {d : Dk} : xs [] r d = some ([], d) := rfl
theorem xs_cons {f : X} {l : List X} {r : Rho} {d d1 d2 : Dk} {a : T} {as : List T} (h : f r d = some (a, d1)) (h2 : xs l r d1 = some (as, d2)) : xs (f :: l) r d = some (a :: as, d2) := by
  show (match f r d with | some (a, d1) => _ | none => _) = _
  rw [h]; dsimp only; rw [h2]
theorem xCall_ev {sp : List T → M T} {l : List X} {r : Rho} {d d1 d2 : Dk} {as : List T} {t : T} (h : xs l r d = some (as, d1)) (h2 : sp as d1 = some (t, d2)) : xCall sp l r d = some (t, d2) := by
  unfold xCall; rw [h]; exact h2
theorem xTup_ev {l : List X} {r : Rho} {d d1 : Dk} {as : List T} (h : xs l r d = some (as, d1)) : xTup l r d = some (.tup as, d1) := by unfold xTup; rw [h]
theorem xList_ev {l : List X} {r : Rho} {d d1 : Dk} {as : List T} (h : xs l r d = some (as, d1)) : xList l r d = some (.list as, d1) := by unfold xList; rw [h]
theorem xIte_t {c : B} {f g : X} {r : Rho} {d d1 : Dk} (h : c r d = some (true, d1)) : xIte c f g r d = f r d1 := by unfold xIte; rw [h]
theorem xIte_f {c : B} {f g : X} {r : Rho} {d d1 : Dk} (h : c r d = some (false, d1)) : xIte c f g r d = g r d1 := by unfold xIte; rw [h]
theorem bOf_ev {f : X} {r : Rho} {d d1 : Dk} {t : T} {b : Bool} (h : f r d = some (t, d1)) (h2 : tTruth t = some b) : bOf f r d = some (b, d1) := by unfold bOf; rw [h]; dsimp only; rw [h2]
theorem bNot_ev {f : B} {r : Rho} {d d1 : Dk} {b : Bool} (h : f r d = some (b, d1)) : bNot f r d = some (!b, d1) := by unfold bNot; rw [h]
theorem xB_ev {f : B} {r : Rho} {d d1 : Dk} {b : Bool} (h : f r d = some (b, d1)) : xB f r d = some (.bool b, d1) := by unfold xB; rw [h]
theorem bIsNone_ev {f : X} {r : Rho} {d d1 : Dk} {t : T} (h : f r d = some (t, d1)) : bIsNone f r d = some (isN t, d1) := by unfold bIsNone; rw [h]
theorem bAll_nil {r : Rho} {d : Dk} : bAll [] r d = some (true, d) := rfl
theorem bAll_t {f : B} {l : List B} {r : Rho} {d d1 : Dk} (h : f r d = some (true, d1)) : bAll (f :: l) r d = bAll l r d1 := by
  show (match f r d with | some (true, d1) => _ | some (false, d1) => _ | none => _) = _
  rw [h]
theorem bAll_f {f : B} {l : List B} {r : Rho} {d d1 : Dk} (h : f r d = some (false, d1)) : bAll (f :: l) r d = some (false, d1) := by
  show (match f r d with | some (true, d1) => _ | some (false, d1) => _ | none => _) = _
  rw [h]
theorem bAny_nil {r : Rho} {d : Dk} : bAny [] r d = some (false, d) := rfl
theorem bAny_f {f : B} {l : List B} {r : Rho} {d d1 : Dk} (h : f r d = some (false, d1)) : bAny (f :: l) r d = bAny l r d1 := by
  show (match f r d with | some (false, d1) => _ | some (true, d1) => _ | none => _) = _
  rw [h]
theorem bAny_t {f : B} {l : List B} {r : Rho} {d d1 : Dk} (h : f r d = some (true, d1)) : bAny (f :: l) r d = some (true, d1) := by
  show (match f r d with | some (false, d1) => _ | some (true, d1) => _ | none => _) = _
  rw [h]
theorem tSl_two (s : List Nat) (i n : Nat) (h1 : i < 10000) (h2 : n < 10000) : tSl (.str s) (some (i : Int)) (some ((i : Int) + n)) = some (.str (slice s i n)) := by
  have f1 : fitI (i : Int) = true := fitI_small (by omega) (by omega)
  have f2 : fitI ((i : Int) + n) = true := fitI_small (by omega) (by omega)
  rw [tSl_ok s (all_some'.trans f1) (all_some'.trans f2), pySl_nat]
theorem tSl_lo (s : List Nat) (i : Nat) (h1 : i < 10000) : tSl (.str s) (some (i : Int)) none = some (.str (s.drop i)) := by
  have f1 : fitI (i : Int) = true := fitI_small (by omega) (by omega)
  rw [tSl_ok s (all_some'.trans f1) all_none', pySl_lo]
theorem tSl_hi (s : List Nat) (i : Nat) (h1 : i < 10000) : tSl (.str s) none (some (i : Int)) = some (.str (s.take i)) := by
  have f1 : fitI (i : Int) = true := fitI_small (by omega) (by omega)
  rw [tSl_ok s all_none' (all_some'.trans f1), pySl_hi]
theorem tSl_ij (s : List Nat) (i j : Nat) (h : i ≤ j) (h1 : j < 10000) : tSl (.str s) (some (i : Int)) (some (j : Int)) = some (.str (slice s i (j - i))) := by
  have f1 : fitI (i : Int) = true := fitI_small (by omega) (by omega)
  have f2 : fitI (j : Int) = true := fitI_small (by omega) (by omega)
  rw [tSl_ok s (all_some'.trans f1) (all_some'.trans f2), pySl_two _ _ _ h]
theorem tRange_ok (a b : Int) (f1 : fitI a = true) (f2 : fitI b = true) (h : b - a ≤ szL) : tRange2 (.int a) (.int b) = some (.rng a b) := by
  unfold tRange2; exact if_pos ⟨f1, f2, h⟩
theorem tIdx_list_ok (xs : List T) (i : Nat) (h : i < 10000) (t : T) (ht : xs[i]? = some t) : tIdx (.list xs) (.int i) = some t := by
  have f1 : fitI (i : Int) = true := fitI_small (by omega) (by omega)
  have hlt : i < xs.length := by
    rcases Nat.lt_or_ge i xs.length with h | h
    · exact h
    · rw [List.getElem?_eq_none h] at ht; cases ht
  have hp : pyIdx (i : Int) xs.length = some i := by
    unfold pyIdx
    rw [if_pos (by omega), if_pos (by omega)]; simp
  unfold tIdx
  refine (if_pos f1).trans ?_
  rw [hp]; exact ht
theorem tIdx_str_ok (s : List Nat) (i : Nat) (h : i < 10000) (c : Nat) (ht : s[i]? = some c) : tIdx (.str s) (.int i) = some (.str [c]) := by
  have f1 : fitI (i : Int) = true := fitI_small (by omega) (by omega)
  have hlt : i < s.length := by
    rcases Nat.lt_or_ge i s.length with h | h
    · exact h
    · rw [List.getElem?_eq_none h] at ht; cases ht
  have hp : pyIdx (i : Int) s.length = some i := by
    unfold pyIdx
    rw [if_pos (by omega), if_pos (by omega)]; simp
  unfold tIdx
  refine (if_pos f1).trans ?_
  rw [hp]; show ((s[i]?).map fun c => T.str [c]) = _; rw [ht]; rfl
noncomputable def ffBody : SX := (seqs [(sIf (bCmp .eq (xCall sp_folded [(xSl (xPeek .candidate) (some (xVar .at_)) (some (x2 tAdd (xVar .at_) (x1 tLen (xVar .text))))), (xVar .is_folding)]) (xPeek .wanted)) (seqs [(sRetVar .at_)]) (seqs []))])
theorem szL_eq : szL = 1048576 := rfl
theorem tEq_str (a b : List Nat) : tEq (.str a) (.str b) = some (decide (a = b)) := rfl
theorem ff_body {t c : List Nat} {f : Bool} {r : Rho} {d : Dk} {i : Nat} (hc : Ok c) (hi : i < 2000) (htl : t.length ≤ 100) (h1 : r .candidate = some (.val (.str c))) (h2 : r .at_ = some (.val (.int i))) (h3 : r .text = some (.val (.str t))) (h4 : r .is_folding = some (.val (.bool f)))
    (h5 : r .wanted = some (.val (.str (fd f t)))) : ffBody r d = if hits f t c i then some (.ret (.int i), r, d) else some (.next, r, d) := by
  have e2 := (hc.slice i t.length).folded f d
  have c1 : (bCmp .eq (xCall sp_folded [(xSl (xPeek .candidate) (some (xVar .at_)) (some (x2 tAdd (xVar .at_) (x1 tLen (xVar .text))))), (xVar .is_folding)]) (xPeek .wanted)) r d = some (decide (fd f (slice c i t.length) = fd f t), d) :=
    bCmp_ev (xCall_ev (xs_cons (xSl_ev (xPeek_ev h1) (oInt_ev (xVar_ev h2)) (oInt_ev (x2_ev (xVar_ev h2) (x1_ev (xVar_ev h3) rfl) rfl)) (tSl_two c i t.length (by omega) (by omega))) (xs_cons (xVar_ev h4) xs_nil)) e2) (xPeek_ev h5) (tEq_str _ _)
  unfold ffBody hits
  by_cases q : fd f (slice c i t.length) = fd f t
  · rw [decide_eq_true q] at c1
    rw [beq_iff_eq.mpr q, if_pos rfl]
    exact seqs_ret ((sIf_t c1).trans (seqs_ret (sRetVar_ev h2)))
  · rw [decide_eq_false q] at c1
    rw [beq_eq_false_iff_ne.mpr q, if_neg (by decide)]
    exact (seqs_next ((sIf_f c1).trans seqs_nil)).trans seqs_nil

theorem found_ev {t c : List Nat} {f : Bool} (ht : Ok t) (hc : Ok c) (i k : Nat) (hk : i + k ≤ 1000) (d : Dk) :
    sp_found_from [.str t, .str c, .int i, .int ((i : Int) + k - 1 + t.length), .bool f] d = some (.int (match (List.range k).find? fun j => hits f t c (i + j) with | some j => ((i + j : Nat) : Int) | none => -1), d) := by
  have htl := ht.len
  let r0 : Rho := upd (upd (upd (upd (upd (fun _ => none) .is_folding (.val (.bool f))) .end_ (.val (.int ((i : Int) + k - 1 + t.length)))) .start (.val (.int i))) .candidate (.val (.str c))) .text (.val (.str t))
  let r1 : Rho := upd r0 .wanted (.val (.str (fd f t)))
  have hrange : (((i : Int) + k - i).toNat) = k := by omega
  obtain ⟨r'', hr'', hl⟩ := forGo_find (x := .at_) (a := ffBody) (r := r1) (d := d)
    (fun t' => match t' with | .int j => hits f t c j.toNat | _ => false) id (l := (List.range k).map fun (j : Nat) => T.int ((i : Int) + (j : Int))) (r' := r1) (fun _ _ => rfl) (by
      intro t' ht'
      obtain ⟨j, hj, rfl⟩ := List.mem_map.mp ht'
      have hj := List.mem_range.mp hj
      have e3 : (i : Int) + (j : Int) = ((i + j : Nat) : Int) := by omega
      rw [e3]
      exact ff_body (i := i + j) hc (by omega) htl rfl rfl rfl rfl rfl)
  have f1 : fitI (i : Int) = true := fitI_small (by omega) (by omega)
  have f2 : fitI ((i : Int) + k) = true := fitI_small (by omega) (by omega)
  have f4 : k ≤ szL := by have := szL_eq; omega
  have f3 : ((i : Int) + k - i) ≤ (szL : Int) := by omega
  refine fnGo_of (r := r0) rfl ?_
  have s1 : sAsg .wanted (xCall sp_folded [(xVar .text), (xVar .is_folding)]) r0 d = some (.next, r1, d) := sAsg_ev (by simp [xCall, xs, xVar, r0, upd, ht.folded f d])
  have s2 : (x2 tRange2 (xVar .start) (x2 tAdd (x2 tSub (xVar .end_) (x1 tLen (xVar .text))) (xC (.int 1)))) r1 d = some (.rng i ((i : Int) + k), d) := by
    have e : (i : Int) + k - 1 + t.length - t.length + 1 = i + k := by omega
    refine x2_ev (a := .int i) (xVar_ev rfl) (x2_ev (x2_ev (xVar_ev (t := .int ((i : Int) + k - 1 + t.length)) rfl) (x1_ev (xVar_ev (t := .str t) rfl) rfl) rfl) xC_ev rfl) ?_
    rw [e]
    exact tRange_ok _ _ f1 f2 f3
  unfold f_found_from
  rw [seqs_next s1]
  have s3 := sFor_ev (x := .at_) (a := ffBody) s2 rfl (by simp; omega)
  rw [hrange, hl] at s3
  rw [List.find?_map] at s3
  have ef : ((fun t' => match t' with | T.int j => hits f t c j.toNat | _ => false) ∘ fun (j : Nat) => T.int ((i : Int) + (j : Int))) = fun j => hits f t c (i + j) := by
    funext j
    have e3 : ((i : Int) + (j : Int)).toNat = i + j := by omega
    simp [e3]
  rw [ef] at s3
  cases q : (List.range k).find? fun j => hits f t c (i + j) with
  | some j =>
    rw [q] at s3
    refine ⟨r'', (seqs_ret s3).trans ?_⟩
    simp
  | none =>
    rw [q] at s3
    refine ⟨r'', (seqs_next s3).trans ?_⟩
    rw [seqs_ret (sRet_ev (t := .int (-1)) (d1 := d) rfl)]
end Mine
end

section
set_option linter.unusedSimpArgs false
set_option linter.unusedVariables false
namespace Mine
noncomputable def fitCond : B := (bCmp .ne (xPeek .waiting) (xList []))
noncomputable def ft_pop : SX := (sPop [.index, .at_, .places] .waiting)
noncomputable def ft_in : SX := (sIf (bCmp .in_ (x2 tAdd (x2 tMul (xVar .index) (xVar .width)) (xVar .at_)) (xPeek .seen)) (seqs [sCont]) (seqs []))
noncomputable def ft_key : SX := (sSetKey .seen (x2 tAdd (x2 tMul (xVar .index) (xVar .width)) (xVar .at_)))
noncomputable def ft_end : SX := (sIf (bCmp .eq (xPeek .index) (x1 tLen (xVar .pattern))) (seqs [(sIf (bCmp .eq (xPeek .at_) (x1 tLen (xVar .candidate))) (seqs [(sRet (xCall sp_Fit [(x2 tAdd (xVar .places) (xList [(xVar .at_)]))]))]) (seqs [])),
  sCont]) (seqs []))
noncomputable def ft_item : SX := (sAsg .item (x2 tIdx (xPeek .pattern) (xVar .index)))
noncomputable def ft_str : SX := (sIf (bNot (bOf (xCall sp_is_gap [(xVar .item)]))) (seqs [(sIf (bCmp .eq (xCall sp_folded [(xSl (xPeek .candidate) (some (xVar .at_)) (some (x2 tAdd (xVar .at_) (x1 tLen (xVar .item))))), (xVar .is_folding)]) (xCall sp_folded [(xVar .item), (xVar .is_folding)])) (seqs [(sApp .waiting (xTup [(x2 tAdd (xVar .index) (xC (.int 1))), (x2 tAdd (xVar .at_) (x1 tLen (xVar .item))), (x2 tAdd (xVar .places) (xList [(xVar .at_)]))]))]) (seqs [])),
  sCont]) (seqs []))
noncomputable def ft_last : SX := (sAsg .last (xIte (bCmp .eq (xPeek .item) (xC (.int 1))) xFail (x1 tLen (xVar .candidate))))
noncomputable def ft_glast : SX := (sIf (bCmp .eq (xPeek .index) (x2 tSub (x1 tLen (xVar .pattern)) (xC (.int 1)))) (seqs [(sIf (bCmp .eq (xPeek .last) (x1 tLen (xVar .candidate))) (seqs [(sApp .waiting (xTup [(x2 tAdd (xVar .index) (xC (.int 1))), (xVar .last), (x2 tAdd (xVar .places) (xList [(xVar .at_)]))]))]) (seqs [])),
  sCont]) (seqs []))
noncomputable def ft_text : SX := (sAsg .text (x2 tIdx (xPeek .pattern) (x2 tAdd (xVar .index) (xC (.int 1)))))
noncomputable def ft_fur : SX := (sOwn .further [])
noncomputable def ft_spot : SX := (sAsg .spot (xCall sp_found_from [(xVar .text), (xVar .candidate), (xVar .at_), (x2 tAdd (xVar .last) (x1 tLen (xVar .text))), (xVar .is_folding)]))
noncomputable def fitWc : B := (bAll [(bCmp .ge (xPeek .spot) (xC (.int 0))), (bCmp .le (xPeek .spot) (xPeek .last))])
noncomputable def fitWb : SX := (seqs [(sApp .further (xTup [(x2 tAdd (xVar .index) (xC (.int 1))), (xVar .spot), (x2 tAdd (xVar .places) (xList [(xVar .at_)]))])),
  (sAsg .spot (xCall sp_found_from [(xVar .text), (xVar .candidate), (x2 tAdd (xVar .spot) (xC (.int 1))), (x2 tAdd (xVar .last) (x1 tLen (xVar .text))), (xVar .is_folding)]))])
noncomputable def ft_wh : SX := sWhile fitWc fitWb
noncomputable def ft_ext : SX := (sFrz .further (sExt .waiting (x1 tRev (xVar .further))))
noncomputable def fitRest : List SX := [ft_end, ft_item, ft_str, ft_last, ft_glast, ft_text, ft_fur, ft_spot, ft_wh, ft_ext]
noncomputable def fitBody : SX := seqs (ft_pop :: ft_in :: ft_key :: fitRest)
noncomputable def ft_init : SX := (sMultiR [.waiting, .seen, .width] [(.lst [(xTup [(xC (.int 0)), (xC (.int 0)), (xList [])])]), .dic, (.v (x2 tAdd (x1 tLen (xVar .candidate)) (xC (.int 1))))])
theorem f_fit_of_eq : f_fit_of = seqs [ft_init, sWhile fitCond fitBody, sRet (xC .none)] := rfl

theorem upd_get {r : Rho} {x y : N} {e : Ent} {v : Option Ent} (h : r y = v) (hne : y ≠ x) : upd r x e y = v := (upd_ne r e hne).trans h

structure St (pat : List T) (tx : List Nat) (f : Bool) (i at_ : Nat) (pl : List T) (r : Rho) : Prop where
  p : r .pattern = some (.val (.list pat))
  c : r .candidate = some (.val (.str tx))
  f : r .is_folding = some (.val (.bool f))
  w : r .waiting = some (.own (.list [.tup [.int i, .int at_, .list pl]]))
  s : ∃ ks : List Int, r .seen = some (.own (.dict ks)) ∧ ks.length ≤ i ∧ ∀ k ∈ ks, k < (i : Int) * (tx.length + 1)
  wd : r .width = some (.val (.int (tx.length + 1)))
structure Mid (pat : List T) (tx : List Nat) (f : Bool) (i at_ : Nat) (pl : List T) (r : Rho) : Prop where
  p : r .pattern = some (.val (.list pat))
  c : r .candidate = some (.val (.str tx))
  f : r .is_folding = some (.val (.bool f))
  w : r .waiting = some (.own (.list []))
  s : ∃ ks : List Int, r .seen = some (.own (.dict ks)) ∧ ks.length ≤ i + 1 ∧ ∀ k ∈ ks, k < ((i + 1 : Nat) : Int) * (tx.length + 1)
  wd : r .width = some (.val (.int (tx.length + 1)))
  ix : r .index = some (.val (.int i))
  at' : r .at_ = some (.val (.int at_))
  pl : r .places = some (.val (.list pl))
variable {pat : List T} {tx : List Nat} {f : Bool} {i at_ : Nat} {pl : List T} {r : Rho} {d : Dk}

theorem fit_cond (S : St pat tx f i at_ pl r) : fitCond r d = some (true, d) := bCmp_ev (xPeek_own S.w) (xList_ev xs_nil) rfl
theorem tMul_ok (a b : Int) (h1 : small a = true) (h2 : small b = true) : tMul (.int a) (.int b) = some (.int (a * b)) := by
  have h : (small a && small b) = true := by rw [h1, h2]; rfl
  unfold tMul
  exact if_pos h
theorem small_ok {a : Int} (h1 : -100000000 < a) (h2 : a < 100000000) : small a = true := decide_eq_true ⟨by omega, by omega⟩
theorem key_ev {r : Rho} (h1 : r .index = some (.val (.int i))) (h2 : r .width = some (.val (.int (tx.length + 1)))) (h3 : r .at_ = some (.val (.int at_))) (hi : i ≤ 50) (hn : tx.length ≤ 100) :
    (x2 tAdd (x2 tMul (xVar .index) (xVar .width)) (xVar .at_)) r d = some (.int ((i : Int) * (tx.length + 1) + at_), d) := by
  refine x2_ev (x2_ev (xVar_ev h1) (xVar_ev h2) (c := .int ((i : Int) * (tx.length + 1))) ?_) (xVar_ev h3) rfl
  exact tMul_ok _ _ (small_ok (by omega) (by omega)) (small_ok (by omega) (by omega))
theorem fit_pre (S : St pat tx f i at_ pl r) (hi : i ≤ 50) (hn : tx.length ≤ 100) (ha : at_ ≤ tx.length) : ∃ r2, Mid pat tx f i at_ pl r2 ∧ fitBody r d = seqs fitRest r2 d := by
  obtain ⟨ks, hs, hl, hk⟩ := S.s
  let r1 : Rho := upd (upd (upd (upd r .waiting (.own (.list []))) .index (.val (.int i))) .at_ (.val (.int at_))) .places (.val (.list pl))
  have e1 : ft_pop r d = some (.next, r1, d) := by
    unfold ft_pop sPop; rw [S.w]; rfl
  have g1 : r1 .index = some (.val (.int i)) := rfl
  have g2 : r1 .at_ = some (.val (.int at_)) := rfl
  have g3 : r1 .width = some (.val (.int (tx.length + 1))) := S.wd
  have g4 : r1 .seen = some (.own (.dict ks)) := hs
  have hmul : ((i + 1 : Nat) : Int) * (tx.length + 1) = (i : Int) * (tx.length + 1) + (tx.length + 1) := by
    rw [show ((i + 1 : Nat) : Int) = (i : Int) + 1 by omega, Int.add_mul, Int.one_mul]
  have nc : ks.contains ((i : Int) * (tx.length + 1) + at_) = false := by
    rw [List.contains_eq_any_beq, List.any_eq_false]
    intro k hkm q
    have := hk k hkm
    have q := beq_iff_eq.mp q
    omega
  have kk := key_ev (d := d) g1 g3 g2 hi hn
  have e2 : ft_in r1 d = some (.next, r1, d) := by
    refine (sIf_f (d1 := d) (bCmp_ev kk (xPeek_own g4) ?_)).trans seqs_nil
    show some (ks.contains _) = _
    rw [nc]
  have e3 : ft_key r1 d = some (.next, upd r1 .seen (.own (.dict (ks ++ [(i : Int) * (tx.length + 1) + at_]))), d) := by
    unfold ft_key sSetKey; rw [kk]; dsimp only; rw [g4]; dsimp only; rw [if_pos ⟨by omega, nc⟩]
  refine ⟨upd r1 .seen (.own (.dict (ks ++ [(i : Int) * (tx.length + 1) + at_]))), ⟨S.p, S.c, S.f, rfl, ⟨ks ++ [(i : Int) * (tx.length + 1) + at_], rfl, by simp; omega, fun k hkm => ?_⟩, S.wd, rfl, rfl, rfl⟩, ?_⟩
  · rcases List.mem_append.mp hkm with q | q
    · have := hk k q; omega
    · simp only [List.mem_singleton] at q; omega
  · unfold fitBody
    rw [seqs_next e1, seqs_next e2, seqs_next e3]

/-! the four turns -/
theorem len_ev {x : N} {r : Rho} {d : Dk} {s : List T} (h : r x = some (.val (.list s))) : x1 tLen (xVar x) r d = some (.int s.length, d) := x1_ev (xVar_ev h) rfl
theorem lenS_ev {x : N} {r : Rho} {d : Dk} {s : List Nat} (h : r x = some (.val (.str s))) : x1 tLen (xVar x) r d = some (.int s.length, d) := x1_ev (xVar_ev h) rfl
theorem tAdd_list (a b : List T) (h : a.length + b.length ≤ 1000) : tAdd (.list a) (.list b) = some (.list (a ++ b)) := by
  show (if (a ++ b).length ≤ szL then _ else _) = _
  rw [if_pos (by rw [List.length_append]; have := szL_eq; omega)]
theorem pl_ev {r : Rho} {d : Dk} (h1 : r .places = some (.val (.list pl))) (h2 : r .at_ = some (.val (.int at_))) (hl : pl.length ≤ 50) : (x2 tAdd (xVar .places) (xList [(xVar .at_)])) r d = some (.list (pl ++ [.int at_]), d) :=
  x2_ev (xVar_ev h1) (xList_ev (xs_cons (xVar_ev h2) xs_nil)) (tAdd_list _ _ (by simp; omega))
theorem eqI (a b : Int) : tCmp .eq (.int a) (.int b) = some (decide (a = b)) := rfl
theorem eqS (a b : List Nat) : tCmp .eq (.str a) (.str b) = some (decide (a = b)) := rfl
theorem app_ev {x : N} {f : X} {r : Rho} {d d1 : Dk} {t : T} {l : List T} (h : f r d = some (t, d1)) (hx : r x = some (.own (.list l))) (hl : l.length ≤ 1000) : sApp x f r d = some (.next, upd r x (.own (.list (l ++ [t]))), d1) := by
  unfold sApp; rw [h]; dsimp only; rw [hx]; dsimp only; rw [if_pos (by have := szL_eq; omega)]
theorem item_ev (M : Mid pat tx f i at_ pl r) (hi : i < 1000) {t : T} (ht : pat[i]? = some t) : ft_item r d = some (.next, upd r .item (.val t), d) :=
  sAsg_ev (x2_ev (xPeek_ev M.p) (xVar_ev M.ix) (tIdx_list_ok _ _ (by omega) _ ht))
theorem end_f (M : Mid pat tx f i at_ pl r) (h : i ≠ pat.length) : ft_end r d = some (.next, r, d) :=
  (sIf_f (d1 := d) (bCmp_ev (xPeek_ev M.ix) (len_ev M.p) (by rw [eqI, decide_eq_false (by omega)]))).trans seqs_nil
theorem fit_end (M : Mid pat tx f i at_ pl r) (h : i = pat.length) (ha : at_ = tx.length) (hl : pl.length ≤ 50) : ∃ r', seqs fitRest r d = some (.ret (.fit (.list (pl ++ [.int at_]))), r', d) := by
  refine ⟨_, seqs_ret ((sIf_t (d1 := d) (bCmp_ev (xPeek_ev M.ix) (len_ev M.p) (by rw [eqI, decide_eq_true (by omega)]))).trans (seqs_ret ((sIf_t (d1 := d) (bCmp_ev (xPeek_ev M.at') (lenS_ev M.c) (by rw [eqI, decide_eq_true (by omega)]))).trans (seqs_ret (sRet_ev (xCall_ev (xs_cons (pl_ev M.pl M.at' hl) xs_nil) rfl))))))⟩

theorem fit_str (M : Mid pat tx f i at_ pl r) {S : List Nat} (ht : pat[i]? = some (.str S)) (hi : i ≤ 50) (hx : Ok tx) (hS : Ok S) (ha : at_ ≤ tx.length) (hh : fd f (slice tx at_ S.length) = fd f S) (hl : pl.length ≤ 50) :
    ∃ r', St pat tx f (i + 1) (at_ + S.length) (pl ++ [.int at_]) r' ∧ seqs fitRest r d = some (.cont, r', d) := by
  have hlt : i < pat.length := by
    rcases Nat.lt_or_ge i pat.length with h | h
    · exact h
    · rw [List.getElem?_eq_none h] at ht; cases ht
  have hxl := hx.len
  have hSl := hS.len
  let r1 : Rho := upd r .item (.val (.str S))
  have g1 : (x2 tAdd (xVar .at_) (x1 tLen (xVar .item))) r1 d = some (.int ((at_ : Int) + S.length), d) := x2_ev (xVar_ev (upd_get M.at' (by decide))) (lenS_ev (upd_same _ _ _)) rfl
  have g2 : (xTup [(x2 tAdd (xVar .index) (xC (.int 1))), (x2 tAdd (xVar .at_) (x1 tLen (xVar .item))), (x2 tAdd (xVar .places) (xList [(xVar .at_)]))]) r1 d = some (.tup [.int ((i : Int) + 1), .int ((at_ : Int) + S.length), .list (pl ++ [.int at_])], d) :=
    xTup_ev (xs_cons (x2_ev (xVar_ev (upd_get M.ix (by decide))) xC_ev rfl) (xs_cons g1 (xs_cons (pl_ev (upd_get M.pl (by decide)) (upd_get M.at' (by decide)) hl) xs_nil)))
  have g3 : bCmp .eq (xCall sp_folded [(xSl (xPeek .candidate) (some (xVar .at_)) (some (x2 tAdd (xVar .at_) (x1 tLen (xVar .item))))), (xVar .is_folding)]) (xCall sp_folded [(xVar .item), (xVar .is_folding)]) r1 d = some (true, d) :=
    bCmp_ev (xCall_ev (xs_cons (xSl_ev (xPeek_ev (upd_get M.c (by decide))) (oInt_ev (xVar_ev (upd_get M.at' (by decide)))) (oInt_ev g1) (tSl_two _ _ _ (by omega) (by omega))) (xs_cons (xVar_ev (upd_get M.f (by decide))) xs_nil)) ((hx.slice _ _).folded f d))
      (xCall_ev (xs_cons (xVar_ev (upd_same _ _ _)) (xs_cons (xVar_ev (upd_get M.f (by decide))) xs_nil)) (hS.folded f d)) (by rw [hh, eqS, decide_eq_true rfl])
  have e1 : ft_str r1 d = some (.cont, upd r1 .waiting (.own (.list [.tup [.int ((i : Int) + 1), .int ((at_ : Int) + S.length), .list (pl ++ [.int at_])]])), d) := by
    refine (sIf_t (d1 := d) (bNot_ev (bOf_ev (xCall_ev (xs_cons (xVar_ev (upd_same _ _ _)) xs_nil) (gap_str S d)) rfl))).trans ?_
    refine (seqs_next ((sIf_t g3).trans ((seqs_next (app_ev g2 (upd_get M.w (by decide)) (by simp))).trans seqs_nil))).trans ?_
    exact seqs_cont rfl
  obtain ⟨ks, hs, hkl, hk⟩ := M.s
  refine ⟨upd r1 .waiting (.own (.list [.tup [.int ((i : Int) + 1), .int ((at_ : Int) + S.length), .list (pl ++ [.int at_])]])), ⟨M.p, M.c, M.f, ?_, ⟨ks, hs, hkl, hk⟩, M.wd⟩, ?_⟩
  · rw [upd_same]; simp
  · unfold fitRest
    rw [seqs_next (end_f M (by omega)), seqs_next (item_ev M (by omega) ht)]
    exact seqs_cont e1

theorem find_some {p : Nat → Bool} {k j0 : Nat} (hj : j0 < k) (hp : p j0 = true) (hn : ∀ j, j < j0 → p j = false) : (List.range k).find? p = some j0 := by
  rw [List.find?_range_eq_some]
  exact ⟨hp, List.mem_range.mpr hj, fun j h => by rw [hn j h]; rfl⟩
theorem find_none {p : Nat → Bool} {k : Nat} (hn : ∀ j, j < k → p j = false) : (List.range k).find? p = none := by
  rw [List.find?_eq_none]
  intro j hj; rw [hn j (List.mem_range.mp hj)]; decide
theorem gapT (g : Int) {r : Rho} {d : Dk} (h : r .item = some (.val (.int g))) : ft_str r d = some (.next, r, d) :=
  (sIf_f (d1 := d) (bNot_ev (bOf_ev (xCall_ev (xs_cons (xVar_ev h) xs_nil) (gap_int g d)) rfl))).trans seqs_nil
theorem last_ev {g : Int} (hg : g ≠ 1) {r : Rho} {d : Dk} (h : r .item = some (.val (.int g))) (hc : r .candidate = some (.val (.str tx))) : ft_last r d = some (.next, upd r .last (.val (.int tx.length)), d) :=
  sAsg_ev ((xIte_f (d1 := d) (bCmp_ev (xPeek_ev h) xC_ev (by rw [eqI, decide_eq_false hg]))).trans (lenS_ev hc))
theorem fit_glast (M : Mid pat tx f i at_ pl r) {g : Int} (hg : g ≠ 1) (ht : pat[i]? = some (.int g)) (hi : i ≤ 50) (he : i + 1 = pat.length) (hl : pl.length ≤ 50) :
    ∃ r', St pat tx f (i + 1) tx.length (pl ++ [.int at_]) r' ∧ seqs fitRest r d = some (.cont, r', d) := by
  let r1 : Rho := upd r .item (.val (.int g))
  let r2 : Rho := upd r1 .last (.val (.int tx.length))
  have i2 : r2 .index = some (.val (.int i)) := M.ix
  have p2 : r2 .pattern = some (.val (.list pat)) := M.p
  have c2 : r2 .candidate = some (.val (.str tx)) := M.c
  have l2 : r2 .last = some (.val (.int tx.length)) := rfl
  have w2' : r2 .waiting = some (.own (.list [])) := M.w
  have g2 : (xTup [(x2 tAdd (xVar .index) (xC (.int 1))), (xVar .last), (x2 tAdd (xVar .places) (xList [(xVar .at_)]))]) r2 d = some (.tup [.int ((i : Int) + 1), .int tx.length, .list (pl ++ [.int at_])], d) :=
    xTup_ev (xs_cons (x2_ev (xVar_ev (t := .int i) M.ix) xC_ev rfl) (xs_cons (xVar_ev (upd_same _ _ _)) (xs_cons (pl_ev (r := r2) M.pl M.at' hl) xs_nil)))
  have e1 : ft_glast r2 d = some (.cont, upd r2 .waiting (.own (.list [.tup [.int ((i : Int) + 1), .int tx.length, .list (pl ++ [.int at_])]])), d) := by
    refine (sIf_t (d1 := d) (bCmp_ev (r := r2) (b := .int ((pat.length : Int) - 1)) (xPeek_ev i2) (x2_ev (len_ev p2) xC_ev rfl) (by rw [eqI, decide_eq_true (by omega)]))).trans ?_
    refine (seqs_next ((sIf_t (d1 := d) (bCmp_ev (xPeek_ev l2) (lenS_ev c2) (by rw [eqI, decide_eq_true rfl]))).trans ((seqs_next (app_ev g2 w2' (by simp))).trans seqs_nil))).trans ?_
    exact seqs_cont rfl
  obtain ⟨ks, hs, hkl, hk⟩ := M.s
  refine ⟨upd r2 .waiting (.own (.list [.tup [.int ((i : Int) + 1), .int tx.length, .list (pl ++ [.int at_])]])), ⟨M.p, M.c, M.f, ?_, ⟨ks, hs, hkl, hk⟩, M.wd⟩, ?_⟩
  · rw [upd_same]; simp
  · unfold fitRest
    rw [seqs_next (end_f M (by omega)), seqs_next (item_ev M (by omega) ht), seqs_next (gapT g (upd_same _ _ _)), seqs_next (last_ev (tx := tx) hg (upd_same _ _ _) M.c)]
    exact seqs_cont e1

theorem fit_gmid (M : Mid pat tx f i at_ pl r) {g : Int} (hg : g ≠ 1) (ht : pat[i]? = some (.int g)) {S : List Nat} (ht2 : pat[i + 1]? = some (.str S)) (hi : i ≤ 50) (hx : Ok tx) (hS : Ok S) (s : Nat) (h1 : at_ ≤ s) (h2 : s ≤ tx.length)
    (hu : ∀ j, at_ ≤ j → j ≤ tx.length → hits f S tx j = decide (j = s)) (hl : pl.length ≤ 50) :
    ∃ r', St pat tx f (i + 1) s (pl ++ [.int at_]) r' ∧ seqs fitRest r d = some (.next, r', d) := by
  have hlt : i + 1 < pat.length := by
    rcases Nat.lt_or_ge (i + 1) pat.length with h | h
    · exact h
    · rw [List.getElem?_eq_none h] at ht2; cases ht2
  have hxl := hx.len
  have hSl := hS.len
  let r1 : Rho := upd r .item (.val (.int g))
  let r2 : Rho := upd r1 .last (.val (.int tx.length))
  let r3 : Rho := upd r2 .text (.val (.str S))
  let r4 : Rho := upd r3 .further (.own (.list []))
  let r5 : Rho := upd r4 .spot (.val (.int s))
  let r6 : Rho := upd r5 .further (.own (.list [.tup [.int ((i : Int) + 1), .int s, .list (pl ++ [.int at_])]]))
  let r7 : Rho := upd r6 .spot (.val (.int (-1)))
  have i2 : r2 .index = some (.val (.int i)) := M.ix
  have p2 : r2 .pattern = some (.val (.list pat)) := M.p
  have c2 : r2 .candidate = some (.val (.str tx)) := M.c
  have l2 : r2 .last = some (.val (.int tx.length)) := rfl
  have w2' : r2 .waiting = some (.own (.list [])) := M.w
  have e1 : ft_glast r2 d = some (.next, r2, d) :=
    (sIf_f (d1 := d) (bCmp_ev (r := r2) (b := .int ((pat.length : Int) - 1)) (xPeek_ev i2) (x2_ev (len_ev p2) xC_ev rfl) (by rw [eqI, decide_eq_false (by omega)]))).trans seqs_nil
  have e2 : ft_text r2 d = some (.next, r3, d) := by
    refine sAsg_ev (x2_ev (xPeek_ev (t := .list pat) M.p) (x2_ev (xVar_ev (t := .int i) M.ix) xC_ev rfl) ?_)
    exact tIdx_list_ok pat (i + 1) (by omega) _ ht2
  have e3 : ft_fur r3 d = some (.next, r4, d) := rfl
  have fev : ∀ (a k : Nat), a + k = tx.length + 1 → sp_found_from [.str S, .str tx, .int a, .int ((tx.length : Int) + S.length), .bool f] d = some (.int (match (List.range k).find? fun j => hits f S tx (a + j) with | some j => ((a + j : Nat) : Int) | none => -1), d) := fun a k hk => by
    have := found_ev (f := f) hS hx a k (by omega) d
    rw [show (a : Int) + (k : Int) - 1 + S.length = (tx.length : Int) + S.length by omega] at this
    exact this
  have e4 : ft_spot r4 d = some (.next, r5, d) := by
    refine sAsg_ev (xCall_ev (xs_cons (xVar_ev (t := .str S) rfl) (xs_cons (xVar_ev (t := .str tx) M.c) (xs_cons (xVar_ev (t := .int at_) M.at') (xs_cons (x2_ev (xVar_ev (t := .int tx.length) rfl) (lenS_ev (s := S) rfl) rfl) (xs_cons (xVar_ev (t := .bool f) M.f) xs_nil))))) ?_)
    rw [fev at_ (tx.length + 1 - at_) (by omega), find_some (j0 := s - at_) (by omega) (by rw [hu _ (by omega) (by omega), decide_eq_true (by omega)]) (fun j hj => by rw [hu _ (by omega) (by omega), decide_eq_false (by omega)])]
    dsimp only
    rw [show at_ + (s - at_) = s by omega]
  have w1 : fitWc r5 d = some (true, d) := by
    refine (bAll_t (d1 := d) (bCmp_ev (xPeek_ev (t := .int s) rfl) xC_ev ?_)).trans ((bAll_t (d1 := d) (bCmp_ev (xPeek_ev (t := .int s) rfl) (xPeek_ev (t := .int tx.length) rfl) ?_)).trans bAll_nil)
    · show some (decide ((0 : Int) ≤ s)) = _; rw [decide_eq_true (by omega)]
    · show some (decide ((s : Int) ≤ tx.length)) = _; rw [decide_eq_true (by omega)]
  have i5 : r5 .index = some (.val (.int i)) := M.ix
  have s5 : r5 .spot = some (.val (.int s)) := rfl
  have c6 : r6 .candidate = some (.val (.str tx)) := M.c
  have f6 : r6 .is_folding = some (.val (.bool f)) := M.f
  have t6 : r6 .text = some (.val (.str S)) := rfl
  have s6 : r6 .spot = some (.val (.int s)) := rfl
  have l6 : r6 .last = some (.val (.int tx.length)) := rfl
  have w2 : fitWb r5 d = some (.next, r7, d) := by
    refine (seqs_next (app_ev (x := .further) (r := r5) (l := []) (t := .tup [.int ((i : Int) + 1), .int s, .list (pl ++ [.int at_])]) (xTup_ev (xs_cons (x2_ev (xVar_ev i5) xC_ev rfl) (xs_cons (xVar_ev s5) (xs_cons (pl_ev (r := r5) M.pl M.at' hl) xs_nil)))) rfl (by simp))).trans ?_
    refine (seqs_next (sAsg_ev (r := r6) (d1 := d) (t := .int (-1)) (xCall_ev (xs_cons (xVar_ev t6) (xs_cons (xVar_ev c6) (xs_cons (x2_ev (xVar_ev s6) xC_ev rfl) (xs_cons (x2_ev (xVar_ev l6) (lenS_ev t6) rfl) (xs_cons (xVar_ev f6) xs_nil))))) ?_))).trans seqs_nil
    have := fev (s + 1) (tx.length - s) (by omega)
    rw [find_none (fun j hj => by rw [hu _ (by omega) (by omega), decide_eq_false (by omega)])] at this
    exact this
  have w3 : fitWc r7 d = some (false, d) := by
    refine bAll_f (d1 := d) (bCmp_ev (xPeek_ev (t := .int (-1)) rfl) xC_ev ?_)
    show some (decide ((0 : Int) ≤ -1)) = _; rw [decide_eq_false (by omega)]
  have e5 : ft_wh r5 d = some (.next, r7, d) := by
    unfold ft_wh sWhile
    rw [whGo_next w1 w2, whGo_done w3]
  let r8 : Rho := upd r7 .further (.val (.list [.tup [.int ((i : Int) + 1), .int s, .list (pl ++ [.int at_])]]))
  have e6 : ft_ext r7 d = some (.next, upd r8 .waiting (.own (.list [.tup [.int ((i : Int) + 1), .int s, .list (pl ++ [.int at_])]])), d) := by
    show sExt .waiting (x1 tRev (xVar .further)) r8 d = _
    unfold sExt
    rw [x1_ev (c := .list [.tup [.int ((i : Int) + 1), .int s, .list (pl ++ [.int at_])]]) (xVar_ev (t := .list [.tup [.int ((i : Int) + 1), .int s, .list (pl ++ [.int at_])]]) rfl) rfl]
    dsimp only
    rw [show r8 .waiting = some (.own (.list [])) from M.w]
    dsimp only
    rw [if_pos (by simp [szL_eq])]; rfl
  obtain ⟨ks, hs, hkl, hk⟩ := M.s
  refine ⟨upd r8 .waiting (.own (.list [.tup [.int ((i : Int) + 1), .int s, .list (pl ++ [.int at_])]])), ⟨M.p, M.c, M.f, ?_, ⟨ks, hs, hkl, hk⟩, M.wd⟩, ?_⟩
  · rw [upd_same]; simp
  · unfold fitRest
    rw [seqs_next (end_f M (by omega)), seqs_next (item_ev M (by omega) ht), seqs_next (gapT g (upd_same _ _ _)), seqs_next (last_ev (tx := tx) hg (upd_same _ _ _) M.c), seqs_next e1, seqs_next e2, seqs_next e3, seqs_next e4, seqs_next e5, seqs_next e6]
    rfl
end Mine
end

section
set_option linter.unusedSimpArgs false
set_option linter.unusedVariables false
namespace Mine

/-- a pattern lies on a text, part by part -/
inductive Fits (f : Bool) (tx : List Nat) : Nat → List T → List (List Nat) → Prop
  | done : Fits f tx tx.length [] []
  | str {a S p s ss} : Ok S → fd f (slice tx a S.length) = fd f S → a ≤ tx.length → s = slice tx a S.length → Fits f tx (a + S.length) p ss → Fits f tx a (.str S :: p) (s :: ss)
  | glast {a g s} : g ≠ 1 → a ≤ tx.length → s = tx.drop a → Fits f tx a [.int g] [s]
  | gmid {a g S p s ss j} : g ≠ 1 → Ok S → a ≤ j → j ≤ tx.length → (∀ k, a ≤ k → k ≤ tx.length → hits f S tx k = decide (k = j)) → s = slice tx a (j - a) → Fits f tx j (.str S :: p) ss → Fits f tx a (.int g :: .str S :: p) (s :: ss)
noncomputable def plsN : Nat → List (List Nat) → List Nat
  | a, [] => [a]
  | a, s :: ss => a :: plsN (a + s.length) ss
noncomputable def intT (n : Nat) : T := .int n
variable {pat : List T} {tx : List Nat} {f : Bool} {i at_ : Nat} {pl : List T} {r : Rho} {d : Dk}

theorem sliceN_full {a n : Nat} (h : a + n ≤ tx.length) : (slice tx a n).length = n := by simp [slice]; omega
theorem strL_len {a : Nat} {S : List Nat} (h : fd f (slice tx a S.length) = fd f S) : (slice tx a S.length).length = S.length := by
  have := congrArg List.length h
  rwa [fd_len, fd_len] at this
theorem Fits.le {a : Nat} {p : List T} {ss : List (List Nat)} (h : Fits f tx a p ss) : a ≤ tx.length := by cases h <;> first | assumption | omega
theorem Fits.run {a : Nat} {rest : List T} {segs : List (List Nat)} (h : Fits f tx a rest segs) : ∀ {pre : List T} {pl : List T} {r : Rho} {fuel : Nat}, Ok tx → pre.length + rest.length ≤ 40 → rest.length < fuel → pl.length = pre.length →
    St (pre ++ rest) tx f pre.length a pl r → ∃ r', whGo fitCond fitBody fuel r d = some (.ret (.fit (.list (pl ++ (plsN a segs).map intT))), r', d) := by
  induction h with
  | done =>
    intro pre pl r fuel hx hl hf hpl S
    cases fuel with
    | zero => omega
    | succ fuel =>
      obtain ⟨r2, M, e⟩ := fit_pre (d := d) S (by omega) hx.len (Nat.le_refl _)
      obtain ⟨r3, e3⟩ := fit_end (d := d) M (by simp) rfl (by omega)
      exact ⟨r3, whGo_ret (fit_cond S) (e.trans e3)⟩
  | @str a S p s ss hS hh ha hs hrest ih =>
    intro pre pl r fuel hx hl hf hpl Sx
    cases fuel with
    | zero => omega
    | succ fuel =>
      simp only [List.length_cons] at hl hf
      obtain ⟨r2, M, e⟩ := fit_pre (d := d) Sx (by omega) hx.len ha
      obtain ⟨r3, S3, e3⟩ := fit_str (d := d) M (S := S) (by simp) (by omega) hx hS ha hh (by omega)
      have e0 : pre ++ T.str S :: p = (pre ++ [T.str S]) ++ p := by simp
      have S3' : St ((pre ++ [T.str S]) ++ p) tx f (pre ++ [T.str S]).length (a + S.length) (pl ++ [.int a]) r3 := by rw [← e0]; simpa using S3
      obtain ⟨r4, e4⟩ := ih (pre := pre ++ [T.str S]) (pl := pl ++ [.int a]) (fuel := fuel) hx (by simp; omega) (by omega) (by simp [hpl]) S3'
      refine ⟨r4, (whGo_cont (fit_cond Sx) (e.trans e3)).trans (e4.trans ?_)⟩
      have hsl : s.length = S.length := by rw [hs]; exact strL_len hh
      simp [plsN, hsl, intT]
  | @glast a g s hg ha hs =>
    intro pre pl r fuel hx hl hf hpl Sx
    cases fuel with
    | zero => omega
    | succ fuel =>
      simp only [List.length_cons, List.length_nil] at hl hf
      obtain ⟨r2, M, e⟩ := fit_pre (d := d) Sx (by omega) hx.len ha
      obtain ⟨r3, S3, e3⟩ := fit_glast (d := d) M (g := g) hg (by simp) (by omega) (by simp) (by omega)
      cases fuel with
      | zero => omega
      | succ fuel =>
        obtain ⟨r4, M4, e4⟩ := fit_pre (d := d) S3 (by omega) hx.len (Nat.le_refl _)
        obtain ⟨r5, e5⟩ := fit_end (d := d) M4 (by simp) rfl (by simp; omega)
        refine ⟨r5, (whGo_cont (fit_cond Sx) (e.trans e3)).trans ((whGo_ret (fit_cond S3) (e4.trans e5)).trans ?_)⟩
        have hsl : a + s.length = tx.length := by rw [hs]; simp; omega
        simp [plsN, hsl, intT]
  | @gmid a g S p s ss j hg hS h1 h2 hu hs hrest ih =>
    intro pre pl r fuel hx hl hf hpl Sx
    cases fuel with
    | zero => omega
    | succ fuel =>
      simp only [List.length_cons] at hl hf
      obtain ⟨r2, M, e⟩ := fit_pre (d := d) Sx (by omega) hx.len (by omega)
      obtain ⟨r3, S3, e3⟩ := fit_gmid (d := d) M (g := g) hg (by simp) (S := S) (by simp) (by omega) hx hS j h1 h2 hu (by omega)
      have e0 : pre ++ T.int g :: T.str S :: p = (pre ++ [T.int g]) ++ (T.str S :: p) := by simp
      have S3' : St ((pre ++ [T.int g]) ++ (T.str S :: p)) tx f (pre ++ [T.int g]).length j (pl ++ [.int a]) r3 := by rw [← e0]; simpa using S3
      obtain ⟨r4, e4⟩ := ih (pre := pre ++ [T.int g]) (pl := pl ++ [.int a]) (fuel := fuel) hx (by simp; omega) (by simp; omega) (by simp [hpl]) S3'
      refine ⟨r4, (whGo_next (fit_cond Sx) (e.trans e3)).trans (e4.trans ?_)⟩
      have hsl : a + s.length = j := by rw [hs, sliceN_full (by omega)]; omega
      simp [plsN, hsl, intT]

theorem fit_ev {segs : List (List Nat)} (h : Fits f tx 0 pat segs) (hx : Ok tx) (hl : pat.length ≤ 40) (d : Dk) :
    sp_fit_of [.list pat, .str tx, .bool f] d = some (.fit (.list ((plsN 0 segs).map intT)), d) := by
  let r0 : Rho := upd (upd (upd (fun _ => none) .is_folding (.val (.bool f))) .candidate (.val (.str tx))) .pattern (.val (.list pat))
  let r1 : Rho := upd (upd (upd r0 .width (.val (.int ((tx.length : Int) + 1)))) .seen (.own (.dict []))) .waiting (.own (.list [.tup [.int 0, .int 0, .list []]]))
  refine fnGo_of (r := r0) rfl ?_
  have e1 : ft_init r0 d = some (.next, r1, d) := rfl
  obtain ⟨r2, e2⟩ := h.run (d := d) (pre := []) (pl := []) (r := r1) (fuel := 100) hx (by simpa using hl) (by omega) rfl ⟨rfl, rfl, rfl, rfl, ⟨[], rfl, by simp, by simp⟩, rfl⟩
  rw [f_fit_of_eq, seqs_next e1]
  exact ⟨r2, seqs_ret e2⟩

theorem Fits.flat {a : Nat} {p : List T} {ss : List (List Nat)} (h : Fits f tx a p ss) : ss.flatten = tx.drop a := by
  induction h with
  | done => simp
  | @str a S p s ss hS hh ha hs hrest ih =>
    rw [List.flatten_cons, ih, hs]
    have := hrest.le
    simp only [slice]
    rw [← List.drop_drop, List.take_append_drop]
  | glast hg ha hs => simp [hs]
  | @gmid a g S p s ss j hg hS h1 h2 hu hs hrest ih =>
    rw [List.flatten_cons, ih, hs]
    simp only [slice]
    rw [show j = a + (j - a) by omega, ← List.drop_drop]
    simp only [Nat.add_sub_cancel_left, List.take_append_drop]
theorem pls_get : ∀ {segs : List (List Nat)} {a i : Nat} {s : List Nat}, segs.flatten = tx.drop a → segs[i]? = some s → ∃ b, (plsN a segs)[i]? = some b ∧ (plsN a segs)[i + 1]? = some (b + s.length) ∧ slice tx b s.length = s
  | [], a, i, s, _, e => by simp at e
  | t :: ss, a, 0, s, h, e => by
    cases e
    refine ⟨a, rfl, ?_, ?_⟩
    · cases ss <;> rfl
    · unfold slice; rw [← h]; simp
  | t :: ss, a, i + 1, s, h, e => by
    have h2 : ss.flatten = tx.drop (a + t.length) := by
      rw [← List.drop_drop, ← h]; simp
    obtain ⟨b, h3, h4, h5⟩ := pls_get (i := i) h2 (by simpa using e)
    exact ⟨b, h3, h4, h5⟩
end Mine
end

section
set_option linter.unusedSimpArgs false
set_option linter.unusedVariables false
namespace Mine
variable {r : Rho} {d : Dk}

noncomputable def td1 : SX := (sIf (bAll [(bCmp .eq (xPeek .item) (xC (.str []))), (bNot (bOf (xCall sp_is_gap [(xVar .item)])))]) (seqs [sCont]) (seqs []))
noncomputable def td2 : SX := (sIf (bAll [(bCmp .ne (xPeek .found) (xList [])), (bOf (xCall sp_is_gap [(xVar .item)])), (bOf (xCall sp_is_gap [(x2 tIdx (xPeek .found) (x1 tNeg (xC (.int 1))))]))]) (seqs [(sIf (bAny [(bCmp .eq (xPeek .item) (xC (.int 2))), (bCmp .eq (x2 tIdx (xPeek .found) (x1 tNeg (xC (.int 1)))) (xC (.int 1)))]) (seqs [(sSetLast .found (xVar .item))]) (seqs []))]) (seqs [(sIf (bAll [(bCmp .ne (xPeek .found) (xList [])), (bNot (bOf (xCall sp_is_gap [(xVar .item)]))), (bNot (bOf (xCall sp_is_gap [(x2 tIdx (xPeek .found) (x1 tNeg (xC (.int 1))))])))]) (seqs [(sSetLast .found (x2 tAdd (x2 tIdx (xPeek .found) (x1 tNeg (xC (.int 1)))) (xVar .item)))]) (seqs [(sApp .found (xVar .item))]))]))
theorem f_tidied_eq : f_tidied = seqs [sOwn .found [], sFor .item (xVar .pattern) (seqs [td1, td2]), sRetVar .found] := rfl
theorem tIdx_last (l : List T) (t : T) : tIdx (.list (l ++ [t])) (.int (-1)) = some t := by
  have f1 : fitI (-1) = true := fitI_small (by omega) (by omega)
  have hp : pyIdx (-1) (l ++ [t]).length = some l.length := by
    unfold pyIdx
    rw [if_neg (by omega), if_pos (by simp; omega)]; simp; omega
  unfold tIdx
  refine (if_pos f1).trans ?_
  rw [hp]; simp
theorem last1 {l : List T} {t : T} (h : r .found = some (.own (.list (l ++ [t])))) : (x2 tIdx (xPeek .found) (x1 tNeg (xC (.int 1)))) r d = some (t, d) :=
  x2_ev (xPeek_own h) (x1_ev (c := .int (-1)) xC_ev rfl) (tIdx_last l t)
theorem ne_nil (l : List T) : tCmp .ne (.list l) (.list []) = some (!l.isEmpty) := rfl
theorem isg_int {g : Int} (h : r .item = some (.val (.int g))) : bOf (xCall sp_is_gap [(xVar .item)]) r d = some (true, d) := bOf_ev (xCall_ev (xs_cons (xVar_ev h) xs_nil) (gap_int g d)) rfl
theorem isg_str {S : List Nat} (h : r .item = some (.val (.str S))) : bOf (xCall sp_is_gap [(xVar .item)]) r d = some (false, d) := bOf_ev (xCall_ev (xs_cons (xVar_ev h) xs_nil) (gap_str S d)) rfl
theorem td_skip (h : r .item = some (.val (.str []))) : seqs [td1, td2] r d = some (.cont, r, d) :=
  seqs_cont ((sIf_t (d1 := d) ((bAll_t (d1 := d) (bCmp_ev (xPeek_ev h) xC_ev rfl)).trans ((bAll_t (d1 := d) (bNot_ev (isg_str h))).trans bAll_nil))).trans (seqs_cont rfl))
theorem td1_int {g : Int} (h : r .item = some (.val (.int g))) : td1 r d = some (.next, r, d) :=
  (sIf_f (d1 := d) (bAll_f (d1 := d) (bCmp_ev (xPeek_ev h) xC_ev rfl))).trans seqs_nil
theorem td1_str {S : List Nat} (hS : S ≠ []) (h : r .item = some (.val (.str S))) : td1 r d = some (.next, r, d) :=
  (sIf_f (d1 := d) (bAll_f (d1 := d) (bCmp_ev (xPeek_ev h) xC_ev (by rw [eqS, decide_eq_false hS])))).trans seqs_nil
theorem td_app_nil {t : T} (h : r .item = some (.val t)) (h1 : td1 r d = some (.next, r, d)) (hf : r .found = some (.own (.list []))) : seqs [td1, td2] r d = some (.next, upd r .found (.own (.list [t])), d) := by
  rw [seqs_next h1]
  refine (seqs_next ?_).trans seqs_nil
  refine (sIf_f (d1 := d) (bAll_f (d1 := d) (bCmp_ev (xPeek_own hf) (xList_ev xs_nil) rfl))).trans ?_
  refine (seqs_next ?_).trans seqs_nil
  refine (sIf_f (d1 := d) (bAll_f (d1 := d) (bCmp_ev (xPeek_own hf) (xList_ev xs_nil) rfl))).trans ?_
  exact (seqs_next (app_ev (xVar_ev h) hf (by simp))).trans seqs_nil
theorem td_app_int {g : Int} {l : List T} {S : List Nat} (h : r .item = some (.val (.int g))) (hf : r .found = some (.own (.list (l ++ [.str S])))) (hl : l.length ≤ 100) : seqs [td1, td2] r d = some (.next, upd r .found (.own (.list (l ++ [.str S] ++ [.int g]))), d) := by
  have hne : bCmp .ne (xPeek .found) (xList []) r d = some (true, d) := bCmp_ev (xPeek_own hf) (xList_ev xs_nil) (by rw [ne_nil]; simp)
  rw [seqs_next (td1_int h)]
  refine (seqs_next ?_).trans seqs_nil
  refine (sIf_f (d1 := d) ((bAll_t hne).trans ((bAll_t (isg_int h)).trans (bAll_f (d1 := d) (bOf_ev (xCall_ev (xs_cons (last1 hf) xs_nil) (gap_str S d)) rfl))))).trans ?_
  refine (seqs_next ?_).trans seqs_nil
  refine (sIf_f (d1 := d) ((bAll_t hne).trans (bAll_f (d1 := d) (bNot_ev (isg_int h))))).trans ?_
  exact (seqs_next (app_ev (xVar_ev h) hf (by simp; omega))).trans seqs_nil
theorem td_app_str {g : Int} {l : List T} {S : List Nat} (hS : S ≠ []) (h : r .item = some (.val (.str S))) (hf : r .found = some (.own (.list (l ++ [.int g])))) (hl : l.length ≤ 100) : seqs [td1, td2] r d = some (.next, upd r .found (.own (.list (l ++ [.int g] ++ [.str S]))), d) := by
  have hne : bCmp .ne (xPeek .found) (xList []) r d = some (true, d) := bCmp_ev (xPeek_own hf) (xList_ev xs_nil) (by rw [ne_nil]; simp)
  rw [seqs_next (td1_str hS h)]
  refine (seqs_next ?_).trans seqs_nil
  refine (sIf_f (d1 := d) ((bAll_t hne).trans (bAll_f (isg_str h)))).trans ?_
  refine (seqs_next ?_).trans seqs_nil
  refine (sIf_f (d1 := d) ((bAll_t hne).trans ((bAll_t (d1 := d) (bNot_ev (isg_str h))).trans (bAll_f (d1 := d) (bNot_ev (bOf_ev (xCall_ev (xs_cons (last1 hf) xs_nil) (gap_int g d)) rfl)))))).trans ?_
  exact (seqs_next (app_ev (xVar_ev h) hf (by simp; omega))).trans seqs_nil
theorem td_zero {l : List T} (h : r .item = some (.val (.int 0))) (hf : r .found = some (.own (.list (l ++ [.int 2])))) : seqs [td1, td2] r d = some (.next, r, d) := by
  have hne : bCmp .ne (xPeek .found) (xList []) r d = some (true, d) := bCmp_ev (xPeek_own hf) (xList_ev xs_nil) (by rw [ne_nil]; simp)
  rw [seqs_next (td1_int h)]
  refine (seqs_next ?_).trans seqs_nil
  refine (sIf_t (d1 := d) ((bAll_t hne).trans ((bAll_t (isg_int h)).trans ((bAll_t (d1 := d) (bOf_ev (xCall_ev (xs_cons (last1 hf) xs_nil) (gap_int 2 d)) rfl)).trans bAll_nil)))).trans ?_
  refine (seqs_next ?_).trans seqs_nil
  exact (sIf_f (d1 := d) ((bAny_f (d1 := d) (bCmp_ev (xPeek_ev h) xC_ev rfl)).trans ((bAny_f (d1 := d) (bCmp_ev (last1 hf) xC_ev rfl)).trans bAny_nil))).trans seqs_nil

noncomputable def TdRun (l p lf : List T) : Prop := ∀ (r : Rho) (d : Dk), r .found = some (.own (.list l)) → ∃ r', forGo .item (seqs [td1, td2]) p r d = some (.next, r', d) ∧ r' .found = some (.own (.list lf))
theorem tdr_nil {l : List T} : TdRun l [] l := fun r d h => ⟨r, rfl, h⟩
theorem tdr_int0 {g : Int} {p lf : List T} (k : TdRun [.int g] p lf) : TdRun [] (.int g :: p) lf := fun r d h => by
  obtain ⟨r', h1, h2⟩ := k _ d (upd_same _ _ _)
  exact ⟨r', (forGo_next (td_app_nil (upd_same _ _ _) (td1_int (upd_same _ _ _)) (upd_get h (by decide)))).trans h1, h2⟩
theorem tdr_str0 {S : List Nat} {p lf : List T} (hS : S ≠ []) (k : TdRun [.str S] p lf) : TdRun [] (.str S :: p) lf := fun r d h => by
  obtain ⟨r', h1, h2⟩ := k _ d (upd_same _ _ _)
  exact ⟨r', (forGo_next (td_app_nil (upd_same _ _ _) (td1_str hS (upd_same _ _ _)) (upd_get h (by decide)))).trans h1, h2⟩
theorem tdr_int {l : List T} {S : List Nat} {g : Int} {p lf : List T} (hl : l.length ≤ 100) (k : TdRun (l ++ [.str S] ++ [.int g]) p lf) : TdRun (l ++ [.str S]) (.int g :: p) lf := fun r d h => by
  obtain ⟨r', h1, h2⟩ := k _ d (upd_same _ _ _)
  exact ⟨r', (forGo_next (td_app_int (upd_same _ _ _) (upd_get h (by decide)) hl)).trans h1, h2⟩
theorem tdr_str {l : List T} {S : List Nat} {g : Int} {p lf : List T} (hS : S ≠ []) (hl : l.length ≤ 100) (k : TdRun (l ++ [.int g] ++ [.str S]) p lf) : TdRun (l ++ [.int g]) (.str S :: p) lf := fun r d h => by
  obtain ⟨r', h1, h2⟩ := k _ d (upd_same _ _ _)
  exact ⟨r', (forGo_next (td_app_str hS (upd_same _ _ _) (upd_get h (by decide)) hl)).trans h1, h2⟩
theorem tdr_skip {l p lf : List T} (k : TdRun l p lf) : TdRun l (.str [] :: p) lf := fun r d h => by
  obtain ⟨r', h1, h2⟩ := k (upd r .item (.val (.str []))) d (upd_get h (by decide))
  exact ⟨r', (forGo_cont (td_skip (upd_same _ _ _))).trans h1, h2⟩
theorem tdr_zero {l p lf : List T} (k : TdRun (l ++ [.int 2]) p lf) : TdRun (l ++ [.int 2]) (.int 0 :: p) lf := fun r d h => by
  obtain ⟨r', h1, h2⟩ := k (upd r .item (.val (.int 0))) d (upd_get h (by decide))
  exact ⟨r', (forGo_next (td_zero (upd_same _ _ _) (upd_get h (by decide)))).trans h1, h2⟩
theorem tidied_of {p l : List T} (hp : p.length ≤ 100) (h : TdRun [] p l) : sp_tidied [.list p] d = some (.list l, d) := by
  let r0 : Rho := upd (fun _ => none) .pattern (.val (.list p))
  let r1 : Rho := upd r0 .found (.own (.list []))
  refine fnGo_of (r := r0) rfl ?_
  obtain ⟨r2, h1, h2⟩ := h r1 d rfl
  have e0 : sOwn .found [] r0 d = some (.next, r1, d) := rfl
  have e1 : sFor .item (xVar .pattern) (seqs [td1, td2]) r1 d = some (.next, r2, d) := (sFor_ev (l := p) (xVar_ev (t := .list p) rfl) rfl (by have := szL_eq; omega)).trans h1
  refine ⟨r2, ?_⟩
  rw [f_tidied_eq, seqs_next e0, seqs_next e1]
  refine seqs_ret ?_
  unfold sRetVar; rw [h2]
theorem tidied_2 {A : List Nat} (hA : A ≠ []) : sp_tidied [.list [.str A, .int 2]] d = some (.list [.str A, .int 2], d) :=
  tidied_of (by simp) (tdr_str0 hA (tdr_int (l := []) (by simp) tdr_nil))
theorem tidied_4 {A B : List Nat} (hA : A ≠ []) (hB : B ≠ []) : sp_tidied [.list [.str A, .int 2, .str B, .int 0]] d = some (.list [.str A, .int 2, .str B, .int 0], d) :=
  tidied_of (by simp) (tdr_str0 hA (tdr_int (l := []) (by simp) (tdr_str (l := [.str A]) hB (by simp) (tdr_int (l := [.str A, .int 2]) (by simp) tdr_nil))))
theorem tidied_5 {A B : List Nat} (hA : A ≠ []) (hB : B ≠ []) : sp_tidied [.list [.int 0, .str A, .int 2, .str B, .int 0]] d = some (.list [.int 0, .str A, .int 2, .str B, .int 0], d) :=
  tidied_of (by simp) (tdr_int0 (tdr_str (l := []) hA (by simp) (tdr_int (l := [.int 0]) (by simp) (tdr_str (l := [.int 0, .str A]) hB (by simp) (tdr_int (l := [.int 0, .str A, .int 2]) (by simp) tdr_nil)))))
theorem tidied_3 {A : List Nat} (hA : A ≠ []) : sp_tidied [.list [.int 0, .str A, .int 2, .str [], .int 0]] d = some (.list [.int 0, .str A, .int 2], d) :=
  tidied_of (by simp) (tdr_int0 (tdr_str (l := []) hA (by simp) (tdr_int (l := [.int 0]) (by simp) (tdr_skip (tdr_zero (l := [.int 0, .str A]) tdr_nil)))))

/-! the patterns -/
noncomputable def basicS : List Nat := [98, 97, 115, 105, 99]
noncomputable def subS : List Nat := [115, 117, 98, 115, 116, 114, 105, 110, 103]
noncomputable def flexS : List Nat := [102, 108, 101, 120, 45, 108, 101, 115, 115]
noncomputable def basicP (t : List Nat) (k : Nat) : List T := if k < t.length then [.str (t.take k), .int 2, .str (t.drop k), .int 0] else [.str t, .int 2]
theorem basic_ev {t : List Nat} {k : Nat} (hk : k ≤ t.length) (h0 : 0 < k) (ht : t.length ≤ 100) : sp_basic_pattern [.str t, .int k] d = some (.list (basicP t k), d) := by
  let r0 : Rho := upd (upd (fun _ => none) .point (.val (.int k))) .text (.val (.str t))
  have p0 : r0 .point = some (.val (.int k)) := rfl
  have t0 : r0 .text = some (.val (.str t)) := rfl
  refine fnGo_of (r := r0) rfl ⟨r0, ?_⟩
  unfold f_basic_pattern basicP
  refine seqs_ret (sRet_ev ?_)
  by_cases h : k < t.length
  · rw [if_pos h]
    refine xCall_ev (xs_cons ((xIte_t (d1 := d) (bCmp_ev (xPeek_ev p0) (lenS_ev t0) ?_)).trans (xList_ev (xs_cons (xSl_ev (xPeek_ev t0) oInt_none (oInt_ev (xVar_ev p0)) (tSl_hi _ _ (by omega))) (xs_cons xC_ev (xs_cons (xSl_ev (xPeek_ev t0) (oInt_ev (xVar_ev p0)) oInt_none (tSl_lo _ _ (by omega))) (xs_cons xC_ev xs_nil)))))) xs_nil) ?_
    · show some (decide ((k : Int) < t.length)) = _; rw [decide_eq_true (by omega)]
    · exact tidied_4 (by intro q; have := congrArg List.length q; rw [List.length_take, List.length_nil] at this; omega) (by intro q; have := congrArg List.length q; rw [List.length_drop, List.length_nil] at this; omega)
  · rw [if_neg h]
    refine xCall_ev (xs_cons ((xIte_f (d1 := d) (bCmp_ev (xPeek_ev p0) (lenS_ev t0) ?_)).trans (xList_ev (xs_cons (xVar_ev t0) (xs_cons xC_ev xs_nil)))) xs_nil) ?_
    · show some (decide ((k : Int) < t.length)) = _; rw [decide_eq_false (by omega)]
    · exact tidied_2 (by intro q; subst q; simp at hk; omega)
noncomputable def subP (t : List Nat) (k : Nat) : List T := if k < t.length then [.int 0, .str (t.take k), .int 2, .str (t.drop k), .int 0] else [.int 0, .str t, .int 2]
theorem sub_ev {t : List Nat} {k : Nat} (hk : k ≤ t.length) (h0 : 0 < k) (ht : t.length ≤ 100) : sp_substring_pattern [.str t, .int k] d = some (.list (subP t k), d) := by
  let r0 : Rho := upd (upd (fun _ => none) .point (.val (.int k))) .text (.val (.str t))
  have p0 : r0 .point = some (.val (.int k)) := rfl
  have t0 : r0 .text = some (.val (.str t)) := rfl
  refine fnGo_of (r := r0) rfl ⟨r0, ?_⟩
  unfold f_substring_pattern subP
  refine seqs_ret (sRet_ev ?_)
  refine xCall_ev (xs_cons (xList_ev (xs_cons xC_ev (xs_cons (xSl_ev (xPeek_ev t0) oInt_none (oInt_ev (xVar_ev p0)) (tSl_hi _ _ (by omega))) (xs_cons xC_ev (xs_cons (xSl_ev (xPeek_ev t0) (oInt_ev (xVar_ev p0)) oInt_none (tSl_lo _ _ (by omega))) (xs_cons xC_ev xs_nil)))))) xs_nil) ?_
  by_cases h : k < t.length
  · rw [if_pos h]
    exact tidied_5 (by intro q; have := congrArg List.length q; rw [List.length_take, List.length_nil] at this; omega) (by intro q; have := congrArg List.length q; rw [List.length_drop, List.length_nil] at this; omega)
  · rw [if_neg h]
    have e1 : t.drop k = [] := List.drop_of_length_le (by omega)
    have e2 : t.take k = t := List.take_of_length_le (by omega)
    rw [e1, e2]
    exact tidied_3 (by intro q; subst q; simp at hk; omega)
theorem pat_basic {t : List Nat} {k : Nat} (hk : k ≤ t.length) (h0 : 0 < k) (ht : t.length ≤ 100) : sp_pattern_of [.str basicS, .str t, .int k] d = some (.list (basicP t k), d) := by
  let r0 : Rho := upd (upd (upd (fun _ => none) .point (.val (.int k))) .text (.val (.str t))) .style (.val (.str basicS))
  refine fnGo_of (r := r0) rfl ⟨r0, ?_⟩
  unfold f_pattern_of
  refine seqs_ret ((sIf_t (d1 := d) (bCmp_ev (xPeek_ev (t := .str basicS) rfl) xC_ev rfl)).trans (seqs_ret (sRet_ev (xCall_ev (xs_cons (xVar_ev (t := .str t) rfl) (xs_cons (xVar_ev (t := .int k) rfl) xs_nil)) (basic_ev hk h0 ht)))))
theorem pat_sub {t : List Nat} {k : Nat} (hk : k ≤ t.length) (h0 : 0 < k) (ht : t.length ≤ 100) : sp_pattern_of [.str subS, .str t, .int k] d = some (.list (subP t k), d) := by
  let r0 : Rho := upd (upd (upd (fun _ => none) .point (.val (.int k))) .text (.val (.str t))) .style (.val (.str subS))
  have s0 : r0 .style = some (.val (.str subS)) := rfl
  refine fnGo_of (r := r0) rfl ⟨r0, ?_⟩
  unfold f_pattern_of
  refine (seqs_next ((sIf_f (d1 := d) (bCmp_ev (xPeek_ev s0) xC_ev rfl)).trans seqs_nil)).trans ?_
  refine seqs_ret ((sIf_t (d1 := d) (bCmp_ev (xPeek_ev s0) xC_ev rfl)).trans (seqs_ret (sRet_ev (xCall_ev (xs_cons (xVar_ev (t := .str t) rfl) (xs_cons (xVar_ev (t := .int k) rfl) xs_nil)) (sub_ev hk h0 ht)))))
theorem pat_flex {t : List Nat} {k : Nat} : sp_pattern_of [.str flexS, .str t, .int k] d = some (.none, d) := by
  let r0 : Rho := upd (upd (upd (fun _ => none) .point (.val (.int k))) .text (.val (.str t))) .style (.val (.str flexS))
  have s0 : r0 .style = some (.val (.str flexS)) := rfl
  refine fnGo_of (r := r0) rfl ⟨r0, ?_⟩
  unfold f_pattern_of
  refine (seqs_next ((sIf_f (d1 := d) (bCmp_ev (xPeek_ev s0) xC_ev rfl)).trans seqs_nil)).trans ?_
  refine (seqs_next ((sIf_f (d1 := d) (bCmp_ev (xPeek_ev s0) xC_ev rfl)).trans seqs_nil)).trans ?_
  refine (seqs_next ((sIf_f (d1 := d) (bCmp_ev (xPeek_ev s0) xC_ev rfl)).trans seqs_nil)).trans ?_
  refine (seqs_next ((sIf_f (d1 := d) (bCmp_ev (xPeek_ev s0) xC_ev rfl)).trans seqs_nil)).trans ?_
  refine (seqs_next ((sIf_f (d1 := d) (bCmp_ev (xPeek_ev s0) xC_ev rfl)).trans seqs_nil)).trans ?_
  exact seqs_ret (sRet_ev xC_ev)
end Mine
end

section
set_option linter.unusedSimpArgs false
set_option linter.unusedVariables false
namespace Mine
variable {r : Rho} {d : Dk} {f : Bool}

noncomputable def fc (f : Bool) (c : Nat) : Nat := if f then foldc c else c
theorem fd_map (f : Bool) (s : List Nat) : fd f s = s.map (fc f) := by unfold fd fc; cases f <;> simp
noncomputable def mlN : Nat → List Nat → Nat
  | a, [] => a
  | a, b :: r => mlN (if b < a then b else a) r
theorem minL_nat : ∀ (a : Nat) (l : List Nat), minL (a : Int) (l.map fun (n : Nat) => (n : Int)) = (mlN a l : Int)
  | a, [] => rfl
  | a, b :: l => by
    show minL (if (b : Int) < a then (b : Int) else a) _ = (mlN (if b < a then b else a) l : Int)
    have ih := minL_nat (if b < a then b else a) l
    rw [← ih]
    congr 1
    by_cases h : b < a
    · rw [if_pos h, if_pos (by omega)]
    · rw [if_neg h, if_neg (by omega)]
theorem mlN_le : ∀ (a : Nat) (l : List Nat), mlN a l ≤ a ∧ ∀ b ∈ l, mlN a l ≤ b
  | a, [] => ⟨Nat.le_refl _, by simp⟩
  | a, b :: l => by
    obtain ⟨h1, h2⟩ := mlN_le (if b < a then b else a) l
    refine ⟨?_, fun c hc => ?_⟩
    · show mlN (if b < a then b else a) l ≤ a
      refine Nat.le_trans h1 ?_; split <;> omega
    · rcases List.mem_cons.mp hc with rfl | hc
      · show mlN (if c < a then c else a) l ≤ c
        refine Nat.le_trans h1 ?_; split <;> omega
      · exact h2 c hc
theorem mlN_mem : ∀ (a : Nat) (l : List Nat), mlN a l = a ∨ mlN a l ∈ l
  | a, [] => .inl rfl
  | a, b :: l => by
    show mlN (if b < a then b else a) l = a ∨ mlN (if b < a then b else a) l ∈ b :: l
    rcases mlN_mem (if b < a then b else a) l with h | h
    · rw [h]; split
      · simp
      · simp
    · exact .inr (by simp [h])
noncomputable def mlen : List (List Nat) → Nat
  | [] => 0
  | s :: ss => mlN s.length (ss.map List.length)
theorem mlen_le {ss : List (List Nat)} {s : List Nat} (h : s ∈ ss) : mlen ss ≤ s.length := by
  cases ss with
  | nil => cases h
  | cons a ss =>
    obtain ⟨h1, h2⟩ := mlN_le a.length (ss.map List.length)
    rcases List.mem_cons.mp h with rfl | h
    · exact h1
    · exact h2 _ (List.mem_map_of_mem h)
theorem mlen_mem {ss : List (List Nat)} (h : ss ≠ []) : ∃ s ∈ ss, mlen ss = s.length := by
  cases ss with
  | nil => exact absurd rfl h
  | cons a ss =>
    rcases mlN_mem a.length (ss.map List.length) with q | q
    · exact ⟨a, by simp, q⟩
    · obtain ⟨s, hs, e⟩ := List.mem_map.mp q
      exact ⟨s, by simp [hs], e.symm⟩

noncomputable def fh (p : Nat → Bool) : Nat → Nat → Nat
  | 0, i => i
  | n + 1, i => if p i then fh p n (i + 1) else i
theorem fh_spec (p : Nat → Bool) : ∀ (n i : Nat), i ≤ fh p n i ∧ fh p n i ≤ i + n ∧ (∀ j, i ≤ j → j < fh p n i → p j = true) ∧ (fh p n i < i + n → p (fh p n i) = false)
  | 0, i => ⟨Nat.le_refl _, Nat.le_refl _, fun j h1 h2 => by simp only [fh] at h2; omega, fun h => by simp only [fh] at h; omega⟩
  | n + 1, i => by
    unfold fh
    cases q : p i with
    | true =>
      obtain ⟨h1, h2, h3, h4⟩ := fh_spec p n (i + 1)
      rw [if_pos rfl]
      refine ⟨by omega, by omega, fun j hj hj2 => ?_, fun h => h4 (by omega)⟩
      by_cases e : j = i
      · rw [e, q]
      · exact h3 j (by omega) hj2
    | false =>
      rw [if_neg (by decide)]
      exact ⟨Nat.le_refl _, by omega, fun j h1 h2 => by omega, fun _ => q⟩
noncomputable def agree (f : Bool) (ss : List (List Nat)) (i : Nat) : Bool := ss.all fun t => decide ((t[i]?).map (fc f) = ((ss.headD [])[i]?).map (fc f))
noncomputable def chead (f : Bool) (ss : List (List Nat)) : Nat := fh (agree f ss) (mlen ss) 0
theorem chead_le (ss : List (List Nat)) : chead f ss ≤ mlen ss := by have := (fh_spec (agree f ss) (mlen ss) 0).2.1; unfold chead; omega
theorem chead_agree {ss : List (List Nat)} {j : Nat} (h : j < chead f ss) : agree f ss j = true := (fh_spec (agree f ss) (mlen ss) 0).2.2.1 j (Nat.zero_le _) h
theorem chead_stop {ss : List (List Nat)} (h : chead f ss < mlen ss) : agree f ss (chead f ss) = false := (fh_spec (agree f ss) (mlen ss) 0).2.2.2 (by unfold chead at h; omega)

/-! lists of texts -/
noncomputable def strsT (ss : List (List Nat)) : T := .list (ss.map T.str)
theorem strsT_len (ss : List (List Nat)) : (ss.map T.str).length = ss.length := by simp
theorem lens_ev {x : N} {fv : List N} {y : N} {ss : List (List Nat)} (hr : r y = some (.val (strsT ss))) (hl : ss.length ≤ 1000) :
    xComp fv (x1 tLen (xVar x)) x (xVar y) (bAll []) r d = some (.list (ss.map fun s => .int s.length), d) := by
  refine xComp_ev (xVar_ev hr) rfl (by have := szL_eq; simp; omega) ?_
  rw [compGo_map (fun t => match t with | .str s => .int s.length | t => t)]
  · rw [List.map_map]; rfl
  · intro t ht
    obtain ⟨s, _, rfl⟩ := List.mem_map.mp ht
    exact x1_ev (xVar_ev (t := .str s) (by simp [inner])) rfl
theorem tMin_ok {xs : List T} {a : Int} {l : List Int} (h : tInts xs = some (a :: l)) : tMin (.list xs) = some (.int (minL a l)) := by
  show (match tInts xs with | some (a :: r) => some (T.int (minL a r)) | _ => none) = _
  rw [h]
theorem tSet_ok {xs : List T} {l : List Int} (h : tInts xs = some l) (hl : l.length ≤ 1000) : tSet (.list xs) = some (.iset (l.foldl stepD []).length) := by
  show (match tInts xs with | some l => if l.length ≤ 1000 then some (T.iset (l.foldl stepD []).length) else none | _ => none) = _
  rw [h]; exact if_pos hl
theorem min_ev {ss : List (List Nat)} (h : ss ≠ []) : tMin (.list (ss.map fun s => .int s.length)) = some (.int (mlen ss)) := by
  cases ss with
  | nil => exact absurd rfl h
  | cons s ss =>
    have e : tInts ((s :: ss).map fun s => T.int s.length) = some ((s.length : Int) :: (ss.map List.length).map fun (n : Nat) => (n : Int)) := by
      have := tInts_map ((s :: ss).map fun s => (s.length : Int))
      rw [List.map_map] at this
      rw [show (T.int ∘ fun (s : List Nat) => (s.length : Int)) = (fun s => T.int s.length) from rfl] at this
      rw [this]; simp
    rw [tMin_ok e, minL_nat]; rfl

theorem stepD_mono : ∀ (l acc : List Int), acc.length ≤ (l.foldl stepD acc).length
  | [], acc => Nat.le_refl _
  | a :: l, acc => by
    refine Nat.le_trans ?_ (stepD_mono l (stepD acc a))
    unfold stepD; split
    · exact Nat.le_refl _
    · simp
theorem stepD_all (a : Int) : ∀ (l : List Int), (∀ x ∈ l, x = a) → l.foldl stepD [a] = [a]
  | [], _ => rfl
  | b :: l, h => by
    have hb := h b (by simp)
    subst hb
    show l.foldl stepD (stepD [b] b) = [b]
    rw [show stepD [b] b = [b] by simp [stepD]]
    exact stepD_all b l fun x hx => h x (by simp [hx])
theorem stepD_two (a : Int) : ∀ (l : List Int), (∃ x ∈ l, x ≠ a) → 2 ≤ (l.foldl stepD [a]).length
  | [], h => by obtain ⟨x, hx, _⟩ := h; cases hx
  | b :: l, h => by
    show 2 ≤ (l.foldl stepD (stepD [a] b)).length
    by_cases hb : b = a
    · subst hb
      rw [show stepD [b] b = [b] by simp [stepD]]
      refine stepD_two b l ?_
      obtain ⟨x, hx, hn⟩ := h
      rcases List.mem_cons.mp hx with rfl | hx
      · exact absurd rfl hn
      · exact ⟨x, hx, hn⟩
    · refine Nat.le_trans ?_ (stepD_mono l _)
      have : ¬ a = b := fun q => hb q.symm
      simp [stepD, this]
theorem set_one (a : Int) (l : List Int) : decide ((((a :: l).foldl stepD []).length : Int) = 1) = l.all fun x => decide (x = a) := by
  have e : (a :: l).foldl stepD [] = l.foldl stepD [a] := rfl
  rw [e]
  cases q : l.all fun x => decide (x = a) with
  | true =>
    rw [stepD_all a l fun x hx => by have := List.all_eq_true.mp q x hx; simpa using this]; rfl
  | false =>
    have : 2 ≤ (l.foldl stepD [a]).length := stepD_two a l (by
      have := List.all_eq_false.mp q
      obtain ⟨x, hx, hn⟩ := this
      exact ⟨x, hx, by simpa using hn⟩)
    exact decide_eq_false (by omega)

/-- short texts of this program, a few of them -/
structure Oks (ss : List (List Nat)) : Prop where
  ok : ∀ s ∈ ss, Ok s
  ne : ss ≠ []
  few : ss.length ≤ 50
  sh : ∀ s ∈ ss, s.length ≤ 60
theorem Ok.get {s : List Nat} (h : Ok s) {i c : Nat} (e : s[i]? = some c) : c < 128 := h.asc c (List.mem_of_getElem? e)

noncomputable def chC : B := (bAll [(bCmp .lt (xPeek .at_) (xPeek .size)), (bCmp .eq (x1 tLen (x1 tSet (xComp [.is_folding, .at_] (x1 tOrd (x2 tIdx (xCall sp_folded [(x2 tIdx (xPeek .own) (xVar .at_)), (xVar .is_folding)]) (xC (.int 0)))) .own (xVar .texts) (bAll [])))) (xC (.int 1)))])
noncomputable def chB : SX := (seqs [(sAsg .at_ (x2 tAdd (xVar .at_) (xC (.int 1))))])
theorem f_common_head_eq : f_common_head = seqs [sAsg .size (x1 tMin (xComp [] (x1 tLen (xVar .own)) .own (xVar .texts) (bAll []))), sAsg .at_ (xC (.int 0)), sWhile chC chB, sRetVar .at_] := rfl
theorem at_lt {ss : List (List Nat)} {s : List Nat} (h : s ∈ ss) {i : Nat} (hi : i < mlen ss) : ∃ c, s[i]? = some c := by
  have := mlen_le h
  exact ⟨s[i]'(by omega), List.getElem?_eq_getElem (by omega)⟩
theorem Ok1 {c : Nat} (h : c < 128) : Ok [c] := ⟨fun x hx => by simp at hx; omega, by simp⟩
theorem ch_cond {ss : List (List Nat)} (h : Oks ss) {i : Nat} (hi : i < mlen ss) (h1 : r .at_ = some (.val (.int i))) (h2 : r .size = some (.val (.int (mlen ss)))) (h3 : r .is_folding = some (.val (.bool f))) (h4 : r .texts = some (.val (strsT ss))) :
    chC r d = some (agree f ss i, d) := by
  have hml : mlen ss ≤ 100 := by obtain ⟨s, hs, e⟩ := mlen_mem h.ne; rw [e]; exact (h.ok s hs).len
  have e1 : bCmp .lt (xPeek .at_) (xPeek .size) r d = some (true, d) := bCmp_ev (xPeek_ev h1) (xPeek_ev h2) (by show some (decide ((i : Int) < mlen ss)) = _; rw [decide_eq_true (by omega)])
  have e2 : xComp [.is_folding, .at_] (x1 tOrd (x2 tIdx (xCall sp_folded [(x2 tIdx (xPeek .own) (xVar .at_)), (xVar .is_folding)]) (xC (.int 0)))) .own (xVar .texts) (bAll []) r d = some (.list (ss.map fun s => .int (fc f (s[i]?.getD 0) : Nat)), d) := by
    refine xComp_ev (xVar_ev h4) rfl (by have := szL_eq; have := h.few; simp; omega) ?_
    rw [compGo_map (fun t => match t with | .str s => .int (fc f (s[i]?.getD 0) : Nat) | t => t)]
    · rw [List.map_map]; rfl
    · intro t ht
      obtain ⟨s, hs, rfl⟩ := List.mem_map.mp ht
      obtain ⟨c, hc⟩ := at_lt hs hi
      have hc128 := (h.ok s hs).get hc
      have q1 : (inner [.is_folding, .at_] .own (.str s) r) .own = some (.val (.str s)) := by simp [inner]
      have q2 : (inner [.is_folding, .at_] .own (.str s) r) .at_ = some (.val (.int i)) := by simp [inner, h1]
      have q3 : (inner [.is_folding, .at_] .own (.str s) r) .is_folding = some (.val (.bool f)) := by simp [inner, h3]
      have hfd : fd f [c] = [fc f c] := by rw [fd_map]; rfl
      have := (Ok1 hc128).folded f d
      rw [hfd] at this
      refine x1_ev (x2_ev (xCall_ev (xs_cons (x2_ev (xPeek_ev q1) (xVar_ev q2) (tIdx_str_ok s i (by omega) c hc)) (xs_cons (xVar_ev q3) xs_nil)) this) xC_ev (tIdx_str_ok [fc f c] 0 (by omega) _ rfl)) ?_
      show some (T.int (fc f c : Nat)) = some (T.int (fc f (s[i]?.getD 0) : Nat))
      rw [hc]; rfl
  refine (bAll_t e1).trans ?_
  cases ss with
  | nil => exact absurd rfl h.ne
  | cons s0 ss =>
    obtain ⟨c0, hc0⟩ := at_lt (List.mem_cons_self) hi
    have hset : tSet (.list ((s0 :: ss).map fun s => .int (fc f (s[i]?.getD 0) : Nat))) = some (.iset (((s0 :: ss).map fun s => ((fc f (s[i]?.getD 0) : Nat) : Int)).foldl stepD []).length) := by
      have := tInts_map ((s0 :: ss).map fun s => ((fc f (s[i]?.getD 0) : Nat) : Int))
      rw [List.map_map] at this
      rw [show (T.int ∘ fun (s : List Nat) => ((fc f (s[i]?.getD 0) : Nat) : Int)) = (fun s => T.int (fc f (s[i]?.getD 0) : Nat)) from rfl] at this
      exact tSet_ok this (by have := h.few; simp at this ⊢; omega)
    have e3 : bCmp .eq (x1 tLen (x1 tSet (xComp [.is_folding, .at_] (x1 tOrd (x2 tIdx (xCall sp_folded [(x2 tIdx (xPeek .own) (xVar .at_)), (xVar .is_folding)]) (xC (.int 0)))) .own (xVar .texts) (bAll [])))) (xC (.int 1)) r d = some (agree f (s0 :: ss) i, d) := by
      refine bCmp_ev (x1_ev (x1_ev e2 hset) rfl) xC_ev ?_
      rw [eqI]
      congr 1
      rw [List.map_cons, set_one]
      unfold agree
      rw [List.all_map, List.all_cons]
      have hd0 : decide ((s0[i]?).map (fc f) = (((s0 :: ss).headD [])[i]?).map (fc f)) = true := decide_eq_true rfl
      rw [hd0, Bool.true_and]
      rw [Bool.eq_iff_iff, List.all_eq_true, List.all_eq_true]
      refine forall_congr' fun t => forall_congr' fun ht => ?_
      obtain ⟨c, hc⟩ := at_lt (List.mem_cons_of_mem _ ht) hi
      simp only [Function.comp_apply, decide_eq_true_eq, hc, hc0, Option.getD_some, List.headD_cons, Option.map_some, Option.some.injEq]
      omega
    cases q : agree f (s0 :: ss) i with
    | true => rw [q] at e3; exact (bAll_t e3).trans bAll_nil
    | false => rw [q] at e3; exact bAll_f e3
theorem ch_done {ss : List (List Nat)} (h1 : r .at_ = some (.val (.int (mlen ss)))) (h2 : r .size = some (.val (.int (mlen ss)))) : chC r d = some (false, d) :=
  bAll_f (d1 := d) (bCmp_ev (xPeek_ev h1) (xPeek_ev h2) (by show some (decide ((mlen ss : Int) < mlen ss)) = _; rw [decide_eq_false (by omega)]))
theorem ch_loop {ss : List (List Nat)} (h : Oks ss) : ∀ (n i fuel : Nat) (r : Rho), i + n = mlen ss → n < fuel → r .at_ = some (.val (.int i)) → r .size = some (.val (.int (mlen ss))) → r .is_folding = some (.val (.bool f)) → r .texts = some (.val (strsT ss)) →
    ∃ r', whGo chC chB fuel r d = some (.next, r', d) ∧ r' .at_ = some (.val (.int (fh (agree f ss) n i)))
  | 0, i, fuel, r, hi, hf, h1, h2, h3, h4 => by
    cases fuel with
    | zero => omega
    | succ fuel =>
      have hi : i = mlen ss := by omega
      subst hi
      exact ⟨r, whGo_done (ch_done h1 h2), h1⟩
  | n + 1, i, fuel, r, hi, hf, h1, h2, h3, h4 => by
    cases fuel with
    | zero => omega
    | succ fuel =>
      have c := ch_cond (d := d) h (i := i) (by omega) h1 h2 h3 h4
      unfold fh
      cases q : agree f ss i with
      | true =>
        rw [q] at c
        rw [if_pos rfl]
        obtain ⟨r', e1, e2⟩ := ch_loop h n (i + 1) fuel (upd r .at_ (.val (.int ((i : Int) + 1)))) (by omega) (by omega) (upd_same _ _ _) (upd_get h2 (by decide)) (upd_get h3 (by decide)) (upd_get h4 (by decide))
        exact ⟨r', (whGo_next c ((seqs_next (sAsg_ev (x2_ev (xVar_ev h1) xC_ev rfl))).trans seqs_nil)).trans e1, e2⟩
      | false =>
        rw [q] at c
        rw [if_neg (by decide)]
        exact ⟨r, whGo_done c, h1⟩
theorem common_head_ev {ss : List (List Nat)} (h : Oks ss) : sp_common_head [strsT ss, .bool f] d = some (.int (chead f ss), d) := by
  let r0 : Rho := upd (upd (fun _ => none) .is_folding (.val (.bool f))) .texts (.val (strsT ss))
  let r1 : Rho := upd r0 .size (.val (.int (mlen ss)))
  let r2 : Rho := upd r1 .at_ (.val (.int 0))
  have hml : mlen ss ≤ 60 := by obtain ⟨s, hs, e⟩ := mlen_mem h.ne; rw [e]; exact h.sh s hs
  refine fnGo_of (r := r0) rfl ?_
  have e1 : sAsg .size (x1 tMin (xComp [] (x1 tLen (xVar .own)) .own (xVar .texts) (bAll []))) r0 d = some (.next, r1, d) := sAsg_ev (x1_ev (lens_ev (y := .texts) rfl (by have := h.few; omega)) (min_ev h.ne))
  have e2 : sAsg .at_ (xC (.int 0)) r1 d = some (.next, r2, d) := rfl
  obtain ⟨r3, e3, e4⟩ := ch_loop (f := f) (d := d) h (mlen ss) 0 100 r2 (by omega) (by omega) rfl rfl rfl rfl
  refine ⟨r3, ?_⟩
  rw [f_common_head_eq, seqs_next e1, seqs_next e2, seqs_next (show sWhile chC chB r2 d = _ from e3)]
  exact seqs_ret (sRetVar_ev e4)

/-! the law's own -/
theorem tRange1_ok (b : Int) (h1 : fitI b = true) (h : b ≤ szL) : tRange1 (.int b) = some (.rng 0 b) := by unfold tRange1; exact if_pos ⟨h1, h⟩
theorem lo1_eq (c : Nat) : lo1 c = foldc c := rfl
theorem lower_ok {s : List Nat} (h : Ok s) : tLower (.str s) = some (.str (s.map foldc)) := by
  show (if ascii s ∧ s.length ≤ 1000 then some (T.str (s.map lo1)) else none) = _
  rw [if_pos ⟨asc_of h.asc, by have := h.len; omega⟩]
  rfl
theorem eqS' (a b : List Nat) : tEq (.str a) (.str b) = some (decide (a = b)) := rfl
theorem even_ev {a b : List Nat} (ha : Ok a) (hb : Ok b) : sp_law_even [.str a, .str b, .bool f] d = some (.bool (decide (fd f a = fd f b)), d) := by
  let r0 : Rho := upd (upd (upd (fun _ => none) .is_folding (.val (.bool f))) .other (.val (.str b))) .one (.val (.str a))
  have a0 : r0 .one = some (.val (.str a)) := rfl
  have b0 : r0 .other = some (.val (.str b)) := rfl
  have f0 : r0 .is_folding = some (.val (.bool f)) := rfl
  refine fnGo_of (r := r0) rfl ⟨r0, ?_⟩
  unfold f_law_even
  refine seqs_ret (sRet_ev ?_)
  cases f with
  | true =>
    refine (xIte_t (d1 := d) (bOf_ev (xVar_ev f0) rfl)).trans (xB_ev (bCmp_ev (x1_ev (xVar_ev a0) (lower_ok ha)) (x1_ev (xVar_ev b0) (lower_ok hb)) ?_))
    rw [eqS]; simp [fd]
  | false =>
    refine (xIte_f (d1 := d) (bOf_ev (xVar_ev f0) rfl)).trans (xB_ev (bCmp_ev (xPeek_ev a0) (xPeek_ev b0) ?_))
    rw [eqS]; simp [fd]
noncomputable def lhB : SX := (seqs [(sIf (bCmp .ne (xComp [.is_folding, .at_, .some_] (xVar .own) .own (xVar .some_) (bNot (bOf (xCall sp_law_even [(x2 tIdx (xPeek .own) (xVar .at_)), (x2 tIdx (x2 tIdx (xPeek .some_) (xC (.int 0))) (xVar .at_)), (xVar .is_folding)])))) (xList [])) (seqs [(sRetVar .at_)]) (seqs []))])
theorem lh_body {ss : List (List Nat)} (h : Oks ss) {i : Nat} (hi : i < mlen ss) (h1 : r .at_ = some (.val (.int i))) (h3 : r .is_folding = some (.val (.bool f))) (h4 : r .some_ = some (.val (strsT ss))) :
    lhB r d = if !agree f ss i then some (.ret (.int i), r, d) else some (.next, r, d) := by
  have hml : mlen ss ≤ 60 := by obtain ⟨s, hs, e⟩ := mlen_mem h.ne; rw [e]; exact h.sh s hs
  cases ss with
  | nil => exact absurd rfl h.ne
  | cons s0 ss =>
  obtain ⟨c0, hc0⟩ := at_lt (List.mem_cons_self) hi
  have hc0128 := (h.ok s0 (by simp)).get hc0
  have e2 : xComp [.is_folding, .at_, .some_] (xVar .own) .own (xVar .some_) (bNot (bOf (xCall sp_law_even [(x2 tIdx (xPeek .own) (xVar .at_)), (x2 tIdx (x2 tIdx (xPeek .some_) (xC (.int 0))) (xVar .at_)), (xVar .is_folding)]))) r d
      = some (.list ((((s0 :: ss).map T.str).filter fun t => match t with | .str s => !decide ((s[i]?).map (fc f) = (s0[i]?).map (fc f)) | _ => false).map id), d) := by
    refine xComp_ev (xVar_ev h4) rfl (by have := szL_eq; have := h.few; simp at this ⊢; omega) ?_
    refine compGo_filter id _ fun t ht => ?_
    obtain ⟨s, hs, rfl⟩ := List.mem_map.mp ht
    obtain ⟨c, hc⟩ := at_lt hs hi
    have hc128 := (h.ok s hs).get hc
    have q1 : (inner [.is_folding, .at_, .some_] .own (.str s) r) .own = some (.val (.str s)) := by simp [inner]
    have q2 : (inner [.is_folding, .at_, .some_] .own (.str s) r) .at_ = some (.val (.int i)) := by simp [inner, h1]
    have q3 : (inner [.is_folding, .at_, .some_] .own (.str s) r) .is_folding = some (.val (.bool f)) := by simp [inner, h3]
    have q4 : (inner [.is_folding, .at_, .some_] .own (.str s) r) .some_ = some (.val (strsT (s0 :: ss))) := by simp [inner, h4]
    refine ⟨bNot_ev (bOf_ev (xCall_ev (xs_cons (x2_ev (xPeek_ev q1) (xVar_ev q2) (tIdx_str_ok s i (by omega) c hc)) (xs_cons (x2_ev (x2_ev (xPeek_ev q4) xC_ev (tIdx_list_ok _ 0 (by omega) (.str s0) rfl)) (xVar_ev q2) (tIdx_str_ok s0 i (by omega) c0 hc0)) (xs_cons (xVar_ev q3) xs_nil))) (even_ev (Ok1 hc128) (Ok1 hc0128))) ?_), xVar_ev q1⟩
    show some (decide (fd f [c] = fd f [c0])) = _
    rw [fd_map, fd_map, hc, hc0]
    simp
  have e3 : (((((s0 :: ss).map T.str).filter fun t => match t with | .str s => !decide ((s[i]?).map (fc f) = (s0[i]?).map (fc f)) | _ => false).map id).isEmpty) = agree f (s0 :: ss) i := by
    unfold agree
    rw [Bool.eq_iff_iff, List.isEmpty_iff, List.map_eq_nil_iff, List.filter_eq_nil_iff, List.all_eq_true]
    constructor
    · intro q t ht
      have := q (T.str t) (List.mem_map_of_mem ht)
      simpa using this
    · intro q t ht
      obtain ⟨s, hs, rfl⟩ := List.mem_map.mp ht
      have := q s hs
      simpa using this
  unfold lhB
  cases q : agree f (s0 :: ss) i with
  | true =>
    rw [if_neg (by decide)]
    refine (seqs_next ((sIf_f (d1 := d) (bCmp_ev e2 (xList_ev xs_nil) ?_)).trans seqs_nil)).trans seqs_nil
    rw [ne_nil, e3, q]; rfl
  | false =>
    rw [if_pos (by decide)]
    refine seqs_ret ((sIf_t (d1 := d) (bCmp_ev e2 (xList_ev xs_nil) ?_)).trans (seqs_ret (sRetVar_ev h1)))
    rw [ne_nil, e3, q]; rfl
theorem law_head_ev {ss : List (List Nat)} (h : Oks ss) : sp_law_head [strsT ss, .bool f] d = some (.int (chead f ss), d) := by
  let r0 : Rho := upd (upd (fun _ => none) .is_folding (.val (.bool f))) .some_ (.val (strsT ss))
  let r1 : Rho := upd r0 .most (.val (.int (mlen ss)))
  have hml : mlen ss ≤ 60 := by obtain ⟨s, hs, e⟩ := mlen_mem h.ne; rw [e]; exact h.sh s hs
  refine fnGo_of (r := r0) rfl ?_
  have e1 : sAsg .most (x1 tMin (xComp [] (x1 tLen (xVar .own)) .own (xVar .some_) (bAll []))) r0 d = some (.next, r1, d) := sAsg_ev (x1_ev (lens_ev (y := .some_) rfl (by have := h.few; omega)) (min_ev h.ne))
  have f1 : fitI (mlen ss : Int) = true := fitI_small (by omega) (by omega)
  have e2 : (x1 tRange1 (xVar .most)) r1 d = some (.rng 0 (mlen ss), d) := x1_ev (xVar_ev (t := .int (mlen ss)) rfl) (tRange1_ok _ f1 (by have := szL_eq; omega))
  obtain ⟨r'', hr'', hl⟩ := forGo_find (x := .at_) (a := lhB) (r := r1) (d := d) (fun t' => match t' with | .int j => !agree f ss j.toNat | _ => false) id (l := (List.range (mlen ss)).map fun (j : Nat) => T.int ((0 : Int) + (j : Int))) (r' := r1) (fun _ _ => rfl) (by
    intro t' ht'
    obtain ⟨j, hj, rfl⟩ := List.mem_map.mp ht'
    have hj := List.mem_range.mp hj
    have e3 : (0 : Int) + (j : Int) = ((j : Nat) : Int) := by omega
    rw [e3]
    exact lh_body (i := j) h hj rfl rfl rfl)
  have s3 := sFor_ev (x := .at_) (a := lhB) e2 rfl (by have := szL_eq; simp; omega)
  rw [show ((mlen ss : Int) - 0).toNat = mlen ss by omega, hl, List.find?_map] at s3
  have ef : ((fun t' => match t' with | T.int j => !agree f ss j.toNat | _ => false) ∘ fun (j : Nat) => T.int ((0 : Int) + (j : Int))) = fun j => !agree f ss j := by
    funext j
    have e3 : ((0 : Int) + (j : Int)).toNat = j := by omega
    simp
  rw [ef] at s3
  unfold f_law_head
  rw [seqs_next e1]
  have hle := chead_le (f := f) ss
  by_cases hlt : chead f ss < mlen ss
  · rw [find_some hlt (by rw [chead_stop hlt]; rfl) (fun j hj => by rw [chead_agree hj]; rfl)] at s3
    refine ⟨r'', (seqs_ret s3).trans ?_⟩
    simp
  · have he : chead f ss = mlen ss := by omega
    rw [find_none (fun j hj => by rw [chead_agree (by omega)]; rfl)] at s3
    refine ⟨r'', (seqs_next s3).trans ?_⟩
    rw [he]
    exact seqs_ret (sRetVar_ev ((hr'' _ (by decide)).trans rfl))
theorem Oks.rev {ss : List (List Nat)} (h : Oks ss) : Oks (ss.map List.reverse) where
  ok := fun s hs => by
    obtain ⟨t, ht, rfl⟩ := List.mem_map.mp hs
    exact ⟨fun c hc => (h.ok t ht).asc c (List.mem_reverse.mp hc), by have := (h.ok t ht).len; simpa using this⟩
  ne := by have := h.ne; simpa using this
  few := by have := h.few; simpa using this
  sh := fun s hs => by
    obtain ⟨t, ht, rfl⟩ := List.mem_map.mp hs
    have := h.sh t ht; simpa using this
theorem rev_comp {x : N} {fv : List N} {y : N} {ss : List (List Nat)} (hr : r y = some (.val (strsT ss))) (hl : ss.length ≤ 1000) :
    xComp fv (x1 tRev (xVar x)) x (xVar y) (bAll []) r d = some (strsT (ss.map List.reverse), d) := by
  refine xComp_ev (xVar_ev hr) rfl (by have := szL_eq; simp; omega) ?_
  rw [compGo_map (fun t => match t with | .str s => .str s.reverse | t => t)]
  · rw [List.map_map, List.map_map]; rfl
  · intro t ht
    obtain ⟨s, _, rfl⟩ := List.mem_map.mp ht
    exact x1_ev (xVar_ev (t := .str s) (by simp [inner])) rfl
theorem common_tail_ev {ss : List (List Nat)} (h : Oks ss) : sp_common_tail [strsT ss, .bool f] d = some (.int (chead f (ss.map List.reverse)), d) := by
  let r0 : Rho := upd (upd (fun _ => none) .is_folding (.val (.bool f))) .texts (.val (strsT ss))
  refine fnGo_of (r := r0) rfl ⟨r0, ?_⟩
  unfold f_common_tail
  exact seqs_ret (sRet_ev (xCall_ev (xs_cons (rev_comp (y := .texts) rfl (by have := h.few; omega)) (xs_cons (xVar_ev (t := .bool f) rfl) xs_nil)) (common_head_ev h.rev)))
end Mine
end

section
set_option linter.unusedSimpArgs false
set_option linter.unusedVariables false
namespace Mine
variable {r : Rho} {d : Dk} {f : Bool}

theorem compGo_map' {α : Type} {fv : List N} {x : N} {elt : X} {r : Rho} (i o : α → T) : ∀ {l : List α} {d : Dk}, (∀ a ∈ l, elt (inner fv x (i a) r) d = some (o a, d)) → compGo fv x (bAll []) elt r (l.map i) d = some (l.map o, d)
  | [], d, _ => rfl
  | t :: l, d, h => by
    have ih := compGo_map' i o (l := l) fun t' ht => h t' (List.mem_cons_of_mem _ ht)
    show compGo fv x (bAll []) elt r (i t :: l.map i) d = some (o t :: l.map o, d)
    unfold compGo
    rw [show (bAll [] : B) (inner fv x (i t) r) d = some (true, d) from rfl]
    dsimp only
    rw [h t (List.mem_cons_self)]
    dsimp only
    rw [ih]
theorem compGo_all' {α : Type} {fv : List N} {x : N} {elt : X} {c : B} {r : Rho} (i o : α → T) : ∀ {l : List α} {d : Dk}, (∀ a ∈ l, c (inner fv x (i a) r) d = some (true, d) ∧ elt (inner fv x (i a) r) d = some (o a, d)) → compGo fv x c elt r (l.map i) d = some (l.map o, d)
  | [], d, _ => rfl
  | t :: l, d, h => by
    have ih := compGo_all' i o (l := l) fun t' ht => h t' (List.mem_cons_of_mem _ ht)
    obtain ⟨h1, h2⟩ := h t (List.mem_cons_self)
    show compGo fv x c elt r (i t :: l.map i) d = some (o t :: l.map o, d)
    unfold compGo
    rw [h1]
    dsimp only
    rw [h2]
    dsimp only
    rw [ih]

/-! rows of parts -/
noncomputable abbrev Row := List (List Nat)
noncomputable def rowS (ro : Row) : T := .str ro.flatten
noncomputable def rowF (ro : Row) : T := .fit (.list ((plsN 0 ro).map intT))
noncomputable def col (rows : List Row) (i : Nat) : List (List Nat) := rows.map fun ro => ro[i]?.getD []
structure AllFit (f : Bool) (pat : List T) (rows : List Row) : Prop where
  fit : ∀ ro ∈ rows, Fits f ro.flatten 0 pat ro
  ok : ∀ ro ∈ rows, Ok ro.flatten
  sh : ∀ ro ∈ rows, ro.flatten.length ≤ 60
  ne : rows ≠ []
  few : rows.length ≤ 50
  short : pat.length ≤ 10
variable {pat : List T} {rows : List Row}
theorem Fits.count {tx : List Nat} {a : Nat} {p : List T} {ss : List (List Nat)} (h : Fits f tx a p ss) : ss.length = p.length := by
  induction h with
  | done => rfl
  | str _ _ _ _ _ ih => simp [ih]
  | glast _ _ _ => rfl
  | gmid _ _ _ _ _ _ _ ih => simp at ih ⊢; omega
theorem AllFit.len (A : AllFit f pat rows) {ro : Row} (h : ro ∈ rows) : ro.length = pat.length := (A.fit ro h).count
theorem flatten_mem {ro : Row} {s : List Nat} (h : s ∈ ro) : s.length ≤ ro.flatten.length ∧ ∀ c ∈ s, c ∈ ro.flatten := by
  constructor
  · induction ro with
    | nil => cases h
    | cons a ro ih =>
      rw [List.flatten_cons, List.length_append]
      rcases List.mem_cons.mp h with rfl | h
      · omega
      · have := ih h; omega
  · exact fun c hc => List.mem_flatten.mpr ⟨s, h, hc⟩
theorem AllFit.part (A : AllFit f pat rows) {ro : Row} (h : ro ∈ rows) {s : List Nat} (hs : s ∈ ro) : Ok s ∧ s.length ≤ 60 := by
  obtain ⟨h1, h2⟩ := flatten_mem hs
  exact ⟨⟨fun c hc => (A.ok ro h).asc c (h2 c hc), by have := (A.ok ro h).len; omega⟩, by have := A.sh ro h; omega⟩
theorem AllFit.colOk (A : AllFit f pat rows) (i : Nat) : Oks (col rows i) where
  ok := fun s hs => by
    obtain ⟨ro, hro, rfl⟩ := List.mem_map.mp hs
    cases e : ro[i]? with
    | none => exact ⟨(fun c hc => by simp at hc), (by simp)⟩
    | some t => exact (A.part hro (List.mem_of_getElem? e)).1
  ne := by have := A.ne; simpa [col] using this
  few := by have := A.few; simpa [col] using this
  sh := fun s hs => by
    obtain ⟨ro, hro, rfl⟩ := List.mem_map.mp hs
    cases e : ro[i]? with
    | none => simp
    | some t => exact (A.part hro (List.mem_of_getElem? e)).2

theorem fit_row (A : AllFit f pat rows) {ro : Row} (h : ro ∈ rows) : sp_fit_of [.list pat, rowS ro, .bool f] d = some (rowF ro, d) := fit_ev (A.fit ro h) (A.ok ro h) (by have := A.short; omega) d
theorem fits_comp (A : AllFit f pat rows) (h1 : r .pattern = some (.val (.list pat))) (h2 : r .is_folding = some (.val (.bool f))) {y : N} (h3 : r y = some (.val (.list (rows.map rowS)))) :
    xComp [.pattern, .is_folding] (xCall sp_fit_of [(xVar .pattern), (xVar .own), (xVar .is_folding)]) .own (xVar y) (bAll []) r d = some (.list (rows.map rowF), d) := by
  refine xComp_ev (xVar_ev h3) rfl (by have := szL_eq; have := A.few; simp; omega) (compGo_map' rowS rowF fun ro hro => ?_)
  exact xCall_ev (xs_cons (xVar_ev (t := .list pat) (by simp [inner, h1])) (xs_cons (xVar_ev (t := rowS ro) (by simp [inner])) (xs_cons (xVar_ev (t := .bool f) (by simp [inner, h2])) xs_nil))) (fit_row A hro)
theorem fitting_ev (A : AllFit f pat rows) : sp_fitting [.list pat, .list (rows.map rowS), .bool f] d = some (.list (rows.map rowS), d) := by
  let r0 : Rho := upd (upd (upd (fun _ => none) .is_folding (.val (.bool f))) .candidates (.val (.list (rows.map rowS)))) .pattern (.val (.list pat))
  refine fnGo_of (r := r0) rfl ⟨r0, ?_⟩
  unfold f_fitting
  refine seqs_ret (sRet_ev (xComp_ev (xVar_ev (t := .list (rows.map rowS)) rfl) rfl (by have := szL_eq; have := A.few; simp; omega) (compGo_all' rowS rowS fun ro hro => ⟨?_, xVar_ev (by simp [inner])⟩)))
  exact bNot_ev (bIsNone_ev (xCall_ev (xs_cons (xVar_ev (t := .list pat) (by simp [inner, r0, upd])) (xs_cons (xVar_ev (t := rowS ro) (by simp [inner])) (xs_cons (xVar_ev (t := .bool f) (by simp [inner, r0, upd])) xs_nil))) (fit_row A hro)))

/-! what lies on a part of the pattern -/
theorem pls_get2 {tx : List Nat} : ∀ {segs : List (List Nat)} {a i : Nat} {s : List Nat}, a ≤ tx.length → segs.flatten = tx.drop a → segs[i]? = some s → ∃ b, (plsN a segs)[i]? = some b ∧ (plsN a segs)[i + 1]? = some (b + s.length) ∧ slice tx b s.length = s ∧ b + s.length ≤ tx.length
  | [], a, i, s, _, _, e => by simp at e
  | t :: ss, a, 0, s, ha, h, e => by
    cases e
    refine ⟨a, rfl, ?_, ?_, ?_⟩
    · cases ss <;> rfl
    · unfold slice; rw [← h]; simp
    · have := congrArg List.length h
      simp at this; omega
  | t :: ss, a, i + 1, s, ha, h, e => by
    have h2 : ss.flatten = tx.drop (a + t.length) := by
      rw [← List.drop_drop, ← h]; simp
    have h3 : a + t.length ≤ tx.length := by
      have := congrArg List.length h
      simp at this; omega
    obtain ⟨b, h3, h4, h5, h6⟩ := pls_get2 (i := i) h3 h2 (by simpa using e)
    exact ⟨b, h3, h4, h5, h6⟩
noncomputable def gtB : SX := (seqs [(sAsg .places (x1 (tAttr .places) (x2 tIdx (xPeek .fits) (xVar .place)))),
  (sApp .found (xSl (x2 tIdx (xPeek .candidates) (xVar .place)) (some (x2 tIdx (xPeek .places) (xVar .index))) (some (x2 tIdx (xPeek .places) (x2 tAdd (xVar .index) (xC (.int 1)))))))])
theorem f_gap_texts_eq : f_gap_texts = seqs [sOwn .found [], sFor .place (x1 tRange1 (x1 tLen (xVar .candidates))) gtB, sRetVar .found] := rfl
theorem getD_of {ro : Row} {i : Nat} (h : i < ro.length) : ro[i]? = some (ro[i]?.getD []) := by rw [List.getElem?_eq_getElem h]; rfl
theorem gt_loop (A : AllFit f pat rows) {i : Nat} (hi : i < pat.length) : ∀ (n j : Nat) (r : Rho), j + n = rows.length → r .fits = some (.val (.list (rows.map rowF))) → r .candidates = some (.val (.list (rows.map rowS))) → r .index = some (.val (.int i)) →
    r .found = some (.own (.list (((col rows i).take j).map T.str))) → ∃ r', forGo .place gtB ((List.range' j n).map fun (k : Nat) => T.int ((0 : Int) + (k : Int))) r d = some (.next, r', d) ∧ r' .found = some (.own (.list ((col rows i).map T.str)))
  | 0, j, r, hj, h1, h2, h3, h4 => ⟨r, rfl, by rw [h4, List.take_of_length_le (by simp [col]; omega)]⟩
  | n + 1, j, r, hj, h1, h2, h3, h4 => by
    have hjl : j < rows.length := by omega
    have hro : rows[j]? = some rows[j] := List.getElem?_eq_getElem hjl
    have hmem : rows[j] ∈ rows := List.getElem_mem hjl
    generalize rows[j] = ro at hro hmem
    have hlen := A.len hmem
    have hfew := A.few
    have hshort := A.short
    obtain ⟨b, e1, e2, e3, e4⟩ := pls_get2 (i := i) (a := 0) (Nat.zero_le _) (A.fit ro hmem).flat (getD_of (by omega))
    have htl := (A.ok ro hmem).len
    generalize hs : ro[i]?.getD [] = s at e2 e3 e4
    let r1 : Rho := upd r .place (.val (.int ((0 : Int) + (j : Int))))
    let r2 : Rho := upd r1 .places (.val (.list ((plsN 0 ro).map intT)))
    have p1 : r1 .place = some (.val (.int j)) := by show some (Ent.val (T.int ((0 : Int) + (j : Int)))) = _; simp
    have p2 : r2 .place = some (.val (.int j)) := p1
    have c2 : r2 .candidates = some (.val (.list (rows.map rowS))) := h2
    have i2 : r2 .index = some (.val (.int i)) := h3
    have q2 : r2 .places = some (.val (.list ((plsN 0 ro).map intT))) := rfl
    have s1 : sAsg .places (x1 (tAttr .places) (x2 tIdx (xPeek .fits) (xVar .place))) r1 d = some (.next, r2, d) :=
      sAsg_ev (x1_ev (x2_ev (xPeek_ev (t := .list (rows.map rowF)) h1) (xVar_ev p1) (tIdx_list_ok _ j (by omega) (rowF ro) (by simp [hro]))) rfl)
    have t1 : (x2 tIdx (xPeek .candidates) (xVar .place)) r2 d = some (.str ro.flatten, d) := x2_ev (xPeek_ev c2) (xVar_ev p2) (tIdx_list_ok _ j (by omega) (rowS ro) (by simp [hro]))
    have t2 : (x2 tIdx (xPeek .places) (xVar .index)) r2 d = some (.int (b : Int), d) := x2_ev (xPeek_ev q2) (xVar_ev i2) (tIdx_list_ok _ i (by omega) (intT b) (by simp [e1]))
    have t3' : tIdx (.list ((plsN 0 ro).map intT)) (.int ((i + 1 : Nat) : Int)) = some (.int ((b + s.length : Nat) : Int)) := tIdx_list_ok _ (i + 1) (by omega) (intT (b + s.length)) (by simp [e2])
    have t3 : (x2 tIdx (xPeek .places) (x2 tAdd (xVar .index) (xC (.int 1)))) r2 d = some (.int ((b + s.length : Nat) : Int), d) := x2_ev (xPeek_ev q2) (x2_ev (xVar_ev i2) xC_ev (c := .int ((i + 1 : Nat) : Int)) (by show some (T.int ((i : Int) + 1)) = _; simp)) t3'
    have hsl : tSl (.str ro.flatten) (some (b : Int)) (some ((b + s.length : Nat) : Int)) = some (.str s) := by
      rw [tSl_ij _ _ _ (by omega) (by omega), show b + s.length - b = s.length by omega, e3]
    have s2 : sApp .found (xSl (x2 tIdx (xPeek .candidates) (xVar .place)) (some (x2 tIdx (xPeek .places) (xVar .index))) (some (x2 tIdx (xPeek .places) (x2 tAdd (xVar .index) (xC (.int 1)))))) r2 d
        = some (.next, upd r2 .found (.own (.list (((col rows i).take j).map T.str ++ [.str s]))), d) := by
      exact app_ev (xSl_ev t1 (oInt_ev t2) (oInt_ev t3) hsl) h4 (by simp; omega)
    have hcol : ((col rows i).take j).map T.str ++ [.str s] = ((col rows i).take (j + 1)).map T.str := by
      rw [List.take_add_one, List.map_append]
      have hg : (col rows i)[j]? = some s := by
        unfold col
        rw [List.getElem?_map, hro]
        show some (ro[i]?.getD []) = some s
        rw [hs]
      rw [hg]; rfl
    rw [hcol] at s2
    obtain ⟨r', g1, g2⟩ := gt_loop A hi n (j + 1) (upd r2 .found (.own (.list (((col rows i).take (j + 1)).map T.str)))) (by omega) h1 h2 h3 (upd_same _ _ _)
    refine ⟨r', ?_, g2⟩
    rw [List.range'_succ, List.map_cons]
    exact (forGo_next ((seqs_next s1).trans ((seqs_next s2).trans seqs_nil))).trans g1
theorem gap_texts_ev (A : AllFit f pat rows) {i : Nat} (hi : i < pat.length) (p : T) : sp_gap_texts [p, .list (rows.map rowF), .list (rows.map rowS), .int i] d = some (strsT (col rows i), d) := by
  let r0 : Rho := upd (upd (upd (upd (fun _ => none) .index (.val (.int i))) .candidates (.val (.list (rows.map rowS)))) .fits (.val (.list (rows.map rowF)))) .pattern (.val p)
  let r1 : Rho := upd r0 .found (.own (.list []))
  have hfew := A.few
  refine fnGo_of (r := r0) rfl ?_
  obtain ⟨r2, h1, h2⟩ := gt_loop (d := d) A hi rows.length 0 r1 (by omega) rfl rfl rfl (by simp [r1, upd])
  have f1 : fitI ((rows.map rowS).length : Int) = true := fitI_small (by omega) (by simp; omega)
  have e2 : (x1 tRange1 (x1 tLen (xVar .candidates))) r1 d = some (.rng 0 ((rows.map rowS).length), d) := x1_ev (len_ev (s := rows.map rowS) rfl) (tRange1_ok _ f1 (by have := szL_eq; simp; omega))
  have s3 := sFor_ev (x := .place) (a := gtB) e2 rfl (by have := szL_eq; simp; omega)
  rw [show (((rows.map rowS).length : Int) - 0).toNat = rows.length by simp, List.range_eq_range', h1] at s3
  refine ⟨r2, ?_⟩
  rw [f_gap_texts_eq, seqs_next (show sOwn .found [] r0 d = some (.next, r1, d) from rfl), seqs_next s3]
  refine seqs_ret ?_
  unfold sRetVar; rw [h2]; rfl
end Mine
end

section
set_option linter.unusedSimpArgs false
set_option linter.unusedVariables false
namespace Mine
noncomputable def mg_some : SX := (sAsg .some_ (xCall sp_gap_texts [(xVar .pattern), (xVar .fits), (xVar .candidates), (xVar .index)]))
noncomputable def mg_gap : SX := (sIf (bNot (bOf (xCall sp_is_gap [(x2 tIdx (xPeek .pattern) (xVar .index))]))) (seqs [(sAsg .text (x2 tAdd (xVar .text) (x2 tIdx (xPeek .some_) (xC (.int 0))))),
  sCont]) (seqs []))
noncomputable def mg_head : SX := (sAsg .head (xCall sp_common_head [(xVar .some_), (xVar .is_folding)]))
noncomputable def mg_text : SX := (sAsg .text (x2 tAdd (xVar .text) (xSl (x2 tIdx (xPeek .some_) (xC (.int 0))) none (some (xVar .head)))))
noncomputable def mg_rests : SX := (sAsg .rests (xComp [.head] (xSl (xPeek .own) (some (xVar .head)) none) .own (xVar .some_) (bAll [])))
noncomputable def mg_isp : SX := (sAsg .is_parted (xB (bCmp .ne (xComp [] (xC (.int 1)) .own (xVar .rests) (bCmp .ne (xPeek .own) (xC (.str [])))) (xList []))))
noncomputable def mg_part : SX := (sIf (bAll [(bOf (xVar .is_parted)), (bCmp .lt (xPeek .parted) (xC (.int 0)))]) (seqs [(sAsg .parted (x1 tLen (xVar .text)))]) (seqs []))
noncomputable def mg_own : SX := (sIf (bCmp .eq (x2 tIdx (xPeek .pattern) (xVar .index)) (xC (.int 2))) (seqs [(sAsg .own_point (x1 tLen (xVar .text)))]) (seqs []))
noncomputable def mg_tail : SX := (sIf (bAll [(bOf (xVar .is_parted)), (bCmp .lt (xPeek .index) (x2 tSub (x1 tLen (xVar .pattern)) (xC (.int 1))))]) (seqs [(sAsg .tail (xCall sp_common_tail [(xVar .rests), (xVar .is_folding)])),
  (sAsg .text (x2 tAdd (xVar .text) (xSl (x2 tIdx (xPeek .rests) (xC (.int 0))) (some (x2 tSub (x1 tLen (x2 tIdx (xPeek .rests) (xC (.int 0)))) (xVar .tail))) none)))]) (seqs []))
noncomputable def mgB : SX := seqs [mg_some, mg_gap, mg_head, mg_text, mg_rests, mg_isp, mg_part, mg_own, mg_tail]
noncomputable def mg_0 : SX := (sAsg .fits (xComp [.pattern, .is_folding] (xCall sp_fit_of [(xVar .pattern), (xVar .own), (xVar .is_folding)]) .own (xVar .candidates) (bAll [])))
noncomputable def mg_1 : SX := (sMulti [.text, .parted, .own_point] [(.v (xC (.str []))), (.v (x1 tNeg (xC (.int 1)))), (.v (x1 tNeg (xC (.int 1))))])
noncomputable def mg_2 : SX := (sFor .index (x1 tRange1 (x1 tLen (xVar .pattern))) mgB)
noncomputable def mg_3 : SX := (sIf (bAll [(bCmp .ge (xPeek .own_point) (xC (.int 0))), (bCmp .lt (xPeek .parted) (xC (.int 0)))]) (seqs [(sRet (xCall sp_Merged [(xVar .text), (xIte (bCmp .eq (xPeek .own_point) (x1 tLen (xVar .text))) (x1 tLen (xVar .text)) (xVar .own_point))]))]) (seqs []))
noncomputable def mg_4 : SX := (sRet (xCall sp_Merged [(xVar .text), (xIte (bCmp .ge (xPeek .parted) (xC (.int 0))) (xVar .parted) (x1 tLen (xVar .text)))]))
theorem f_merged_eq : f_merged = seqs [mg_0, mg_1, mg_2, mg_3, mg_4] := rfl
noncomputable def lc_some : SX := (sAsg .some_ (xComp [.index] (x2 tIdx (xPeek .row) (xVar .index)) .row (xVar .rows) (bAll [])))
noncomputable def lc_gap : SX := (sIf (bCmp .eq (x2 tMod (xVar .index) (xC (.int 2))) (xC (.int 1))) (seqs [(sAsg .text (x2 tAdd (xVar .text) (x2 tIdx (xPeek .some_) (xC (.int 0))))),
  sCont]) (seqs []))
noncomputable def lc_head : SX := (sAsg .head (xCall sp_law_head [(xVar .some_), (xVar .is_folding)]))
noncomputable def lc_rests : SX := (sAsg .rests (xComp [.head] (xSl (xPeek .own) (some (xVar .head)) none) .own (xVar .some_) (bAll [])))
noncomputable def lc_text : SX := (sAsg .text (x2 tAdd (xVar .text) (xSl (x2 tIdx (xPeek .some_) (xC (.int 0))) none (some (xVar .head)))))
noncomputable def lc_own : SX := (sIf (bCmp .eq (xPeek .index) (xC (.int 2))) (seqs [(sAsg .own_place (x1 tLen (xVar .text)))]) (seqs []))
noncomputable def lc_tail : SX := (sIf (bCmp .ne (xComp [] (xVar .own) .own (xVar .rests) (bCmp .ne (xPeek .own) (xC (.str [])))) (xList [])) (seqs [(sAsg .parted (xIte (bCmp .lt (xPeek .parted) (xC (.int 0))) (x1 tLen (xVar .text)) (xVar .parted))),
  (sAsg .tail (xIte (bCmp .lt (xPeek .index) (x2 tSub (x1 tLen (x2 tIdx (xPeek .rows) (xC (.int 0)))) (xC (.int 1)))) (xCall sp_law_head [(xComp [] (x1 tRev (xVar .own)) .own (xVar .rests) (bAll [])), (xVar .is_folding)]) (xC (.int 0)))),
  (sAsg .text (x2 tAdd (xVar .text) (xSl (x2 tIdx (xPeek .rests) (xC (.int 0))) (some (x2 tSub (x1 tLen (x2 tIdx (xPeek .rests) (xC (.int 0)))) (xVar .tail))) none)))]) (seqs []))
noncomputable def lcB : SX := seqs [lc_some, lc_gap, lc_head, lc_rests, lc_text, lc_own, lc_tail]
noncomputable def lc_0 : SX := (sMulti [.text, .own_place, .parted] [(.v (xC (.str []))), (.v (xC (.int 0))), (.v (x1 tNeg (xC (.int 1))))])
noncomputable def lc_1 : SX := (sFor .index (x1 tRange1 (x1 tLen (x2 tIdx (xPeek .rows) (xC (.int 0))))) lcB)
noncomputable def lc_2 : SX := (sRet (xTup [(xVar .text), (xIte (bCmp .ge (xPeek .parted) (xC (.int 0))) (xVar .parted) (xVar .own_place))]))
theorem f_law_common_eq : f_law_common = seqs [lc_0, lc_1, lc_2] := rfl

variable {r : Rho} {d : Dk} {f : Bool} {pat : List T} {rows : List Row}

/-! one part of the answer -/
structure Z where
  text : List Nat
  parted : Int
  own : Int
noncomputable def isp (f : Bool) (ss : List (List Nat)) : Bool := (ss.map (List.drop (chead f ss))).any fun s => decide (s ≠ [])
noncomputable def zText (f : Bool) (ss : List (List Nat)) (z : Z) : List Nat := z.text ++ (ss.headD []).take (chead f ss)
noncomputable def rest0 (f : Bool) (ss : List (List Nat)) : List Nat := (ss.headD []).drop (chead f ss)
noncomputable def tailN (f : Bool) (ss : List (List Nat)) : Nat := chead f ((ss.map (List.drop (chead f ss))).map List.reverse)
noncomputable def zStep (f gap point last : Bool) (ss : List (List Nat)) (z : Z) : Z :=
  if gap then
    ⟨if isp f ss && !last then zText f ss z ++ (rest0 f ss).drop ((rest0 f ss).length - tailN f ss) else zText f ss z,
     if isp f ss && decide (z.parted < 0) then (zText f ss z).length else z.parted,
     if point then (zText f ss z).length else z.own⟩
  else ⟨z.text ++ ss.headD [], z.parted, z.own⟩

theorem addS (a b : List Nat) (h : (a ++ b).length ≤ 10000) : tAdd (.str a) (.str b) = some (.str (a ++ b)) := by
  show (if (a ++ b).length ≤ szL then some (T.str (a ++ b)) else none) = _
  rw [if_pos (by have := szL_eq; omega)]
theorem head0 {ss : List (List Nat)} (h : ss ≠ []) : tIdx (strsT ss) (.int 0) = some (.str (ss.headD [])) := by
  cases ss with
  | nil => exact absurd rfl h
  | cons s ss => exact tIdx_list_ok _ 0 (by omega) _ rfl
theorem rests_ev {h : Nat} {ss : List (List Nat)} (h1 : r .head = some (.val (.int h))) (h2 : r .some_ = some (.val (strsT ss))) (hh : h < 10000) (hl : ss.length ≤ 1000) :
    xComp [.head] (xSl (xPeek .own) (some (xVar .head)) none) .own (xVar .some_) (bAll []) r d = some (strsT (ss.map (List.drop h)), d) := by
  refine (xComp_ev (xVar_ev h2) rfl (by have := szL_eq; simp; omega) (compGo_map' T.str (fun s => T.str (s.drop h)) fun s hs => ?_)).trans ?_
  · exact xSl_ev (xPeek_ev (t := .str s) (by simp [inner])) (oInt_ev (xVar_ev (t := .int h) (by simp [inner, h1]))) oInt_none (tSl_lo _ _ hh)
  · unfold strsT; rw [List.map_map]; rfl
theorem anyc_ev (g : T → T) {elt : X} {ss : List (List Nat)} (he : ∀ s ∈ ss, elt (inner [] .own (.str s) r) d = some (g (.str s), d)) (h2 : r .rests = some (.val (strsT ss))) (hl : ss.length ≤ 1000) :
    bCmp .ne (xComp [] elt .own (xVar .rests) (bCmp .ne (xPeek .own) (xC (.str [])))) (xList []) r d = some (ss.any fun s => decide (s ≠ []), d) := by
  refine bCmp_ev (xComp_ev (xVar_ev h2) rfl (by have := szL_eq; simp; omega) (compGo_filter g (fun t => match t with | .str s => decide (s ≠ []) | _ => false) fun t ht => ?_)) (xList_ev xs_nil) ?_
  · obtain ⟨s, hs, rfl⟩ := List.mem_map.mp ht
    refine ⟨bCmp_ev (xPeek_ev (t := .str s) (by simp [inner])) xC_ev ?_, he s hs⟩
    show some (!(decide (s = []))) = some (decide (s ≠ []))
    simp
  · rw [ne_nil]
    congr 1
    rw [Bool.eq_iff_iff, Bool.not_eq_true', List.any_eq_true]
    constructor
    · intro q
      rw [List.isEmpty_eq_false_iff_exists_mem] at q
      obtain ⟨x, hx⟩ := q
      obtain ⟨y, hy, rfl⟩ := List.mem_map.mp hx
      obtain ⟨hy1, hy2⟩ := List.mem_filter.mp hy
      obtain ⟨s, hs, rfl⟩ := List.mem_map.mp hy1
      exact ⟨s, hs, hy2⟩
    · rintro ⟨s, hs, hn⟩
      rw [List.isEmpty_eq_false_iff_exists_mem]
      exact ⟨_, List.mem_map_of_mem (List.mem_filter.mpr ⟨List.mem_map_of_mem hs, hn⟩)⟩
theorem Oks.drop {ss : List (List Nat)} (h : Oks ss) (n : Nat) : Oks (ss.map (List.drop n)) where
  ok := fun s hs => by
    obtain ⟨t, ht, rfl⟩ := List.mem_map.mp hs
    exact (h.ok t ht).drop n
  ne := by have := h.ne; simpa using this
  few := by have := h.few; simpa using this
  sh := fun s hs => by
    obtain ⟨t, ht, rfl⟩ := List.mem_map.mp hs
    have := h.sh t ht; simp; omega
theorem headD_mem {ss : List (List Nat)} (h : ss ≠ []) : ss.headD [] ∈ ss := by
  cases ss with
  | nil => exact absurd rfl h
  | cons s ss => simp
theorem chead_60 {ss : List (List Nat)} (h : Oks ss) : chead f ss ≤ 60 := by
  have := chead_le (f := f) ss
  have := mlen_le (headD_mem h.ne)
  have := h.sh _ (headD_mem h.ne)
  omega
theorem headD_drop {ss : List (List Nat)} (h : ss ≠ []) (n : Nat) : (ss.map (List.drop n)).headD [] = (ss.headD []).drop n := by
  cases ss with
  | nil => exact absurd rfl h
  | cons s ss => rfl
theorem tailN_le {ss : List (List Nat)} (h : Oks ss) : tailN f ss ≤ (rest0 f ss).length := by
  unfold tailN rest0
  have h2 := (h.drop (chead f ss)).rev
  have h3 := chead_le (f := f) ((ss.map (List.drop (chead f ss))).map List.reverse)
  have h4 : ((ss.headD []).drop (chead f ss)).reverse ∈ (ss.map (List.drop (chead f ss))).map List.reverse := List.mem_map_of_mem (List.mem_map_of_mem (headD_mem h.ne))
  have h5 := mlen_le h4
  simp only [List.length_drop, List.length_reverse] at h5 ⊢
  exact Nat.le_trans h3 h5
/-- the end of a step: the tail -/
theorem tail_ev {x : N} {a : List Nat} {ss : List (List Nat)} (h : Oks ss) (h1 : r .text = some (.val (.str a))) (h2 : r .rests = some (.val (strsT (ss.map (List.drop (chead f ss)))))) (h3 : r .tail = some (.val (.int (tailN f ss)))) (hl : a.length ≤ 5000) :
    (x2 tAdd (xVar .text) (xSl (x2 tIdx (xPeek .rests) (xC (.int 0))) (some (x2 tSub (x1 tLen (x2 tIdx (xPeek .rests) (xC (.int 0)))) (xVar .tail))) none)) r d = some (.str (a ++ (rest0 f ss).drop ((rest0 f ss).length - tailN f ss)), d) := by
  have hr : (x2 tIdx (xPeek .rests) (xC (.int 0))) r d = some (.str (rest0 f ss), d) := x2_ev (xPeek_ev h2) xC_ev (by rw [head0 (h.drop _).ne, headD_drop h.ne]; rfl)
  have ht := tailN_le (f := f) h
  have h60 : (rest0 f ss).length ≤ 60 := by have := h.sh _ (headD_mem h.ne); unfold rest0; simp only [List.length_drop]; omega
  have hs : (x2 tSub (x1 tLen (x2 tIdx (xPeek .rests) (xC (.int 0)))) (xVar .tail)) r d = some (.int (((rest0 f ss).length - tailN f ss : Nat) : Int), d) := by
    refine x2_ev (x1_ev hr rfl) (xVar_ev h3) ?_
    show some (T.int (((rest0 f ss).length : Int) - (tailN f ss : Int))) = _
    rw [Int.ofNat_sub ht]
  exact x2_ev (xVar_ev h1) (xSl_ev hr (oInt_ev hs) oInt_none (tSl_lo _ _ (by omega))) (addS _ _ (by simp only [List.length_append, List.length_drop, List.length_take, List.length_reverse]; omega))
theorem text_ev {a : List Nat} {ss : List (List Nat)} (h : Oks ss) {n : Nat} (h1 : r .text = some (.val (.str a))) (h2 : r .some_ = some (.val (strsT ss))) (h3 : r .head = some (.val (.int n))) (hn : n < 10000) (hl : a.length ≤ 5000) :
    (x2 tAdd (xVar .text) (xSl (x2 tIdx (xPeek .some_) (xC (.int 0))) none (some (xVar .head)))) r d = some (.str (a ++ (ss.headD []).take n), d) := by
  have h60 := h.sh _ (headD_mem h.ne)
  exact x2_ev (xVar_ev h1) (xSl_ev (x2_ev (xPeek_ev h2) xC_ev (head0 h.ne)) oInt_none (oInt_ev (xVar_ev h3)) (tSl_hi _ _ hn)) (addS _ _ (by simp only [List.length_append, List.length_drop, List.length_take, List.length_reverse]; omega))
theorem str_ev {a : List Nat} {ss : List (List Nat)} (h : Oks ss) (h1 : r .text = some (.val (.str a))) (h2 : r .some_ = some (.val (strsT ss))) (hl : a.length ≤ 5000) :
    (x2 tAdd (xVar .text) (x2 tIdx (xPeek .some_) (xC (.int 0)))) r d = some (.str (a ++ ss.headD []), d) := by
  have h60 := h.sh _ (headD_mem h.ne)
  exact x2_ev (xVar_ev h1) (x2_ev (xPeek_ev h2) xC_ev (head0 h.ne)) (addS _ _ (by simp only [List.length_append, List.length_drop, List.length_take, List.length_reverse]; omega))
theorem zStep_len {ss : List (List Nat)} (h : Oks ss) {gap point last : Bool} {z : Z} : (zStep f gap point last ss z).text.length ≤ z.text.length + 120 := by
  have h60 := h.sh _ (headD_mem h.ne)
  have h1 : (rest0 f ss).length ≤ 60 := by unfold rest0; simp only [List.length_drop]; omega
  unfold zStep zText
  split
  · dsimp only
    split <;> simp only [List.length_append, List.length_drop, List.length_take, List.length_reverse] <;> omega
  · simp only [List.length_append, List.length_drop, List.length_take, List.length_reverse]; omega
end Mine
end

section
set_option linter.unusedSimpArgs false
set_option linter.unusedVariables false
namespace Mine
variable {r : Rho} {d : Dk} {f : Bool} {pat : List T} {rows : List Row}

noncomputable def isGapT : T → Bool
  | .str _ => false
  | _ => true
noncomputable def ptT : T → Bool
  | .int i => decide (i = 2)
  | _ => false
theorem Fits.item {tx : List Nat} {a : Nat} {p : List T} {ss : List (List Nat)} (h : Fits f tx a p ss) : ∀ t ∈ p, (∃ g, t = .int g) ∨ ∃ S, t = .str S := by
  induction h with
  | done => intro t ht; cases ht
  | str _ _ _ _ _ ih =>
    intro t ht
    rcases List.mem_cons.mp ht with rfl | ht
    · exact .inr ⟨_, rfl⟩
    · exact ih t ht
  | glast _ _ _ =>
    intro t ht
    rcases List.mem_cons.mp ht with rfl | ht
    · exact .inl ⟨_, rfl⟩
    · cases ht
  | gmid _ _ _ _ _ _ _ ih =>
    intro t ht
    rcases List.mem_cons.mp ht with rfl | ht
    · exact .inl ⟨_, rfl⟩
    · exact ih t ht
theorem AllFit.item (A : AllFit f pat rows) : ∀ t ∈ pat, (∃ g, t = .int g) ∨ ∃ S, t = .str S := by
  have := A.ne
  cases rows with
  | nil => exact absurd rfl this
  | cons ro rows => exact (A.fit ro (by simp)).item

structure MgR (f : Bool) (pat : List T) (rows : List Row) (z : Z) (r : Rho) : Prop where
  p : r .pattern = some (.val (.list pat))
  c : r .candidates = some (.val (.list (rows.map rowS)))
  fo : r .is_folding = some (.val (.bool f))
  fi : r .fits = some (.val (.list (rows.map rowF)))
  tx : r .text = some (.val (.str z.text))
  pa : r .parted = some (.val (.int z.parted))
  ow : r .own_point = some (.val (.int z.own))
theorem ltI (a b : Int) : tCmp .lt (.int a) (.int b) = some (decide (a < b)) := rfl
theorem geI (a b : Int) : tCmp .ge (.int a) (.int b) = some (decide (b ≤ a)) := rfl
theorem mg_turn (A : AllFit f pat rows) {i : Nat} {z : Z} {t : T} (ht : pat[i]? = some t) (R : MgR f pat rows z r) (hix : r .index = some (.val (.int i))) (hz : z.text.length ≤ 4000) :
    ∃ fl r', (fl = .next ∨ fl = .cont) ∧ mgB r d = some (fl, r', d) ∧ MgR f pat rows (zStep f (isGapT t) (ptT t) (decide (i + 1 = pat.length)) (col rows i) z) r' := by
  have hi : i < pat.length := by
    rcases Nat.lt_or_ge i pat.length with h | h
    · exact h
    · rw [List.getElem?_eq_none h] at ht; cases ht
  have hsh := A.short
  have O := A.colOk i
  have h60 := O.sh _ (headD_mem O.ne)
  have hch := chead_60 (f := f) O
  generalize hss : col rows i = ss at O h60 hch
  let r1 : Rho := upd r .some_ (.val (strsT ss))
  have e1 : mg_some r d = some (.next, r1, d) := sAsg_ev (xCall_ev (xs_cons (xVar_ev R.p) (xs_cons (xVar_ev R.fi) (xs_cons (xVar_ev R.c) (xs_cons (xVar_ev hix) xs_nil)))) (by rw [gap_texts_ev A hi, hss]))
  have p1 : r1 .pattern = some (.val (.list pat)) := R.p
  have i1 : r1 .index = some (.val (.int i)) := hix
  have it1 : (x2 tIdx (xPeek .pattern) (xVar .index)) r1 d = some (t, d) := x2_ev (xPeek_ev p1) (xVar_ev i1) (tIdx_list_ok _ i (by omega) t ht)
  rcases A.item t (List.mem_of_getElem? ht) with ⟨g, rfl⟩ | ⟨S, rfl⟩
  · -- a gap
    have e2 : mg_gap r1 d = some (.next, r1, d) := (sIf_f (d1 := d) (bNot_ev (bOf_ev (xCall_ev (xs_cons it1 xs_nil) (gap_int g d)) rfl))).trans seqs_nil
    let r2 : Rho := upd r1 .head (.val (.int (chead f ss)))
    have f1 : r1 .is_folding = some (.val (.bool f)) := R.fo
    have s1 : r1 .some_ = some (.val (strsT ss)) := rfl
    have e3 : mg_head r1 d = some (.next, r2, d) := sAsg_ev (xCall_ev (xs_cons (xVar_ev s1) (xs_cons (xVar_ev f1) xs_nil)) (common_head_ev O))
    let r3 : Rho := upd r2 .text (.val (.str (zText f ss z)))
    have t2 : r2 .text = some (.val (.str z.text)) := R.tx
    have s2 : r2 .some_ = some (.val (strsT ss)) := rfl
    have h2 : r2 .head = some (.val (.int (chead f ss))) := rfl
    have e4 : mg_text r2 d = some (.next, r3, d) := sAsg_ev (text_ev O t2 s2 h2 (by omega) (by omega))
    let r4 : Rho := upd r3 .rests (.val (strsT (ss.map (List.drop (chead f ss)))))
    have s3 : r3 .some_ = some (.val (strsT ss)) := rfl
    have h3 : r3 .head = some (.val (.int (chead f ss))) := rfl
    have e5 : mg_rests r3 d = some (.next, r4, d) := sAsg_ev (rests_ev h3 s3 (by omega) (by have := O.few; omega))
    let r5 : Rho := upd r4 .is_parted (.val (.bool (isp f ss)))
    have re4 : r4 .rests = some (.val (strsT (ss.map (List.drop (chead f ss))))) := rfl
    have e6 : mg_isp r4 d = some (.next, r5, d) := sAsg_ev (xB_ev (anyc_ev (fun _ => .int 1) (fun s hs => rfl) re4 (by have := O.few; simp; omega)))
    have ip5 : r5 .is_parted = some (.val (.bool (isp f ss))) := rfl
    have pa5 : r5 .parted = some (.val (.int z.parted)) := R.pa
    have tx5 : r5 .text = some (.val (.str (zText f ss z))) := rfl
    let pt' : Int := if isp f ss && decide (z.parted < 0) then (zText f ss z).length else z.parted
    have c5 : (bAll [(bOf (xVar .is_parted)), (bCmp .lt (xPeek .parted) (xC (.int 0)))]) r5 d = some (isp f ss && decide (z.parted < 0), d) := by
      cases q : isp f ss with
      | true =>
        rw [q] at ip5
        refine (bAll_t (d1 := d) (bOf_ev (xVar_ev ip5) rfl)).trans ?_
        have := bCmp_ev (d := d) (xPeek_ev pa5) (xC_ev (t := .int 0)) (ltI _ _)
        cases q2 : decide (z.parted < 0) with
        | true => rw [q2] at this; exact (bAll_t this).trans bAll_nil
        | false => rw [q2] at this; exact bAll_f this
      | false =>
        rw [q] at ip5
        exact bAll_f (d1 := d) (bOf_ev (xVar_ev ip5) rfl)
    have e7 : ∃ r6, mg_part r5 d = some (.next, r6, d) ∧ r6 .parted = some (.val (.int pt')) ∧ ∀ y, y ≠ .parted → r6 y = r5 y := by
      cases q : (isp f ss && decide (z.parted < 0)) with
      | true =>
        rw [q] at c5
        refine ⟨upd r5 .parted (.val (.int (zText f ss z).length)), (sIf_t c5).trans ((seqs_next (sAsg_ev (lenS_ev tx5))).trans seqs_nil), ?_, fun y hy => upd_ne _ _ hy⟩
        rw [upd_same]; simp only [pt', q, if_true]
      | false =>
        rw [q] at c5
        refine ⟨r5, (sIf_f c5).trans seqs_nil, ?_, fun y hy => rfl⟩
        rw [pa5]; simp only [pt', q, Bool.false_eq_true, if_false]
    obtain ⟨r6, e7, pa6, k6⟩ := e7
    let ow' : Int := if decide (g = 2) then (zText f ss z).length else z.own
    have p6 : r6 .pattern = some (.val (.list pat)) := (k6 _ (by decide)).trans R.p
    have i6 : r6 .index = some (.val (.int i)) := (k6 _ (by decide)).trans hix
    have tx6 : r6 .text = some (.val (.str (zText f ss z))) := (k6 _ (by decide)).trans tx5
    have ow6 : r6 .own_point = some (.val (.int z.own)) := (k6 _ (by decide)).trans R.ow
    have c6 := bCmp_ev (d := d) (x2_ev (xPeek_ev p6) (xVar_ev i6) (tIdx_list_ok _ i (by omega) (.int g) ht)) (xC_ev (t := .int 2)) (eqI _ _)
    have e8 : ∃ r7, mg_own r6 d = some (.next, r7, d) ∧ r7 .own_point = some (.val (.int ow')) ∧ ∀ y, y ≠ .own_point → r7 y = r6 y := by
      cases q : decide (g = 2) with
      | true =>
        rw [q] at c6
        refine ⟨upd r6 .own_point (.val (.int (zText f ss z).length)), (sIf_t c6).trans ((seqs_next (sAsg_ev (lenS_ev tx6))).trans seqs_nil), ?_, fun y hy => upd_ne _ _ hy⟩
        rw [upd_same]; simp only [ow', q, if_true]
      | false =>
        rw [q] at c6
        refine ⟨r6, (sIf_f c6).trans seqs_nil, ?_, fun y hy => rfl⟩
        rw [ow6]; simp only [ow', q, Bool.false_eq_true, if_false]
    obtain ⟨r7, e8, ow7, k7⟩ := e8
    have k57 : ∀ y, y ≠ .parted → y ≠ .own_point → r7 y = r5 y := fun y h1 h2 => (k7 y h2).trans (k6 y h1)
    have ip7 : r7 .is_parted = some (.val (.bool (isp f ss))) := k57 _ (by decide) (by decide)
    have tx7 : r7 .text = some (.val (.str (zText f ss z))) := k57 _ (by decide) (by decide)
    have i7 : r7 .index = some (.val (.int i)) := (k57 _ (by decide) (by decide)).trans hix
    have p7 : r7 .pattern = some (.val (.list pat)) := (k57 _ (by decide) (by decide)).trans R.p
    have re7 : r7 .rests = some (.val (strsT (ss.map (List.drop (chead f ss))))) := k57 _ (by decide) (by decide)
    have f7 : r7 .is_folding = some (.val (.bool f)) := (k57 _ (by decide) (by decide)).trans R.fo
    have pa7 : r7 .parted = some (.val (.int pt')) := (k7 _ (by decide)).trans pa6
    have c7' := bCmp_ev (d := d) (xPeek_ev i7) (x2_ev (op := tSub) (c := .int ((pat.length : Int) - 1)) (len_ev p7) (xC_ev (t := .int 1)) rfl) (ltI _ _)
    have hdec : decide ((i : Int) < (pat.length : Int) - 1) = !decide (i + 1 = pat.length) := by
      by_cases h : i + 1 = pat.length
      · rw [decide_eq_true h, decide_eq_false (by omega)]; rfl
      · rw [decide_eq_false h, decide_eq_true (by omega)]; rfl
    rw [hdec] at c7'
    have c7 : (bAll [(bOf (xVar .is_parted)), (bCmp .lt (xPeek .index) (x2 tSub (x1 tLen (xVar .pattern)) (xC (.int 1))))]) r7 d = some (isp f ss && !decide (i + 1 = pat.length), d) := by
      cases q : isp f ss with
      | true =>
        rw [q] at ip7
        refine (bAll_t (d1 := d) (bOf_ev (xVar_ev ip7) rfl)).trans ?_
        cases q2 : (!decide (i + 1 = pat.length)) with
        | true => rw [q2] at c7'; exact (bAll_t c7').trans bAll_nil
        | false => rw [q2] at c7'; exact bAll_f c7'
      | false =>
        rw [q] at ip7
        exact bAll_f (d1 := d) (bOf_ev (xVar_ev ip7) rfl)
    have e9 : ∃ r8, mg_tail r7 d = some (.next, r8, d) ∧ r8 .text = some (.val (.str (zStep f true (decide (g = 2)) (decide (i + 1 = pat.length)) ss z).text)) ∧ ∀ y, y ≠ .text → y ≠ .tail → r8 y = r7 y := by
      cases q : (isp f ss && !decide (i + 1 = pat.length)) with
      | true =>
        rw [q] at c7
        let ra : Rho := upd r7 .tail (.val (.int (tailN f ss)))
        have s1 : sAsg .tail (xCall sp_common_tail [(xVar .rests), (xVar .is_folding)]) r7 d = some (.next, ra, d) := sAsg_ev (xCall_ev (xs_cons (xVar_ev re7) (xs_cons (xVar_ev f7) xs_nil)) (common_tail_ev (O.drop _)))
        have ta : ra .tail = some (.val (.int (tailN f ss))) := rfl
        have s2 := sAsg_ev (x := .text) (tail_ev (d := d) (x := .text) (r := ra) O tx7 re7 ta (by unfold zText; simp only [List.length_append, List.length_take]; omega))
        refine ⟨_, (sIf_t c7).trans ((seqs_next s1).trans ((seqs_next s2).trans seqs_nil)), ?_, fun y h1 h2 => (upd_ne _ _ h1).trans (upd_ne _ _ h2)⟩
        rw [upd_same]
        unfold zStep
        simp only [if_true, q]
      | false =>
        rw [q] at c7
        refine ⟨r7, (sIf_f c7).trans seqs_nil, ?_, fun y _ _ => rfl⟩
        rw [tx7]
        unfold zStep
        simp only [if_true, q, Bool.false_eq_true, if_false]
    obtain ⟨r8, e9, tx8, k8⟩ := e9
    have kk : ∀ y, y ≠ .text → y ≠ .tail → y ≠ .own_point → y ≠ .parted → r8 y = r5 y := fun y a b c e => (k8 y a b).trans (k57 y e c)
    refine ⟨.next, r8, .inl rfl, ?_, ⟨(kk _ (by decide) (by decide) (by decide) (by decide)).trans R.p, (kk _ (by decide) (by decide) (by decide) (by decide)).trans R.c, (kk _ (by decide) (by decide) (by decide) (by decide)).trans R.fo, (kk _ (by decide) (by decide) (by decide) (by decide)).trans R.fi, ?_, ?_, ?_⟩⟩
    · unfold mgB
      rw [seqs_next e1, seqs_next e2, seqs_next e3, seqs_next e4, seqs_next e5, seqs_next e6, seqs_next e7, seqs_next e8, seqs_next e9]; rfl
    · exact tx8
    · rw [k8 _ (by decide) (by decide), pa7]; rfl
    · rw [k8 _ (by decide) (by decide), ow7]; rfl
  · -- a text
    have t1 : r1 .text = some (.val (.str z.text)) := R.tx
    have s1 : r1 .some_ = some (.val (strsT ss)) := rfl
    have e2 : mg_gap r1 d = some (.cont, upd r1 .text (.val (.str (z.text ++ ss.headD []))), d) := by
      refine (sIf_t (d1 := d) (bNot_ev (bOf_ev (xCall_ev (xs_cons it1 xs_nil) (gap_str S d)) rfl))).trans ?_
      exact (seqs_next (sAsg_ev (str_ev O t1 s1 (by omega)))).trans (seqs_cont rfl)
    refine ⟨.cont, _, .inr rfl, (seqs_next e1).trans (seqs_cont e2), ⟨R.p, R.c, R.fo, R.fi, ?_, R.pa, R.ow⟩⟩
    rfl
end Mine
end

section
set_option linter.unusedSimpArgs false
set_option linter.unusedVariables false
namespace Mine
variable {r : Rho} {d : Dk} {f : Bool} {pat : List T} {rows : List Row}

/-- all the steps -/
noncomputable def zRun (f : Bool) (gp pt la : Nat → Bool) (C : Nat → List (List Nat)) : Nat → Nat → Z → Z
  | 0, j, z => z
  | n + 1, j, z => zRun f gp pt la C n (j + 1) (zStep f (gp j) (pt j) (la j) (C j) z)
noncomputable def mgGp (pat : List T) (j : Nat) : Bool := isGapT (pat[j]?.getD .none)
noncomputable def mgPt (pat : List T) (j : Nat) : Bool := ptT (pat[j]?.getD .none)
noncomputable def mgLa (pat : List T) (j : Nat) : Bool := decide (j + 1 = pat.length)
noncomputable def mgZ (f : Bool) (pat : List T) (rows : List Row) : Z := zRun f (mgGp pat) (mgPt pat) (mgLa pat) (col rows) pat.length 0 ⟨[], -1, -1⟩
theorem mg_loop (A : AllFit f pat rows) : ∀ (n j : Nat) (r : Rho) (z : Z), j + n = pat.length → MgR f pat rows z r → z.text.length ≤ 120 * j →
    ∃ r', forGo .index mgB ((List.range' j n).map fun (k : Nat) => T.int ((0 : Int) + (k : Int))) r d = some (.next, r', d) ∧ MgR f pat rows (zRun f (mgGp pat) (mgPt pat) (mgLa pat) (col rows) n j z) r'
  | 0, j, r, z, hj, R, hz => ⟨r, rfl, R⟩
  | n + 1, j, r, z, hj, R, hz => by
    have hsh := A.short
    have hlt : j < pat.length := by omega
    have ht : pat[j]? = some pat[j] := List.getElem?_eq_getElem hlt
    have hg : pat[j]?.getD .none = pat[j] := by rw [ht]; rfl
    let r1 : Rho := upd r .index (.val (.int ((0 : Int) + (j : Int))))
    have R1 : MgR f pat rows z r1 := ⟨R.p, R.c, R.fo, R.fi, R.tx, R.pa, R.ow⟩
    have i1 : r1 .index = some (.val (.int j)) := by show some (Ent.val (T.int ((0 : Int) + (j : Int)))) = _; simp
    obtain ⟨fl, r2, hfl, e, R2⟩ := mg_turn (d := d) A ht R1 i1 (by omega)
    obtain ⟨r3, e3, R3⟩ := mg_loop A n (j + 1) r2 _ (by omega) R2 (by have := zStep_len (f := f) (A.colOk j) (gap := isGapT pat[j]) (point := ptT pat[j]) (last := decide (j + 1 = pat.length)) (z := z); omega)
    refine ⟨r3, ?_, ?_⟩
    · rw [List.range'_succ, List.map_cons]
      rcases hfl with rfl | rfl
      · exact (forGo_next e).trans e3
      · exact (forGo_cont e).trans e3
    · unfold zRun mgGp mgPt mgLa
      rw [hg]; exact R3
noncomputable def zPoint (z : Z) : Int := if z.parted < 0 then z.own else z.parted
theorem merged_ev (A : AllFit f pat rows) (ho : 0 ≤ (mgZ f pat rows).own) : sp_merged [.list pat, .list (rows.map rowS), .bool f] d = some (.mrg (.str (mgZ f pat rows).text) (.int (zPoint (mgZ f pat rows))), d) := by
  let r0 : Rho := upd (upd (upd (fun _ => none) .is_folding (.val (.bool f))) .candidates (.val (.list (rows.map rowS)))) .pattern (.val (.list pat))
  let r1 : Rho := upd r0 .fits (.val (.list (rows.map rowF)))
  let r2 : Rho := upd (upd (upd r1 .text (.val (.str []))) .parted (.val (.int (-1)))) .own_point (.val (.int (-1)))
  have hsh := A.short
  refine fnGo_of (r := r0) rfl ?_
  have e0 : mg_0 r0 d = some (.next, r1, d) := sAsg_ev (fits_comp A rfl rfl (y := .candidates) rfl)
  have e1 : mg_1 r1 d = some (.next, r2, d) := rfl
  obtain ⟨r3, h1, R⟩ := mg_loop (d := d) A pat.length 0 r2 ⟨[], -1, -1⟩ (by omega) ⟨rfl, rfl, rfl, rfl, rfl, rfl, rfl⟩ (by simp)
  have f1 : fitI (pat.length : Int) = true := fitI_small (by omega) (by omega)
  have p2 : r2 .pattern = some (.val (.list pat)) := rfl
  have e2 : (x1 tRange1 (x1 tLen (xVar .pattern))) r2 d = some (.rng 0 pat.length, d) := x1_ev (len_ev p2) (tRange1_ok _ f1 (by have := szL_eq; omega))
  have s3 := sFor_ev (x := .index) (a := mgB) e2 rfl (by have := szL_eq; simp; omega)
  rw [show ((pat.length : Int) - 0).toNat = pat.length by omega, List.range_eq_range', h1] at s3
  have R' : MgR f pat rows (mgZ f pat rows) r3 := R
  generalize mgZ f pat rows = z at ho R'
  rw [f_merged_eq, seqs_next e0, seqs_next e1, seqs_next (show mg_2 r2 d = _ from s3)]
  have c1 : bCmp .ge (xPeek .own_point) (xC (.int 0)) r3 d = some (true, d) := bCmp_ev (xPeek_ev R'.ow) xC_ev (by rw [geI, decide_eq_true ho])
  have c2 := bCmp_ev (d := d) (xPeek_ev R'.pa) (xC_ev (t := .int 0)) (ltI _ _)
  by_cases hp : z.parted < 0
  · rw [decide_eq_true hp] at c2
    refine ⟨r3, seqs_ret ((sIf_t (d1 := d) ((bAll_t c1).trans ((bAll_t c2).trans bAll_nil))).trans (seqs_ret (sRet_ev ?_)))⟩
    refine xCall_ev (d1 := d) (as := [.str z.text, .int z.own]) (xs_cons (xVar_ev R'.tx) (xs_cons ?_ xs_nil)) (by unfold zPoint; rw [if_pos hp]; rfl)
    have c3 := bCmp_ev (d := d) (xPeek_ev R'.ow) (lenS_ev R'.tx) (eqI _ _)
    by_cases hq : z.own = z.text.length
    · rw [decide_eq_true hq] at c3
      refine (xIte_t c3).trans ?_
      rw [lenS_ev R'.tx, ← hq]
    · rw [decide_eq_false hq] at c3
      exact (xIte_f c3).trans (xVar_ev R'.ow)
  · rw [decide_eq_false hp] at c2
    have c4 : bCmp .ge (xPeek .parted) (xC (.int 0)) r3 d = some (true, d) := bCmp_ev (xPeek_ev R'.pa) xC_ev (by rw [geI, decide_eq_true (by omega)])
    refine ⟨r3, (seqs_next ((sIf_f (d1 := d) ((bAll_t c1).trans (bAll_f c2))).trans seqs_nil)).trans (seqs_ret (sRet_ev ?_))⟩
    exact xCall_ev (d1 := d) (as := [.str z.text, .int z.parted]) (xs_cons (xVar_ev R'.tx) (xs_cons ((xIte_t c4).trans (xVar_ev R'.pa)) xs_nil)) (by unfold zPoint; rw [if_neg hp]; rfl)

/-! the law's own answer -/
noncomputable def rowL (ro : Row) : T := strsT ro
structure LcOk (rows : List Row) (N : Nat) : Prop where
  len : ∀ ro ∈ rows, ro.length = N
  ok : ∀ ro ∈ rows, ∀ s ∈ ro, Ok s ∧ s.length ≤ 60
  ne : rows ≠ []
  few : rows.length ≤ 50
  short : N ≤ 10
theorem LcOk.colOk {N : Nat} (A : LcOk rows N) (i : Nat) : Oks (col rows i) where
  ok := fun s hs => by
    obtain ⟨ro, hro, rfl⟩ := List.mem_map.mp hs
    cases e : ro[i]? with
    | none => exact ⟨(fun c hc => by simp at hc), (by simp)⟩
    | some t => exact (A.ok ro hro t (List.mem_of_getElem? e)).1
  ne := by have := A.ne; simpa [col] using this
  few := by have := A.few; simpa [col] using this
  sh := fun s hs => by
    obtain ⟨ro, hro, rfl⟩ := List.mem_map.mp hs
    cases e : ro[i]? with
    | none => simp
    | some t => exact (A.ok ro hro t (List.mem_of_getElem? e)).2
structure LcR (f : Bool) (rows : List Row) (z : Z) (r : Rho) : Prop where
  c : r .rows = some (.val (.list (rows.map rowL)))
  fo : r .is_folding = some (.val (.bool f))
  tx : r .text = some (.val (.str z.text))
  pa : r .parted = some (.val (.int z.parted))
  ow : r .own_place = some (.val (.int z.own))
end Mine
end

section
set_option linter.unusedSimpArgs false
set_option linter.unusedVariables false
namespace Mine
variable {r : Rho} {d : Dk} {f : Bool} {rows : List Row} {N' : Nat}

theorem revC {x : N} {fv : List N} {ss : List (List Nat)} (hr : r .rests = some (.val (strsT ss))) (hl : ss.length ≤ 1000) : xComp [] (x1 tRev (xVar .own)) .own (xVar .rests) (bAll []) r d = some (strsT (ss.map List.reverse), d) := rev_comp hr hl
theorem tMod_ok (a b : Int) (h : b ≠ 0) : tMod (.int a) (.int b) = some (.int (a.fmod b)) := by unfold tMod; exact if_neg h
theorem lc_turn (A : LcOk rows N') {i : Nat} {z : Z} (hi : i < N') (R : LcR f rows z r) (hix : r .index = some (.val (.int i))) (hz : z.text.length ≤ 4000) :
    ∃ fl r', (fl = .next ∨ fl = .cont) ∧ lcB r d = some (fl, r', d) ∧ LcR f rows (zStep f (decide (i % 2 ≠ 1)) (decide (i = 2)) (decide (i + 1 = N')) (col rows i) z) r' := by
  have hsh := A.short
  have O := A.colOk i
  have h60 := O.sh _ (headD_mem O.ne)
  have hch := chead_60 (f := f) O
  have ecol : (xComp [.index] (x2 tIdx (xPeek .row) (xVar .index)) .row (xVar .rows) (bAll [])) r d = some (strsT (col rows i), d) := by
    refine (xComp_ev (xVar_ev R.c) rfl (by have := szL_eq; have := A.few; simp; omega) (compGo_map' rowL (fun ro => T.str (ro[i]?.getD [])) fun ro hro => ?_)).trans ?_
    · exact x2_ev (xPeek_ev (t := rowL ro) (by simp [inner])) (xVar_ev (t := .int i) (by simp [inner, hix])) (tIdx_list_ok _ i (by omega) _ (by rw [List.getElem?_map, getD_of (by rw [A.len ro hro]; omega)]; rfl))
    · unfold strsT col; rw [List.map_map]; rfl
  generalize hss : col rows i = ss at O h60 hch ecol
  let r1 : Rho := upd r .some_ (.val (strsT ss))
  have e1 : lc_some r d = some (.next, r1, d) := sAsg_ev ecol
  have i1 : r1 .index = some (.val (.int i)) := hix
  have cg := bCmp_ev (d := d) (x2_ev (op := tMod) (xVar_ev i1) (xC_ev (t := .int 2)) (tMod_ok _ _ (by decide))) (xC_ev (t := .int 1)) (eqI _ _)
  have hm : decide (((i : Int).fmod 2) = 1) = decide (i % 2 = 1) := by
    have : (i : Int).fmod 2 = ((i % 2 : Nat) : Int) := by
      rw [Int.fmod_eq_emod_of_nonneg _ (by decide)]; omega
    rw [this]
    by_cases h : i % 2 = 1
    · rw [decide_eq_true h, decide_eq_true (by omega)]
    · rw [decide_eq_false h, decide_eq_false (by omega)]
  rw [hm] at cg
  by_cases hgap : i % 2 = 1
  · rw [decide_eq_true hgap] at cg
    have t1 : r1 .text = some (.val (.str z.text)) := R.tx
    have s1 : r1 .some_ = some (.val (strsT ss)) := rfl
    have e2 : lc_gap r1 d = some (.cont, upd r1 .text (.val (.str (z.text ++ ss.headD []))), d) :=
      (sIf_t cg).trans ((seqs_next (sAsg_ev (str_ev O t1 s1 (by omega)))).trans (seqs_cont rfl))
    refine ⟨.cont, _, .inr rfl, (seqs_next e1).trans (seqs_cont e2), ?_⟩
    have : decide (i % 2 ≠ 1) = false := decide_eq_false (by omega)
    rw [this]
    exact ⟨R.c, R.fo, rfl, R.pa, R.ow⟩
  · rw [decide_eq_false hgap] at cg
    have e2 : lc_gap r1 d = some (.next, r1, d) := (sIf_f cg).trans seqs_nil
    have hg : decide (i % 2 ≠ 1) = true := decide_eq_true hgap
    rw [hg]
    let r2 : Rho := upd r1 .head (.val (.int (chead f ss)))
    have f1 : r1 .is_folding = some (.val (.bool f)) := R.fo
    have s1 : r1 .some_ = some (.val (strsT ss)) := rfl
    have e3 : lc_head r1 d = some (.next, r2, d) := sAsg_ev (xCall_ev (xs_cons (xVar_ev s1) (xs_cons (xVar_ev f1) xs_nil)) (law_head_ev O))
    let r3 : Rho := upd r2 .rests (.val (strsT (ss.map (List.drop (chead f ss)))))
    have s2 : r2 .some_ = some (.val (strsT ss)) := rfl
    have h2 : r2 .head = some (.val (.int (chead f ss))) := rfl
    have e4 : lc_rests r2 d = some (.next, r3, d) := sAsg_ev (rests_ev h2 s2 (by omega) (by have := O.few; omega))
    let r4 : Rho := upd r3 .text (.val (.str (zText f ss z)))
    have t3 : r3 .text = some (.val (.str z.text)) := R.tx
    have s3 : r3 .some_ = some (.val (strsT ss)) := rfl
    have h3 : r3 .head = some (.val (.int (chead f ss))) := rfl
    have e5 : lc_text r3 d = some (.next, r4, d) := sAsg_ev (text_ev O t3 s3 h3 (by omega) (by omega))
    have i4 : r4 .index = some (.val (.int i)) := hix
    have tx4 : r4 .text = some (.val (.str (zText f ss z))) := rfl
    have ow4 : r4 .own_place = some (.val (.int z.own)) := R.ow
    have c4 := bCmp_ev (d := d) (xPeek_ev i4) (xC_ev (t := .int 2)) (eqI _ _)
    have hd2 : decide ((i : Int) = 2) = decide (i = 2) := by
      by_cases h : i = 2
      · rw [decide_eq_true h, decide_eq_true (by omega)]
      · rw [decide_eq_false h, decide_eq_false (by omega)]
    rw [hd2] at c4
    let ow' : Int := if decide (i = 2) then (zText f ss z).length else z.own
    have e6 : ∃ r5, lc_own r4 d = some (.next, r5, d) ∧ r5 .own_place = some (.val (.int ow')) ∧ ∀ y, y ≠ .own_place → r5 y = r4 y := by
      cases q : decide (i = 2) with
      | true =>
        rw [q] at c4
        refine ⟨upd r4 .own_place (.val (.int (zText f ss z).length)), (sIf_t c4).trans ((seqs_next (sAsg_ev (lenS_ev tx4))).trans seqs_nil), ?_, fun y hy => upd_ne _ _ hy⟩
        rw [upd_same]; simp only [ow', q, if_true]
      | false =>
        rw [q] at c4
        refine ⟨r4, (sIf_f c4).trans seqs_nil, ?_, fun y hy => rfl⟩
        rw [ow4]; simp only [ow', q, Bool.false_eq_true, if_false]
    obtain ⟨r5, e6, ow5, k5⟩ := e6
    have re5 : r5 .rests = some (.val (strsT (ss.map (List.drop (chead f ss))))) := k5 _ (by decide)
    have tx5 : r5 .text = some (.val (.str (zText f ss z))) := k5 _ (by decide)
    have pa5 : r5 .parted = some (.val (.int z.parted)) := (k5 _ (by decide)).trans R.pa
    have f5 : r5 .is_folding = some (.val (.bool f)) := (k5 _ (by decide)).trans R.fo
    have i5 : r5 .index = some (.val (.int i)) := (k5 _ (by decide)).trans hix
    have c5 : r5 .rows = some (.val (.list (rows.map rowL))) := (k5 _ (by decide)).trans R.c
    have ca := anyc_ev (d := d) (ss := ss.map (List.drop (chead f ss))) id (fun s hs => xVar_ev (x := .own) (t := .str s) (by simp [inner])) re5 (by have := O.few; simp; omega)
    have e7 : ∃ r6, lc_tail r5 d = some (.next, r6, d) ∧ LcR f rows (zStep f true (decide (i = 2)) (decide (i + 1 = N')) ss z) r6 := by
      cases q : isp f ss with
      | false =>
        have ca' : bCmp .ne (xComp [] (xVar .own) .own (xVar .rests) (bCmp .ne (xPeek .own) (xC (.str [])))) (xList []) r5 d = some (false, d) := ca.trans (by show some (isp f ss, d) = _; rw [q])
        refine ⟨r5, (sIf_f ca').trans seqs_nil, ⟨c5, f5, ?_, ?_, ?_⟩⟩
        · rw [tx5]; unfold zStep; simp only [if_true, q, Bool.false_and, Bool.false_eq_true, if_false]
        · rw [pa5]; unfold zStep; simp only [if_true, q, Bool.false_and, Bool.false_eq_true, if_false]
        · exact ow5
      | true =>
        have ca' : bCmp .ne (xComp [] (xVar .own) .own (xVar .rests) (bCmp .ne (xPeek .own) (xC (.str [])))) (xList []) r5 d = some (true, d) := ca.trans (by show some (isp f ss, d) = _; rw [q])
        let pt' : Int := if z.parted < 0 then (zText f ss z).length else z.parted
        let ra : Rho := upd r5 .parted (.val (.int pt'))
        have cp := bCmp_ev (d := d) (xPeek_ev pa5) (xC_ev (t := .int 0)) (ltI _ _)
        have s1 : sAsg .parted (xIte (bCmp .lt (xPeek .parted) (xC (.int 0))) (x1 tLen (xVar .text)) (xVar .parted)) r5 d = some (.next, ra, d) := by
          refine sAsg_ev ?_
          by_cases hp : z.parted < 0
          · rw [decide_eq_true hp] at cp
            refine ((xIte_t cp).trans (lenS_ev tx5)).trans ?_
            simp only [pt', if_pos hp]
          · rw [decide_eq_false hp] at cp
            refine ((xIte_f cp).trans (xVar_ev pa5)).trans ?_
            simp only [pt', if_neg hp]
        have ca2 : ra .rows = some (.val (.list (rows.map rowL))) := c5
        have ia : ra .index = some (.val (.int i)) := i5
        have rea : ra .rests = some (.val (strsT (ss.map (List.drop (chead f ss))))) := re5
        have fa : ra .is_folding = some (.val (.bool f)) := f5
        have txa : ra .text = some (.val (.str (zText f ss z))) := tx5
        have hrow : (x1 tLen (x2 tIdx (xPeek .rows) (xC (.int 0)))) ra d = some (.int N', d) := by
          have hne := A.ne
          cases rows with
          | nil => exact absurd rfl hne
          | cons ro rows =>
            have hl : tLen (rowL ro) = some (.int N') := by
              show some (T.int ((ro.map T.str).length : Nat)) = _
              rw [List.length_map, A.len ro (by simp)]
            have h0 : tIdx (.list ((ro :: rows).map rowL)) (.int 0) = some (rowL ro) := tIdx_list_ok _ 0 (by omega) (rowL ro) rfl
            exact x1_ev (x2_ev (xPeek_ev ca2) (xC_ev (t := .int 0)) h0) hl
        have cl := bCmp_ev (d := d) (xPeek_ev ia) (x2_ev (op := tSub) (c := .int ((N' : Int) - 1)) hrow (xC_ev (t := .int 1)) rfl) (ltI _ _)
        have hdec : decide ((i : Int) < (N' : Int) - 1) = !decide (i + 1 = N') := by
          by_cases h : i + 1 = N'
          · rw [decide_eq_true h, decide_eq_false (by omega)]; rfl
          · rw [decide_eq_false h, decide_eq_true (by omega)]; rfl
        rw [hdec] at cl
        have hzl : (zText f ss z).length ≤ 5000 := by unfold zText; simp only [List.length_append, List.length_take]; omega
        have h0 : (rest0 f ss).length ≤ 60 := by unfold rest0; simp only [List.length_drop]; omega
        have e8 : ∃ (tn : Nat), (tn = if decide (i + 1 = N') then 0 else tailN f ss) ∧ sAsg .tail (xIte (bCmp .lt (xPeek .index) (x2 tSub (x1 tLen (x2 tIdx (xPeek .rows) (xC (.int 0)))) (xC (.int 1)))) (xCall sp_law_head [(xComp [] (x1 tRev (xVar .own)) .own (xVar .rests) (bAll [])), (xVar .is_folding)]) (xC (.int 0))) ra d = some (.next, upd ra .tail (.val (.int tn)), d) := by
          cases q2 : decide (i + 1 = N') with
          | true =>
            rw [q2] at cl
            exact ⟨0, rfl, sAsg_ev ((xIte_f cl).trans xC_ev)⟩
          | false =>
            rw [q2] at cl
            exact ⟨tailN f ss, rfl, sAsg_ev ((xIte_t cl).trans (xCall_ev (xs_cons (rev_comp rea (by have := O.few; simp; omega)) (xs_cons (xVar_ev fa) xs_nil)) (law_head_ev (O.drop _).rev)))⟩
        obtain ⟨tn, htn, e8⟩ := e8
        let rb : Rho := upd ra .tail (.val (.int tn))
        have reb : rb .rests = some (.val (strsT (ss.map (List.drop (chead f ss))))) := re5
        have txb : rb .text = some (.val (.str (zText f ss z))) := tx5
        have tb : rb .tail = some (.val (.int tn)) := rfl
        have htl : tn ≤ (rest0 f ss).length := by
          rw [htn]; split
          · omega
          · exact tailN_le O
        have hr0 : (x2 tIdx (xPeek .rests) (xC (.int 0))) rb d = some (.str (rest0 f ss), d) := x2_ev (xPeek_ev reb) xC_ev (by rw [head0 (O.drop _).ne, headD_drop O.ne]; rfl)
        have hsb : (x2 tSub (x1 tLen (x2 tIdx (xPeek .rests) (xC (.int 0)))) (xVar .tail)) rb d = some (.int (((rest0 f ss).length - tn : Nat) : Int), d) := by
          refine x2_ev (x1_ev hr0 rfl) (xVar_ev tb) ?_
          show some (T.int (((rest0 f ss).length : Int) - (tn : Int))) = _
          rw [Int.ofNat_sub htl]
        have s3 := sAsg_ev (x := .text) (x2_ev (xVar_ev txb) (xSl_ev hr0 (oInt_ev hsb) oInt_none (tSl_lo _ _ (by omega))) (addS (zText f ss z) _ (by simp only [List.length_append, List.length_drop]; omega)))
        refine ⟨_, (sIf_t ca').trans ((seqs_next s1).trans ((seqs_next e8).trans ((seqs_next s3).trans seqs_nil))), ⟨c5, f5, ?_, ?_, ?_⟩⟩
        · rw [upd_same]
          unfold zStep
          simp only [if_true, q, Bool.true_and]
          rw [htn]
          cases q2 : decide (i + 1 = N') with
          | true => simp
          | false => simp
        · show some (Ent.val (T.int pt')) = _
          unfold zStep
          simp only [if_true, q, Bool.true_and, pt', decide_eq_true_eq]
        · exact ow5
    obtain ⟨r6, e7, R6⟩ := e7
    refine ⟨.next, r6, .inl rfl, ?_, R6⟩
    unfold lcB
    rw [seqs_next e1, seqs_next e2, seqs_next e3, seqs_next e4, seqs_next e5, seqs_next e6, seqs_next e7]; rfl

noncomputable def lcGp (j : Nat) : Bool := decide (j % 2 ≠ 1)
noncomputable def lcPt (j : Nat) : Bool := decide (j = 2)
noncomputable def lcLa (n j : Nat) : Bool := decide (j + 1 = n)
noncomputable def lcZ (f : Bool) (rows : List Row) (n : Nat) : Z := zRun f lcGp lcPt (lcLa n) (col rows) n 0 ⟨[], -1, 0⟩
theorem lc_loop (A : LcOk rows N') : ∀ (n j : Nat) (r : Rho) (z : Z), j + n = N' → LcR f rows z r → z.text.length ≤ 120 * j →
    ∃ r', forGo .index lcB ((List.range' j n).map fun (k : Nat) => T.int ((0 : Int) + (k : Int))) r d = some (.next, r', d) ∧ LcR f rows (zRun f lcGp lcPt (lcLa N') (col rows) n j z) r'
  | 0, j, r, z, hj, R, hz => ⟨r, rfl, R⟩
  | n + 1, j, r, z, hj, R, hz => by
    have hsh := A.short
    let r1 : Rho := upd r .index (.val (.int ((0 : Int) + (j : Int))))
    have R1 : LcR f rows z r1 := ⟨R.c, R.fo, R.tx, R.pa, R.ow⟩
    have i1 : r1 .index = some (.val (.int j)) := by show some (Ent.val (T.int ((0 : Int) + (j : Int)))) = _; simp
    obtain ⟨fl, r2, hfl, e, R2⟩ := lc_turn (d := d) A (i := j) (by omega) R1 i1 (by omega)
    obtain ⟨r3, e3, R3⟩ := lc_loop A n (j + 1) r2 _ (by omega) R2 (by have := zStep_len (f := f) (A.colOk j) (gap := decide (j % 2 ≠ 1)) (point := decide (j = 2)) (last := decide (j + 1 = N')) (z := z); omega)
    refine ⟨r3, ?_, R3⟩
    rw [List.range'_succ, List.map_cons]
    rcases hfl with rfl | rfl
    · exact (forGo_next e).trans e3
    · exact (forGo_cont e).trans e3
theorem law_common_ev (A : LcOk rows N') : sp_law_common [.list (rows.map rowL), .bool f] d = some (.tup [.str (lcZ f rows N').text, .int (zPoint (lcZ f rows N'))], d) := by
  let r0 : Rho := upd (upd (fun _ => none) .is_folding (.val (.bool f))) .rows (.val (.list (rows.map rowL)))
  let r1 : Rho := upd (upd (upd r0 .text (.val (.str []))) .own_place (.val (.int 0))) .parted (.val (.int (-1)))
  have hsh := A.short
  refine fnGo_of (r := r0) rfl ?_
  have e1 : lc_0 r0 d = some (.next, r1, d) := rfl
  obtain ⟨r3, h1, R⟩ := lc_loop (f := f) (d := d) A N' 0 r1 ⟨[], -1, 0⟩ (by omega) ⟨rfl, rfl, rfl, rfl, rfl⟩ (by simp)
  have f1 : fitI (N' : Int) = true := fitI_small (by omega) (by omega)
  have e2 : (x1 tRange1 (x1 tLen (x2 tIdx (xPeek .rows) (xC (.int 0))))) r1 d = some (.rng 0 N', d) := by
    refine x1_ev (a := .int N') ?_ (tRange1_ok _ f1 (by have := szL_eq; omega))
    have ca2 : r1 .rows = some (.val (.list (rows.map rowL))) := rfl
    have hne := A.ne
    cases rows with
    | nil => exact absurd rfl hne
    | cons ro rows =>
      have hl : tLen (rowL ro) = some (.int N') := by
        show some (T.int ((ro.map T.str).length : Nat)) = _
        rw [List.length_map, A.len ro (by simp)]
      have h0 : tIdx (.list ((ro :: rows).map rowL)) (.int 0) = some (rowL ro) := tIdx_list_ok _ 0 (by omega) (rowL ro) rfl
      exact x1_ev (x2_ev (xPeek_ev ca2) (xC_ev (t := .int 0)) h0) hl
  have s3 := sFor_ev (x := .index) (a := lcB) e2 rfl (by have := szL_eq; simp; omega)
  rw [show ((N' : Int) - 0).toNat = N' by omega, List.range_eq_range', h1] at s3
  have R' : LcR f rows (lcZ f rows N') r3 := R
  generalize lcZ f rows N' = z at R'
  rw [f_law_common_eq, seqs_next e1, seqs_next (show lc_1 r1 d = _ from s3)]
  refine ⟨r3, seqs_ret (sRet_ev (xTup_ev (xs_cons (xVar_ev R'.tx) (xs_cons ?_ xs_nil))))⟩
  have c2 := bCmp_ev (d := d) (xPeek_ev R'.pa) (xC_ev (t := .int 0)) (geI _ _)
  unfold zPoint
  by_cases hp : z.parted < 0
  · rw [decide_eq_false (by omega)] at c2
    rw [if_pos hp]
    exact (xIte_f c2).trans (xVar_ev R'.ow)
  · rw [decide_eq_true (by omega)] at c2
    rw [if_neg hp]
    exact (xIte_t c2).trans (xVar_ev R'.pa)
end Mine
end

section
set_option linter.unusedSimpArgs false
set_option linter.unusedVariables false
namespace Mine
variable {r : Rho} {d : Dk} {f : Bool} {pat : List T} {rows : List Row}

theorem compGo_filter' {α : Type} {fv : List N} {x : N} {elt : X} {c : B} {r : Rho} (i o : α → T) (p : α → Bool) : ∀ {l : List α} {d : Dk}, (∀ a ∈ l, c (inner fv x (i a) r) d = some (p a, d) ∧ elt (inner fv x (i a) r) d = some (o a, d)) →
    compGo fv x c elt r (l.map i) d = some ((l.filter p).map o, d)
  | [], d, _ => rfl
  | t :: l, d, h => by
    have ih := compGo_filter' i o p (l := l) fun t' ht => h t' (List.mem_cons_of_mem _ ht)
    obtain ⟨h1, h2⟩ := h t (List.mem_cons_self)
    show compGo fv x c elt r (i t :: l.map i) d = _
    unfold compGo
    rw [h1]
    cases q : p t with
    | true => dsimp only; rw [h2]; dsimp only; rw [ih]; simp [q]
    | false => dsimp only; rw [ih]; simp [q]
theorem none_ev {fv : List N} {x y : N} {elt : X} {c : B} {α : Type} {l : List α} (i o : α → T) (p : α → Bool) (hy : r y = some (.val (.list (l.map i)))) (hl : l.length ≤ 1000) (h : ∀ a ∈ l, c (inner fv x (i a) r) d = some (p a, d) ∧ elt (inner fv x (i a) r) d = some (o a, d)) :
    bCmp .eq (xComp fv elt x (xVar y) c) (xList []) r d = some (!l.any p, d) := by
  refine bCmp_ev (xComp_ev (xVar_ev hy) rfl (by have := szL_eq; simp; omega) (compGo_filter' i o p h)) (xList_ev xs_nil) ?_
  show some (((l.filter p).map o).isEmpty) = some (!l.any p)
  congr 1
  rw [Bool.eq_iff_iff, List.isEmpty_iff, List.map_eq_nil_iff, List.filter_eq_nil_iff, Bool.not_eq_true', List.any_eq_false]
theorem some_ev {fv : List N} {x y : N} {elt : X} {c : B} {α : Type} {l : List α} (i o : α → T) (p : α → Bool) (hy : r y = some (.val (.list (l.map i)))) (hl : l.length ≤ 1000) (h : ∀ a ∈ l, c (inner fv x (i a) r) d = some (p a, d) ∧ elt (inner fv x (i a) r) d = some (o a, d)) :
    bCmp .ne (xComp fv elt x (xVar y) c) (xList []) r d = some (l.any p, d) := by
  refine bCmp_ev (xComp_ev (xVar_ev hy) rfl (by have := szL_eq; simp; omega) (compGo_filter' i o p h)) (xList_ev xs_nil) ?_
  show some (!((l.filter p).map o).isEmpty) = some (l.any p)
  congr 1
  rw [Bool.eq_iff_iff, Bool.not_eq_true', List.any_eq_true]
  constructor
  · intro q
    rw [List.isEmpty_eq_false_iff_exists_mem] at q
    obtain ⟨z, hz⟩ := q
    obtain ⟨a, ha, rfl⟩ := List.mem_map.mp hz
    exact ⟨a, (List.mem_filter.mp ha).1, (List.mem_filter.mp ha).2⟩
  · rintro ⟨a, ha, hp⟩
    rw [List.isEmpty_eq_false_iff_exists_mem]
    exact ⟨_, List.mem_map_of_mem (List.mem_filter.mpr ⟨ha, hp⟩)⟩

/-! the first style that fits -/
noncomputable def fsB : SX := (seqs [(sAsg .pattern (xCall sp_pattern_of [(xVar .style), (xVar .text), (xVar .point)])),
  (sIf (bNot (bIsNone (xVar .pattern))) (seqs [(sAsg .found (xCall sp_fitting [(xVar .pattern), (xVar .candidates), (xVar .is_folding)])),
  (sIf (bCmp .ne (xPeek .found) (xList [])) (seqs [(sRet (xTup [(xVar .pattern), (xVar .found)]))]) (seqs []))]) (seqs []))])
theorem f_first_style_eq : f_first_style = seqs [sFor .style (xVar .styles) fsB, sRet (xTup [(xC .none), (xList [])])] := rfl
theorem fs_hit (A : AllFit f pat rows) {sty : List Nat} {t : List Nat} {k : Nat} (h1 : r .style = some (.val (.str sty))) (h2 : r .text = some (.val (.str t))) (h3 : r .point = some (.val (.int k))) (h4 : r .candidates = some (.val (.list (rows.map rowS)))) (h5 : r .is_folding = some (.val (.bool f)))
    (hp : sp_pattern_of [.str sty, .str t, .int k] d = some (.list pat, d)) : ∃ r', fsB r d = some (.ret (.tup [.list pat, .list (rows.map rowS)]), r', d) := by
  let r1 : Rho := upd r .pattern (.val (.list pat))
  let r2 : Rho := upd r1 .found (.val (.list (rows.map rowS)))
  have e1 : sAsg .pattern (xCall sp_pattern_of [(xVar .style), (xVar .text), (xVar .point)]) r d = some (.next, r1, d) := sAsg_ev (xCall_ev (xs_cons (xVar_ev h1) (xs_cons (xVar_ev h2) (xs_cons (xVar_ev h3) xs_nil))) hp)
  have p1 : r1 .pattern = some (.val (.list pat)) := rfl
  have c1 : r1 .candidates = some (.val (.list (rows.map rowS))) := h4
  have f1 : r1 .is_folding = some (.val (.bool f)) := h5
  have e2 : sAsg .found (xCall sp_fitting [(xVar .pattern), (xVar .candidates), (xVar .is_folding)]) r1 d = some (.next, r2, d) := sAsg_ev (xCall_ev (xs_cons (xVar_ev p1) (xs_cons (xVar_ev c1) (xs_cons (xVar_ev f1) xs_nil))) (fitting_ev A))
  have p2 : r2 .pattern = some (.val (.list pat)) := rfl
  have q2 : r2 .found = some (.val (.list (rows.map rowS))) := rfl
  refine ⟨r2, (seqs_next e1).trans (seqs_ret ((sIf_t (d1 := d) (bNot_ev (bIsNone_ev (xVar_ev p1)))).trans ((seqs_next e2).trans (seqs_ret ((sIf_t (d1 := d) (bCmp_ev (xPeek_ev q2) (xList_ev xs_nil) ?_)).trans (seqs_ret (sRet_ev (xTup_ev (xs_cons (xVar_ev p2) (xs_cons (xVar_ev q2) xs_nil)))))))))) ⟩
  rw [ne_nil]
  have := A.ne
  cases rows with
  | nil => exact absurd rfl this
  | cons a b => rfl
theorem first_one (A : AllFit f pat rows) {sty : List Nat} {t : List Nat} {k : Nat} (hp : sp_pattern_of [.str sty, .str t, .int k] d = some (.list pat, d)) :
    sp_first_style [.list [.str sty], .str t, .int k, .list (rows.map rowS), .bool f] d = some (.tup [.list pat, .list (rows.map rowS)], d) := by
  let r0 : Rho := upd (upd (upd (upd (upd (fun _ => none) .is_folding (.val (.bool f))) .candidates (.val (.list (rows.map rowS)))) .point (.val (.int k))) .text (.val (.str t))) .styles (.val (.list [.str sty]))
  refine fnGo_of (r := r0) rfl ?_
  obtain ⟨r', e⟩ := fs_hit (r := upd r0 .style (.val (.str sty))) A rfl rfl rfl rfl rfl hp
  have s0 : r0 .styles = some (.val (.list [.str sty])) := rfl
  refine ⟨r', ?_⟩
  rw [f_first_style_eq]
  exact seqs_ret ((sFor_ev (xVar_ev s0) rfl (by simp [szL_eq])).trans (forGo_ret e))
theorem first_two (A : AllFit f pat rows) {t : List Nat} {k : Nat} (hp : sp_pattern_of [.str basicS, .str t, .int k] d = some (.list pat, d)) :
    sp_first_style [.list [.str flexS, .str basicS], .str t, .int k, .list (rows.map rowS), .bool f] d = some (.tup [.list pat, .list (rows.map rowS)], d) := by
  let r0 : Rho := upd (upd (upd (upd (upd (fun _ => none) .is_folding (.val (.bool f))) .candidates (.val (.list (rows.map rowS)))) .point (.val (.int k))) .text (.val (.str t))) .styles (.val (.list [.str flexS, .str basicS]))
  refine fnGo_of (r := r0) rfl ?_
  let r1 : Rho := upd r0 .style (.val (.str flexS))
  let r2 : Rho := upd r1 .pattern (.val .none)
  have a1 : r1 .style = some (.val (.str flexS)) := rfl
  have a2 : r1 .text = some (.val (.str t)) := rfl
  have a3 : r1 .point = some (.val (.int k)) := rfl
  have a4 : r2 .pattern = some (.val .none) := rfl
  have e1 : fsB r1 d = some (.next, r2, d) :=
    (seqs_next (sAsg_ev (xCall_ev (xs_cons (xVar_ev a1) (xs_cons (xVar_ev a2) (xs_cons (xVar_ev a3) xs_nil))) pat_flex))).trans ((seqs_next ((sIf_f (d1 := d) (bNot_ev (bIsNone_ev (xVar_ev a4)))).trans seqs_nil)).trans seqs_nil)
  obtain ⟨r', e⟩ := fs_hit (r := upd r2 .style (.val (.str basicS))) A rfl rfl rfl rfl rfl hp
  have s0 : r0 .styles = some (.val (.list [.str flexS, .str basicS])) := rfl
  refine ⟨r', ?_⟩
  rw [f_first_style_eq]
  exact seqs_ret ((sFor_ev (xVar_ev s0) rfl (by simp [szL_eq])).trans ((forGo_next e1).trans (forGo_ret e)))

noncomputable def allAre (rows : List Row) (t : List Nat) : Bool := !rows.any fun ro => decide (ro.flatten ≠ t)
noncomputable def answer (f : Bool) (pat : List T) (rows : List Row) (t : List Nat) : T := if allAre rows t then .bool true else .mrg (.str (mgZ f pat rows).text) (.int (zPoint (mgZ f pat rows)))
theorem neS (a b : List Nat) : tCmp .ne (.str a) (.str b) = some (decide (a ≠ b)) := by
  show some (!decide (a = b)) = _
  simp
theorem completed_ev (A : AllFit f pat rows) (ho : 0 ≤ (mgZ f pat rows).own) {stys : List T} {t : List Nat} {k : Nat} (hf : sp_first_style [.list stys, .str t, .int k, .list (rows.map rowS), .bool f] d = some (.tup [.list pat, .list (rows.map rowS)], d)) :
    sp_completed [.list stys, .str t, .int k, .list (rows.map rowS), .bool f] d = some (answer f pat rows t, d) := by
  let r0 : Rho := upd (upd (upd (upd (upd (fun _ => none) .is_folding (.val (.bool f))) .candidates (.val (.list (rows.map rowS)))) .point (.val (.int k))) .text (.val (.str t))) .styles (.val (.list stys))
  let r1 : Rho := upd (upd r0 .pattern (.val (.list pat))) .found (.val (.list (rows.map rowS)))
  have s0 : r0 .styles = some (.val (.list stys)) := rfl
  have t0 : r0 .text = some (.val (.str t)) := rfl
  have k0 : r0 .point = some (.val (.int k)) := rfl
  have c0 : r0 .candidates = some (.val (.list (rows.map rowS))) := rfl
  have f0 : r0 .is_folding = some (.val (.bool f)) := rfl
  have p1 : r1 .pattern = some (.val (.list pat)) := rfl
  have q1 : r1 .found = some (.val (.list (rows.map rowS))) := rfl
  have t1 : r1 .text = some (.val (.str t)) := rfl
  have f1 : r1 .is_folding = some (.val (.bool f)) := rfl
  refine fnGo_of (r := r0) rfl ⟨r1, ?_⟩
  have e1 : sUnp [.pattern, .found] (xCall sp_first_style [(xVar .styles), (xVar .text), (xVar .point), (xVar .candidates), (xVar .is_folding)]) r0 d = some (.next, r1, d) := by
    unfold sUnp
    rw [xCall_ev (xs_cons (xVar_ev s0) (xs_cons (xVar_ev t0) (xs_cons (xVar_ev k0) (xs_cons (xVar_ev c0) (xs_cons (xVar_ev f0) xs_nil))))) hf]; rfl
  have hfew := A.few
  have c1 : bCmp .eq (xComp [.text] (xC (.int 1)) .own (xVar .found) (bCmp .ne (xPeek .own) (xPeek .text))) (xList []) r1 d = some (allAre rows t, d) :=
    none_ev rowS (fun _ => .int 1) (fun ro => decide (ro.flatten ≠ t)) q1 (by omega) fun ro hro => ⟨bCmp_ev (xPeek_ev (t := rowS ro) (by simp [inner])) (xPeek_ev (t := .str t) (by simp [inner, t1])) (neS _ _), rfl⟩
  unfold f_completed answer
  rw [seqs_next e1, seqs_next ((sIf_f (d1 := d) (bIsNone_ev (xVar_ev p1))).trans seqs_nil)]
  cases q : allAre rows t with
  | true =>
    rw [q] at c1
    exact seqs_ret ((sIf_t c1).trans (seqs_ret (sRet_ev xC_ev)))
  | false =>
    rw [q] at c1
    exact (seqs_next ((sIf_f c1).trans seqs_nil)).trans (seqs_ret (sRet_ev (xCall_ev (xs_cons (xVar_ev p1) (xs_cons (xVar_ev q1) (xs_cons (xVar_ev f1) xs_nil))) (merged_ev A ho))))
end Mine
end

section
set_option linter.unusedSimpArgs false
set_option linter.unusedVariables false
namespace Mine
variable {f : Bool}

theorem slice_mid (u v w : List Nat) : slice (u ++ v ++ w) u.length v.length = v := by
  unfold slice; rw [List.append_assoc, List.drop_left, List.take_left]
theorem fd_app (a b : List Nat) : fd f (a ++ b) = fd f a ++ fd f b := by rw [fd_map, fd_map, fd_map, List.map_append]
theorem fd_foldc {a b : List Nat} (h : fd f a = fd f b) : a.map foldc = b.map foldc := by
  cases f with
  | true => exact h
  | false => have h : a = b := h; rw [h]
/-- a letter that stands in one place alone -/
theorem uniq {q : Nat} {a b c u v w S tx : List Nat} (hS : S = a ++ b ++ c) (ht : tx = u ++ v ++ w) (hb : ∀ x ∈ b, foldc x = q) (hne : b ≠ []) (hv : b.length = v.length) (hu : ∀ x ∈ u, foldc x ≠ q) (hw : ∀ x ∈ w, foldc x ≠ q) {k : Nat} (h : hits f S tx k = true) : k + a.length = u.length := by
  have h1 : fd f (slice tx k S.length) = fd f S := beq_iff_eq.mp h
  have h2 := fd_foldc h1
  have hbl : 0 < b.length := by cases b with | nil => exact absurd rfl hne | cons x y => simp
  -- a position of b is a position of q in tx
  have pos : ∀ i, i < b.length → ∃ x, tx[k + (a.length + i)]? = some x ∧ foldc x = q := fun i hi => by
    have e : (S.map foldc)[a.length + i]? = some q := by
      subst hS
      rw [List.getElem?_map, List.append_assoc, List.getElem?_append_right (by omega), Nat.add_sub_cancel_left, List.getElem?_append_left hi, List.getElem?_eq_getElem hi]
      show some (foldc b[i]) = _
      rw [hb _ (List.getElem_mem hi)]
    rw [← h2, List.getElem?_map] at e
    obtain ⟨x, hx, e⟩ := Option.map_eq_some_iff.mp e
    have hlt : a.length + i < S.length := by subst hS; simp; omega
    unfold slice at hx
    rw [List.getElem?_take_of_lt hlt, List.getElem?_drop] at hx
    exact ⟨x, hx, e⟩
  have inV : ∀ n x, tx[n]? = some x → foldc x = q → u.length ≤ n ∧ n < u.length + v.length := fun n x hx e => by
    subst ht
    rcases Nat.lt_or_ge n u.length with h | h
    · rw [List.append_assoc, List.getElem?_append_left h] at hx
      exact absurd e (hu x (List.mem_of_getElem? hx))
    · refine ⟨h, ?_⟩
      rcases Nat.lt_or_ge n (u.length + v.length) with h' | h'
      · exact h'
      · rw [List.getElem?_append_right (by simp; omega)] at hx
        exact absurd e (hw x (List.mem_of_getElem? hx))
  obtain ⟨x, hx, ex⟩ := pos 0 hbl
  obtain ⟨y, hy, ey⟩ := pos (b.length - 1) (by omega)
  have p1 := inV _ _ hx ex
  have p2 := inV _ _ hy ey
  omega

theorem fits_str {pre s rest S : List Nat} {p : List T} {ss : List (List Nat)} (hS : Ok S) (h : fd f s = fd f S) (k : Fits f (pre ++ s ++ rest) (pre.length + s.length) p ss) : Fits f (pre ++ s ++ rest) pre.length (.str S :: p) (s :: ss) := by
  have hl : s.length = S.length := by have := congrArg List.length h; rwa [fd_len, fd_len] at this
  refine .str hS ?_ (by simp <;> omega) ?_ (by rw [← hl]; exact k)
  · rw [← hl, slice_mid]; exact h
  · rw [← hl, slice_mid]
theorem fits_glast {pre s : List Nat} {g : Int} (hg : g ≠ 1) : Fits f (pre ++ s) pre.length [.int g] [s] :=
  .glast hg (by simp) (by rw [List.drop_left])
theorem fits_gmid {pre s v rest S : List Nat} {g : Int} {p : List T} {ss : List (List Nat)} (hg : g ≠ 1) (hS : Ok S) (hv : fd f v = fd f S) (hu : ∀ k, hits f S (pre ++ s ++ (v ++ rest)) k = true → k = pre.length + s.length)
    (k : Fits f (pre ++ s ++ (v ++ rest)) (pre.length + s.length) (.str S :: p) ss) : Fits f (pre ++ s ++ (v ++ rest)) pre.length (.int g :: .str S :: p) (s :: ss) := by
  have hl : v.length = S.length := by have := congrArg List.length hv; rwa [fd_len, fd_len] at this
  refine .gmid hg hS (by omega) (by simp <;> omega) (fun j h1 h2 => ?_) ?_ k
  · have hit : hits f S (pre ++ s ++ (v ++ rest)) (pre.length + s.length) = true := by
      unfold hits
      rw [← hl, show pre.length + s.length = (pre ++ s).length by simp, ← List.append_assoc (pre ++ s), slice_mid]
      exact beq_iff_eq.mpr hv
    cases q : hits f S (pre ++ s ++ (v ++ rest)) j with
    | true => rw [hu j q, decide_eq_true rfl]
    | false =>
      refine (decide_eq_false ?_).symm
      rintro rfl
      rw [hit] at q; cases q
  · rw [Nat.add_sub_cancel_left, slice_mid]

theorem fits_2 {A c g : List Nat} (hA : Ok A) (h : fd f c = fd f A) : Fits f (c ++ g) 0 [.str A, .int 2] [c, g] := by
  have := fits_str (f := f) (pre := []) (s := c) (rest := g) (p := [.int 2]) (ss := [g]) hA h (by
    have := fits_glast (f := f) (pre := c) (s := g) (g := 2) (by decide)
    simpa using this)
  simpa using this
theorem fits_4 {A B c g v e : List Nat} (hA : Ok A) (hB : Ok B) (h : fd f c = fd f A) (hv : fd f v = fd f B) (hu : ∀ k, hits f B (c ++ g ++ v ++ e) k = true → k = c.length + g.length) : Fits f (c ++ g ++ v ++ e) 0 [.str A, .int 2, .str B, .int 0] [c, g, v, e] := by
  have e1 := fits_glast (f := f) (pre := c ++ g ++ v) (s := e) (g := 0) (by decide)
  have e2 := fits_str (f := f) (pre := c ++ g) (s := v) (rest := e) (p := [.int 0]) (ss := [e]) hB hv (by simpa [Nat.add_assoc] using e1)
  have e3 := fits_gmid (f := f) (pre := c) (s := g) (v := v) (rest := e) (g := 2) (p := [.int 0]) (ss := [v, e]) (by decide) hB hv (by rw [← List.append_assoc]; exact hu) (by rw [← List.append_assoc]; simpa using e2)
  have e4 := fits_str (f := f) (pre := []) (s := c) (rest := g ++ (v ++ e)) (p := [.int 2, .str B, .int 0]) (ss := [g, v, e]) hA h (by simpa using e3)
  simpa using e4
theorem fits_3s {A g0 c g : List Nat} (hA : Ok A) (h : fd f c = fd f A) (hu : ∀ k, hits f A (g0 ++ c ++ g) k = true → k = g0.length) : Fits f (g0 ++ c ++ g) 0 [.int 0, .str A, .int 2] [g0, c, g] := by
  have e1 := fits_glast (f := f) (pre := g0 ++ c) (s := g) (g := 2) (by decide)
  have e2 := fits_str (f := f) (pre := g0) (s := c) (rest := g) (p := [.int 2]) (ss := [g]) hA h (by simpa using e1)
  have e3 := fits_gmid (f := f) (pre := []) (s := g0) (v := c) (rest := g) (g := 0) (p := [.int 2]) (ss := [c, g]) (by decide) hA h (by simpa using hu) (by simpa using e2)
  simpa using e3
theorem fits_5s {A B g0 c g v e : List Nat} (hA : Ok A) (hB : Ok B) (h : fd f c = fd f A) (hv : fd f v = fd f B) (hu : ∀ k, hits f A (g0 ++ c ++ g ++ v ++ e) k = true → k = g0.length) (hu2 : ∀ k, hits f B (g0 ++ c ++ g ++ v ++ e) k = true → k = g0.length + c.length + g.length) :
    Fits f (g0 ++ c ++ g ++ v ++ e) 0 [.int 0, .str A, .int 2, .str B, .int 0] [g0, c, g, v, e] := by
  have e1 := fits_glast (f := f) (pre := g0 ++ c ++ g ++ v) (s := e) (g := 0) (by decide)
  have e2 := fits_str (f := f) (pre := g0 ++ c ++ g) (s := v) (rest := e) (p := [.int 0]) (ss := [e]) hB hv (by simpa [Nat.add_assoc] using e1)
  have e3 := fits_gmid (f := f) (pre := g0 ++ c) (s := g) (v := v) (rest := e) (g := 2) (p := [.int 0]) (ss := [v, e]) (by decide) hB hv (by
    intro k hk; have := hu2 k (by simpa [List.append_assoc] using hk); simp; omega) (by simpa [List.append_assoc, Nat.add_assoc] using e2)
  have e4 := fits_str (f := f) (pre := g0) (s := c) (rest := g ++ (v ++ e)) (p := [.int 2, .str B, .int 0]) (ss := [g, v, e]) hA h (by simpa [List.append_assoc, Nat.add_assoc] using e3)
  have e5 := fits_gmid (f := f) (pre := []) (s := g0) (v := c) (rest := g ++ (v ++ e)) (g := 0) (p := [.int 2, .str B, .int 0]) (ss := [c, g, v, e]) (by decide) hA h (by
    intro k hk; have := hu k (by simpa [List.append_assoc] using hk); simpa using this) (by simpa [List.append_assoc, Nat.add_assoc] using e4)
  simpa [List.append_assoc] using e5
end Mine
end

section
set_option linter.unusedSimpArgs false
set_option linter.unusedVariables false
namespace Mine
variable {f : Bool}

theorem agree_iff {ss : List (List Nat)} {i : Nat} : agree f ss i = true ↔ ∀ t ∈ ss, (t[i]?).map (fc f) = ((ss.headD [])[i]?).map (fc f) := by
  unfold agree; rw [List.all_eq_true]
  exact forall_congr' fun t => forall_congr' fun ht => by rw [decide_eq_true_eq]
theorem chead_pos {ss : List (List Nat)} (h : chead f ss ≠ 0) : 0 < mlen ss ∧ agree f ss 0 = true := by
  have h1 := chead_le (f := f) ss
  exact ⟨by omega, chead_agree (by omega)⟩
theorem chead_ne {ss : List (List Nat)} (h : 0 < mlen ss) (ha : agree f ss 0 = true) : chead f ss ≠ 0 := by
  unfold chead
  cases e : mlen ss with
  | zero => omega
  | succ n =>
    unfold fh
    rw [ha, if_pos rfl]
    have := (fh_spec (agree f ss) n (0 + 1)).1
    omega
theorem mlen_pos {ss : List (List Nat)} (h : 0 < mlen ss) {s : List Nat} (hs : s ∈ ss) : s ≠ [] := by
  rintro rfl
  have := mlen_le hs
  simp at this; omega
theorem mlen_pos' {ss : List (List Nat)} (hne : ss ≠ []) (h : ∀ s ∈ ss, s ≠ []) : 0 < mlen ss := by
  obtain ⟨s, hs, e⟩ := mlen_mem hne
  have := h s hs
  rw [e]
  cases s with
  | nil => exact absurd rfl this
  | cons a b => simp
theorem lt_mlen {ss : List (List Nat)} (hne : ss ≠ []) {n : Nat} (h : ∀ s ∈ ss, n < s.length) : n < mlen ss := by
  obtain ⟨s, hs, e⟩ := mlen_mem hne
  rw [e]; exact h s hs
theorem map_headD {ss : List (List Nat)} (h : ss ≠ []) (φ : List Nat → List Nat) : (ss.map φ).headD [] = φ (ss.headD []) := by
  cases ss with
  | nil => exact absurd rfl h
  | cons s ss => rfl
/-- what stands behind the common head has no common head -/
theorem chead_behind {ss : List (List Nat)} (hne : ss ≠ []) (φ : List Nat → List Nat) (hφ : ∀ s ∈ ss, φ s ≠ [] → (φ s)[0]? = s[chead f ss]?) : chead f (ss.map φ) = 0 := by
  false_or_by_contra
  rename_i h
  obtain ⟨h1, h2⟩ := chead_pos h
  rw [agree_iff] at h2
  have nonE : ∀ s ∈ ss, φ s ≠ [] := fun s hs => mlen_pos h1 (List.mem_map_of_mem hs)
  have hlt : chead f ss < mlen ss := lt_mlen hne fun s hs => by
    have e := hφ s hs (nonE s hs)
    rcases Nat.lt_or_ge (chead f ss) s.length with q | q
    · exact q
    · rw [List.getElem?_eq_none q] at e
      have := nonE s hs
      cases q2 : φ s with
      | nil => exact absurd q2 this
      | cons a b => rw [q2] at e; simp at e
  have := chead_stop hlt
  have h3 : agree f ss (chead f ss) = true := by
    rw [agree_iff]
    intro s hs
    have e := h2 (φ s) (List.mem_map_of_mem hs)
    rw [map_headD hne] at e
    rw [hφ s hs (nonE s hs), hφ _ (headD_mem hne) (nonE _ (headD_mem hne))] at e
    exact e
  rw [h3] at this; cases this
theorem chead_drop {ss : List (List Nat)} (hne : ss ≠ []) : chead f (ss.map (List.drop (chead f ss))) = 0 :=
  chead_behind hne _ fun s hs _ => by rw [List.getElem?_drop]; rfl
theorem fd_take {ss : List (List Nat)} {s : List Nat} (hs : s ∈ ss) : fd f (s.take (chead f ss)) = fd f ((ss.headD []).take (chead f ss)) := by
  rw [fd_map, fd_map]
  apply List.ext_getElem?
  intro j
  rw [List.getElem?_map, List.getElem?_map]
  rcases Nat.lt_or_ge j (chead f ss) with h | h
  · rw [List.getElem?_take_of_lt h, List.getElem?_take_of_lt h]
    exact (agree_iff.mp (chead_agree h)) s hs
  · rw [List.getElem?_eq_none (by simp; omega), List.getElem?_eq_none (by simp; omega)]
theorem le_of_chead {ss : List (List Nat)} {s : List Nat} (hs : s ∈ ss) : chead f ss ≤ s.length := Nat.le_trans (chead_le ss) (mlen_le hs)

/-! head, middle, tail of a gap -/
noncomputable def rst (f : Bool) (ss : List (List Nat)) (s : List Nat) : List Nat := s.drop (chead f ss)
noncomputable def mid (f : Bool) (ss : List (List Nat)) (s : List Nat) : List Nat := (rst f ss s).take ((rst f ss s).length - tailN f ss)
noncomputable def tl (f : Bool) (ss : List (List Nat)) (s : List Nat) : List Nat := (rst f ss s).drop ((rst f ss s).length - tailN f ss)
theorem split3 (ss : List (List Nat)) (s : List Nat) : s.take (chead f ss) ++ (mid f ss s ++ tl f ss s) = s := by
  unfold mid tl; rw [List.take_append_drop]; unfold rst; rw [List.take_append_drop]
theorem tailN_le' {ss : List (List Nat)} {s : List Nat} (hs : s ∈ ss) : tailN f ss ≤ (rst f ss s).length := by
  have : ((rst f ss s)).reverse ∈ (ss.map (List.drop (chead f ss))).map List.reverse := List.mem_map_of_mem (List.mem_map_of_mem hs)
  have := le_of_chead (f := f) this
  rw [List.length_reverse] at this
  exact this
theorem tl_len {ss : List (List Nat)} {s : List Nat} (hs : s ∈ ss) : (tl f ss s).length = tailN f ss := by
  have := tailN_le' (f := f) hs
  unfold tl; rw [List.length_drop]; omega
theorem tl_rev (ss : List (List Nat)) (s : List Nat) (hs : s ∈ ss) : tl f ss s = ((rst f ss s).reverse.take (tailN f ss)).reverse := by
  have := tailN_le' (f := f) hs
  unfold tl
  rw [List.take_reverse, List.reverse_reverse]
theorem fd_tl {ss : List (List Nat)} {s : List Nat} (hne : ss ≠ []) (hs : s ∈ ss) : fd f (tl f ss s) = fd f (tl f ss (ss.headD [])) := by
  rw [tl_rev ss s hs, tl_rev ss _ (headD_mem hne)]
  have : ((rst f ss s)).reverse ∈ (ss.map (List.drop (chead f ss))).map List.reverse := List.mem_map_of_mem (List.mem_map_of_mem hs)
  have h := fd_take (f := f) this
  rw [fd_map, fd_map] at h ⊢
  rw [List.map_reverse, List.map_reverse]
  have e : ((ss.map (List.drop (chead f ss))).map List.reverse).headD [] = (rst f ss (ss.headD [])).reverse := by
    rw [List.map_map, map_headD hne]; rfl
  rw [e] at h
  exact congrArg List.reverse h
theorem mid_head {ss : List (List Nat)} (hne : ss ≠ []) : chead f (ss.map (mid f ss)) = 0 :=
  chead_behind hne _ fun s hs hm => by
    unfold mid at hm ⊢
    have hl : 0 < (rst f ss s).length - tailN f ss := by
      rcases Nat.eq_zero_or_pos ((rst f ss s).length - tailN f ss) with q | q
      · rw [q] at hm; simp at hm
      · exact q
    rw [List.getElem?_take_of_lt hl]
    unfold rst; rw [List.getElem?_drop]; rfl
theorem mid_rev (ss : List (List Nat)) (s : List Nat) : (mid f ss s).reverse = (rst f ss s).reverse.drop (tailN f ss) := by
  unfold mid; rw [List.drop_reverse]
theorem mid_tail {ss : List (List Nat)} (hne : ss ≠ []) : chead f ((ss.map (mid f ss)).map List.reverse) = 0 := by
  have e : (ss.map (mid f ss)).map List.reverse = (((ss.map (List.drop (chead f ss))).map List.reverse)).map (List.drop (tailN f ss)) := by
    rw [List.map_map, List.map_map, List.map_map]
    exact List.map_congr_left fun s _ => mid_rev ss s
  rw [e]
  exact chead_drop (by simpa using hne)
/-- if something is parted, something is in the middle -/
theorem mid_any {ss : List (List Nat)} (hne : ss ≠ []) (h : isp f ss = true) : (ss.map (mid f ss)).any (fun s => decide (s ≠ [])) = true := by
  cases q : (ss.map (mid f ss)).any (fun s => decide (s ≠ [])) with
  | true => rfl
  | false =>
    exfalso
    have allE : ∀ s ∈ ss, mid f ss s = [] := fun s hs => by
      have := List.any_eq_false.mp q (mid f ss s) (List.mem_map_of_mem hs)
      simpa using this
    have len : ∀ s ∈ ss, (rst f ss s).length = tailN f ss := fun s hs => by
      have h1 := tailN_le' (f := f) hs
      have h2 := congrArg List.length (allE s hs)
      unfold mid at h2
      rw [List.length_take, List.length_nil] at h2
      omega
    unfold isp at h
    obtain ⟨x, hx, hn⟩ := List.any_eq_true.mp h
    obtain ⟨s1, hs1, rfl⟩ := List.mem_map.mp hx
    have hn : rst f ss s1 ≠ [] := of_decide_eq_true hn
    have htp : 0 < tailN f ss := by
      rw [← len s1 hs1]
      cases q2 : rst f ss s1 with
      | nil => exact absurd q2 hn
      | cons a b => simp
    have hag := agree_iff.mp (chead_agree (f := f) (ss := (ss.map (List.drop (chead f ss))).map List.reverse) (j := tailN f ss - 1) (by unfold tailN at htp ⊢; omega))
    have hlast : ∀ s ∈ ss, (rst f ss s).reverse[tailN f ss - 1]? = (rst f ss s)[0]? := fun s hs => by
      rw [List.getElem?_reverse (by rw [len s hs]; omega), len s hs]
      congr 1; omega
    refine chead_ne (f := f) (ss := ss.map (List.drop (chead f ss))) ?_ ?_ (chead_drop hne)
    · refine mlen_pos' (by simpa using hne) fun x hx => ?_
      obtain ⟨s, hs, rfl⟩ := List.mem_map.mp hx
      intro e
      have := len s hs
      rw [show rst f ss s = [] from e] at this
      simp at this; omega
    · rw [agree_iff]
      intro x hx
      obtain ⟨s, hs, rfl⟩ := List.mem_map.mp hx
      have e := hag _ (List.mem_map_of_mem (List.mem_map_of_mem hs))
      have e0 : ((ss.map (List.drop (chead f ss))).map List.reverse).headD [] = (rst f ss (ss.headD [])).reverse := by
        rw [List.map_map, map_headD hne]; rfl
      rw [e0, hlast _ (headD_mem hne)] at e
      have e1 : (List.drop (chead f ss) s).reverse[tailN f ss - 1]? = (rst f ss s)[0]? := hlast s hs
      rw [e1] at e
      rw [map_headD hne]
      exact e
theorem isp_false {ss : List (List Nat)} (h : isp f ss = false) {s : List Nat} (hs : s ∈ ss) : rst f ss s = [] := by
  unfold isp at h
  have := List.any_eq_false.mp h (rst f ss s) (List.mem_map_of_mem hs)
  simpa using this
theorem map_drop0 (ss : List (List Nat)) : List.map (List.drop 0) ss = ss := by
  have : (List.drop 0 : List Nat → List Nat) = id := by funext x; rfl
  rw [this, List.map_id]
/-- a list with no common head is parted when something is in it -/
theorem isp_zero {ss : List (List Nat)} (h : chead f ss = 0) : isp f ss = ss.any fun s => decide (s ≠ []) := by
  unfold isp; rw [h]
  have : (List.map (List.drop 0) ss) = ss := map_drop0 ss
  rw [this]
theorem tailN_zero {ss : List (List Nat)} (h : chead f ss = 0) (h2 : chead f (ss.map List.reverse) = 0) : tailN f ss = 0 := by
  unfold tailN; rw [h]
  have : (List.map (List.drop 0) ss) = ss := map_drop0 ss
  rw [this, h2]
end Mine
end

section
set_option linter.unusedSimpArgs false
set_option linter.unusedVariables false
namespace Mine
variable {f : Bool}

noncomputable def zS (f : Bool) (ss : List (List Nat)) (z : Z) : Z := zStep f false false false ss z
theorem mgZ_2 {S : List Nat} {rows : List Row} : mgZ f [.str S, .int 2] rows = zStep f true true true (col rows 1) (zStep f false false false (col rows 0) ⟨[], -1, -1⟩) := rfl
theorem mgZ_4 {S V : List Nat} {rows : List Row} : mgZ f [.str S, .int 2, .str V, .int 0] rows =
    zStep f true false true (col rows 3) (zStep f false false false (col rows 2) (zStep f true true false (col rows 1) (zStep f false false false (col rows 0) ⟨[], -1, -1⟩))) := rfl
theorem zs_str (pt la : Bool) (ss : List (List Nat)) (z : Z) : zStep f false pt la ss z = ⟨z.text ++ ss.headD [], z.parted, z.own⟩ := rfl
/-- a gap that is not the last -/
theorem zs_gap (pt : Bool) (ss : List (List Nat)) (hne : ss ≠ []) (z : Z) : zStep f true pt false ss z =
    ⟨z.text ++ (ss.headD []).take (chead f ss) ++ tl f ss (ss.headD []), if isp f ss && decide (z.parted < 0) then ((z.text ++ (ss.headD []).take (chead f ss)).length : Nat) else z.parted, if pt then ((z.text ++ (ss.headD []).take (chead f ss)).length : Nat) else z.own⟩ := by
  unfold zStep zText
  simp only [if_true, Bool.not_false, Bool.and_true]
  cases q : isp f ss with
  | true => rfl
  | false =>
    have : tl f ss (ss.headD []) = [] := by unfold tl; rw [isp_false q (headD_mem hne)]; simp
    rw [this]; simp
theorem zs_last (pt : Bool) (ss : List (List Nat)) (z : Z) : zStep f true pt true ss z =
    ⟨z.text ++ (ss.headD []).take (chead f ss), if isp f ss && decide (z.parted < 0) then ((z.text ++ (ss.headD []).take (chead f ss)).length : Nat) else z.parted, if pt then ((z.text ++ (ss.headD []).take (chead f ss)).length : Nat) else z.own⟩ := by
  unfold zStep zText
  simp only [if_true, Bool.not_true, Bool.and_false, Bool.false_eq_true, if_false]

/-! a text and a gap -/
noncomputable abbrev PP := List Nat × List Nat
noncomputable def rowP (p : PP) : Row := [p.1, p.2]
noncomputable def p0 (ps : List PP) : PP := ps.headD ([], [])
theorem p0_mem {ps : List PP} (h : ps ≠ []) : p0 ps ∈ ps := by
  cases ps with
  | nil => exact absurd rfl h
  | cons a b => simp [p0]
theorem headD_map {α β : Type} {l : List α} (h : l ≠ []) (φ : α → β) (a : α) (b : β) : (l.map φ).headD b = φ (l.headD a) := by
  cases l with
  | nil => exact absurd rfl h
  | cons x y => rfl
noncomputable def nextP (f : Bool) (ps : List PP) (p : PP) : PP := (p.1 ++ p.2.take (chead f (ps.map Prod.snd)), p.2.drop (chead f (ps.map Prod.snd)))
structure PsOk (f : Bool) (ps : List PP) : Prop where
  ne : ps ≠ []
  few : ps.length ≤ 50
  ok : ∀ p ∈ ps, Ok (p.1 ++ p.2) ∧ (p.1 ++ p.2).length ≤ 60
  same : ∀ p ∈ ps, fd f p.1 = fd f (p0 ps).1
theorem mgZ_P {ps : List PP} (h : PsOk f ps) {S : List Nat} : (mgZ f [.str S, .int 2] (ps.map rowP)).text = (nextP f ps (p0 ps)).1 ∧ zPoint (mgZ f [.str S, .int 2] (ps.map rowP)) = ((nextP f ps (p0 ps)).1.length : Nat) ∧ 0 ≤ (mgZ f [.str S, .int 2] (ps.map rowP)).own := by
  have c0 : col (ps.map rowP) 0 = ps.map Prod.fst := by unfold col; rw [List.map_map]; rfl
  have c1 : col (ps.map rowP) 1 = ps.map Prod.snd := by unfold col; rw [List.map_map]; rfl
  rw [mgZ_2, c0, c1, zs_str, zs_last]
  have e0 : (ps.map Prod.fst).headD [] = (p0 ps).1 := headD_map h.ne _ _ _
  have e1 : (ps.map Prod.snd).headD [] = (p0 ps).2 := headD_map h.ne _ _ _
  dsimp only
  rw [e0, e1]
  refine ⟨rfl, ?_, ?_⟩
  · unfold zPoint nextP
    dsimp only
    cases isp f (ps.map Prod.snd) with
    | true => rw [show decide ((-1 : Int) < 0) = true from rfl]; simp only [List.nil_append, Bool.true_and, if_true]; split <;> rfl
    | false => simp only [List.nil_append, Bool.false_and, Bool.false_eq_true, if_false]; rw [if_pos (by decide)]; rfl
  · simp only [if_true]; omega
theorem fit_P {ps : List PP} (h : PsOk f ps) {S : List Nat} (hS : Ok S) (hs : fd f (p0 ps).1 = fd f S) : AllFit f [.str S, .int 2] (ps.map rowP) where
  fit := fun ro hro => by
    obtain ⟨p, hp, rfl⟩ := List.mem_map.mp hro
    have := fits_2 (f := f) (A := S) (c := p.1) (g := p.2) hS ((h.same p hp).trans hs)
    simpa [rowP] using this
  ok := fun ro hro => by
    obtain ⟨p, hp, rfl⟩ := List.mem_map.mp hro
    simpa [rowP] using (h.ok p hp).1
  sh := fun ro hro => by
    obtain ⟨p, hp, rfl⟩ := List.mem_map.mp hro
    simpa [rowP] using (h.ok p hp).2
  ne := by have := h.ne; simpa using this
  few := by have := h.few; simpa using this
  short := by simp
theorem nextP_flat (ps : List PP) (p : PP) : (nextP f ps p).1 ++ (nextP f ps p).2 = p.1 ++ p.2 := by
  unfold nextP; rw [List.append_assoc, List.take_append_drop]
theorem p0_map {ps : List PP} (h : ps ≠ []) (φ : PP → PP) : p0 (ps.map φ) = φ (p0 ps) := headD_map h _ _ _
theorem PsOk.next {ps : List PP} (h : PsOk f ps) : PsOk f (ps.map (nextP f ps)) where
  ne := by have := h.ne; simpa using this
  few := by have := h.few; simpa using this
  ok := fun q hq => by
    obtain ⟨p, hp, rfl⟩ := List.mem_map.mp hq
    rw [nextP_flat]; exact h.ok p hp
  same := fun q hq => by
    obtain ⟨p, hp, rfl⟩ := List.mem_map.mp hq
    rw [p0_map h.ne]
    unfold nextP
    dsimp only
    rw [fd_app, fd_app, h.same p hp]
    have e1 : (ps.map Prod.snd).headD [] = (p0 ps).2 := headD_map h.ne _ _ _
    rw [fd_take (List.mem_map_of_mem hp), e1]
/-- the second answer is the first -/
theorem lvl2 {ps : List PP} (h : PsOk f ps) {T : List Nat} (hT : T = (nextP f ps (p0 ps)).1) (hok : Ok T) :
    AllFit f [.str T, .int 2] ((ps.map (nextP f ps)).map rowP) ∧ (mgZ f [.str T, .int 2] ((ps.map (nextP f ps)).map rowP)).text = T ∧ zPoint (mgZ f [.str T, .int 2] ((ps.map (nextP f ps)).map rowP)) = (T.length : Nat) ∧
      0 ≤ (mgZ f [.str T, .int 2] ((ps.map (nextP f ps)).map rowP)).own := by
  have h2 := h.next
  obtain ⟨m1, m2, m3⟩ := mgZ_P h2 (S := T)
  have hz : (nextP f (ps.map (nextP f ps)) (p0 (ps.map (nextP f ps)))).1 = T := by
    rw [p0_map h.ne]
    unfold nextP
    dsimp only
    have e : (ps.map fun p => (p.1 ++ p.2.take (chead f (ps.map Prod.snd)), p.2.drop (chead f (ps.map Prod.snd)))).map Prod.snd = (ps.map Prod.snd).map (List.drop (chead f (ps.map Prod.snd))) := by rw [List.map_map, List.map_map]; rfl
    have e' : (ps.map (nextP f ps)).map Prod.snd = (ps.map Prod.snd).map (List.drop (chead f (ps.map Prod.snd))) := e
    have z0 : chead f ((ps.map Prod.snd).map (List.drop (chead f (ps.map Prod.snd)))) = 0 := chead_drop (by have := h.ne; simpa using this)
    show ((p0 ps).1 ++ (p0 ps).2.take (chead f (ps.map Prod.snd))) ++ ((p0 ps).2.drop (chead f (ps.map Prod.snd))).take (chead f ((ps.map (nextP f ps)).map Prod.snd)) = T
    rw [e', z0, List.take_zero, List.append_nil]
    exact hT.symm
  rw [hz] at m1 m2
  refine ⟨fit_P h2 hok ?_, m1, m2, m3⟩
  rw [p0_map h.ne, hT]

/-! two texts and two gaps -/
structure Q where
  c : List Nat
  g : List Nat
  v : List Nat
  e : List Nat
noncomputable def rowQ (q : Q) : Row := [q.c, q.g, q.v, q.e]
noncomputable def q0 (qs : List Q) : Q := qs.headD ⟨[], [], [], []⟩
noncomputable def flatQ (q : Q) : List Nat := q.c ++ q.g ++ q.v ++ q.e
structure QsOk (f : Bool) (qs : List Q) : Prop where
  ne : qs ≠ []
  few : qs.length ≤ 50
  ok : ∀ q ∈ qs, Ok (flatQ q) ∧ (flatQ q).length ≤ 60
  same : ∀ q ∈ qs, fd f q.c = fd f (q0 qs).c
  sameV : ∀ q ∈ qs, fd f q.v = fd f (q0 qs).v
  nc : ∀ q ∈ qs, ∀ x ∈ q.c, foldc x ≠ 112
  ng : ∀ q ∈ qs, ∀ x ∈ q.g, foldc x ≠ 112
  yv : ∀ q ∈ qs, ∀ x ∈ q.v, foldc x = 112
  ne' : ∀ q ∈ qs, ∀ x ∈ q.e, foldc x ≠ 112
  vne : (q0 qs).v ≠ []
variable {qs : List Q}
theorem q0_mem (h : qs ≠ []) : q0 qs ∈ qs := by
  cases qs with
  | nil => exact absurd rfl h
  | cons a b => simp [q0]
noncomputable def Gs (qs : List Q) : List (List Nat) := qs.map Q.g
noncomputable def Es (qs : List Q) : List (List Nat) := qs.map Q.e
theorem Gs_ne (h : QsOk f qs) : Gs qs ≠ [] := by have := h.ne; simpa [Gs] using this
theorem Es_ne (h : QsOk f qs) : Es qs ≠ [] := by have := h.ne; simpa [Es] using this
/-- the text before the point, the text behind it -/
noncomputable def T1 (f : Bool) (qs : List Q) : List Nat := (q0 qs).c ++ (q0 qs).g.take (chead f (Gs qs))
noncomputable def T2 (f : Bool) (qs : List Q) : List Nat := tl f (Gs qs) (q0 qs).g ++ (q0 qs).v ++ (q0 qs).e.take (chead f (Es qs))
theorem mgZ_Q (hne : qs ≠ []) {S V : List Nat} : mgZ f [.str S, .int 2, .str V, .int 0] (qs.map rowQ) = ⟨T1 f qs ++ T2 f qs,
    if isp f (Es qs) && decide ((if isp f (Gs qs) then ((T1 f qs).length : Int) else -1) < 0) then ((T1 f qs ++ T2 f qs).length : Nat) else (if isp f (Gs qs) then ((T1 f qs).length : Int) else -1), ((T1 f qs).length : Nat)⟩ := by
  have c0 : col (qs.map rowQ) 0 = qs.map Q.c := by unfold col; rw [List.map_map]; rfl
  have c1 : col (qs.map rowQ) 1 = Gs qs := by unfold col; rw [List.map_map]; rfl
  have c2 : col (qs.map rowQ) 2 = qs.map Q.v := by unfold col; rw [List.map_map]; rfl
  have c3 : col (qs.map rowQ) 3 = Es qs := by unfold col; rw [List.map_map]; rfl
  rw [mgZ_4, c0, c1, c2, c3, zs_last, zs_str, zs_gap _ _ (by simpa [Gs] using hne), zs_str]
  have e0 : (qs.map Q.c).headD [] = (q0 qs).c := headD_map hne _ _ _
  have e1 : (Gs qs).headD [] = (q0 qs).g := headD_map hne _ _ _
  have e2 : (qs.map Q.v).headD [] = (q0 qs).v := headD_map hne _ _ _
  have e3 : (Es qs).headD [] = (q0 qs).e := headD_map hne _ _ _
  dsimp only
  rw [e0, e1, e2, e3]
  unfold T1 T2
  simp only [List.nil_append, List.append_assoc, if_true, Bool.and_true, Bool.false_eq_true, if_false, show decide ((-1 : Int) < 0) = true from rfl]
theorem fit_Q (h : QsOk f qs) {S V : List Nat} (hS : Ok S) (hV : Ok V) (hs : fd f (q0 qs).c = fd f S) (hv : fd f (q0 qs).v = fd f V) : AllFit f [.str S, .int 2, .str V, .int 0] (qs.map rowQ) where
  fit := fun ro hro => by
    obtain ⟨q, hq, rfl⟩ := List.mem_map.mp hro
    have hvq := (h.sameV q hq).trans hv
    have hV112 : ∀ x ∈ V, foldc x = 112 := fun x hx => by
      have e := fd_foldc hvq
      have : foldc x ∈ V.map foldc := List.mem_map_of_mem hx
      rw [← e] at this
      obtain ⟨y, hy, ey⟩ := List.mem_map.mp this
      rw [← ey]; exact h.yv q hq y hy
    have hl : V.length = q.v.length := by have := congrArg List.length hvq; rw [fd_len, fd_len] at this; exact this.symm
    have hVne : V ≠ [] := by
      intro e; subst e
      have := congrArg List.length hv
      rw [fd_len, fd_len] at this
      exact h.vne (List.eq_nil_of_length_eq_zero this)
    have := fits_4 (f := f) (A := S) (B := V) (c := q.c) (g := q.g) (v := q.v) (e := q.e) hS hV ((h.same q hq).trans hs) hvq (fun k hk => by
      have := uniq (f := f) (q := 112) (a := []) (b := V) (c := []) (u := q.c ++ q.g) (v := q.v) (w := q.e) (S := V) (tx := q.c ++ q.g ++ q.v ++ q.e) (by simp) rfl hV112 hVne hl (fun x hx => by
        rcases List.mem_append.mp hx with hx | hx
        · exact h.nc q hq x hx
        · exact h.ng q hq x hx) (h.ne' q hq) hk
      simpa using this)
    simpa [rowQ] using this
  ok := fun ro hro => by
    obtain ⟨q, hq, rfl⟩ := List.mem_map.mp hro
    simpa [rowQ, flatQ] using (h.ok q hq).1
  sh := fun ro hro => by
    obtain ⟨q, hq, rfl⟩ := List.mem_map.mp hro
    have := (h.ok q hq).2
    simp only [flatQ, List.append_assoc] at this
    simpa [rowQ] using this
  ne := by have := h.ne; simpa using this
  few := by have := h.few; simpa using this
  short := by simp
end Mine
end

section
set_option linter.unusedSimpArgs false
set_option linter.unusedVariables false
namespace Mine
variable {f : Bool} {qs : List Q}

noncomputable def nextQ (f : Bool) (qs : List Q) (q : Q) : Q := ⟨q.c ++ q.g.take (chead f (Gs qs)), mid f (Gs qs) q.g, tl f (Gs qs) q.g ++ q.v ++ q.e.take (chead f (Es qs)), q.e.drop (chead f (Es qs))⟩
theorem nextQ_flat (qs : List Q) (q : Q) : flatQ (nextQ f qs q) = flatQ q := by
  have e1 := split3 (f := f) (Gs qs) q.g
  have e2 := List.take_append_drop (chead f (Es qs)) q.e
  unfold flatQ nextQ
  dsimp only
  calc q.c ++ q.g.take (chead f (Gs qs)) ++ mid f (Gs qs) q.g ++ (tl f (Gs qs) q.g ++ q.v ++ q.e.take (chead f (Es qs))) ++ q.e.drop (chead f (Es qs))
      = q.c ++ (q.g.take (chead f (Gs qs)) ++ (mid f (Gs qs) q.g ++ tl f (Gs qs) q.g)) ++ q.v ++ (q.e.take (chead f (Es qs)) ++ q.e.drop (chead f (Es qs))) := by simp only [List.append_assoc]
    _ = q.c ++ q.g ++ q.v ++ q.e := by rw [e1, e2]
theorem q0_map {α : Type} (h : qs ≠ []) (φ : Q → Q) : q0 (qs.map φ) = φ (q0 qs) := headD_map h _ _ _
theorem G0 (h : qs ≠ []) : (Gs qs).headD [] = (q0 qs).g := headD_map h _ _ _
theorem E0 (h : qs ≠ []) : (Es qs).headD [] = (q0 qs).e := headD_map h _ _ _
theorem gm {q : Q} (hq : q ∈ qs) : q.g ∈ Gs qs := List.mem_map_of_mem hq
theorem em {q : Q} (hq : q ∈ qs) : q.e ∈ Es qs := List.mem_map_of_mem hq
theorem T_sub (h : QsOk f qs) : (∀ x ∈ T1 f qs ++ T2 f qs, x ∈ flatQ (q0 qs)) ∧ (T1 f qs ++ T2 f qs).length ≤ (flatQ (q0 qs)).length := by
  have e1 := split3 (f := f) (Gs qs) (q0 qs).g
  have e2 := List.take_append_drop (chead f (Es qs)) (q0 qs).e
  have hfl : flatQ (q0 qs) = (q0 qs).c ++ ((q0 qs).g.take (chead f (Gs qs)) ++ (mid f (Gs qs) (q0 qs).g ++ tl f (Gs qs) (q0 qs).g)) ++ (q0 qs).v ++ ((q0 qs).e.take (chead f (Es qs)) ++ (q0 qs).e.drop (chead f (Es qs))) := by rw [e1, e2]; rfl
  rw [hfl]
  unfold T1 T2
  constructor
  · intro x hx
    simp only [List.mem_append] at hx ⊢
    rcases hx with (h | h) | (h | h) | h <;> simp [h]
  · simp only [List.length_append]; omega
theorem T_ok (h : QsOk f qs) : Ok (T1 f qs ++ T2 f qs) := by
  obtain ⟨h1, h2⟩ := T_sub (f := f) h
  have := h.ok _ (q0_mem h.ne)
  exact ⟨fun x hx => this.1.asc x (h1 x hx), by omega⟩
theorem fit_next (h : QsOk f qs) : AllFit f [.str (T1 f qs), .int 2, .str (T2 f qs), .int 0] ((qs.map (nextQ f qs)).map rowQ) where
  fit := fun ro hro => by
    rw [List.map_map] at hro
    obtain ⟨q, hq, rfl⟩ := List.mem_map.mp hro
    have hT := T_ok (f := f) h
    have ok1 : Ok (T1 f qs) := ⟨fun x hx => hT.asc x (List.mem_append.mpr (.inl hx)), by have := hT.len; rw [List.length_append] at this; omega⟩
    have ok2 : Ok (T2 f qs) := ⟨fun x hx => hT.asc x (List.mem_append.mpr (.inr hx)), by have := hT.len; rw [List.length_append] at this; omega⟩
    have f1 : fd f (nextQ f qs q).c = fd f (T1 f qs) := by
      unfold nextQ T1
      dsimp only
      rw [fd_app, fd_app, h.same q hq, fd_take (gm hq), G0 h.ne]
    have f2 : fd f (nextQ f qs q).v = fd f (T2 f qs) := by
      unfold nextQ T2
      dsimp only
      rw [fd_app, fd_app, fd_app, fd_app, h.sameV q hq, fd_take (em hq), E0 h.ne, fd_tl (Gs_ne h) (gm hq), G0 h.ne]
    have hfl : (nextQ f qs q).c ++ (nextQ f qs q).g ++ (nextQ f qs q).v ++ (nextQ f qs q).e = (q.c ++ q.g) ++ q.v ++ q.e := nextQ_flat qs q
    have := fits_4 (f := f) (A := T1 f qs) (B := T2 f qs) ok1 ok2 f1 f2 (g := (nextQ f qs q).g) (e := (nextQ f qs q).e) (fun k hk => by
      rw [hfl] at hk
      have hl : (q0 qs).v.length = q.v.length := by have := congrArg List.length (h.sameV q hq); rw [fd_len, fd_len] at this; exact this.symm
      have u := uniq (f := f) (q := 112) (a := tl f (Gs qs) (q0 qs).g) (b := (q0 qs).v) (c := (q0 qs).e.take (chead f (Es qs))) (u := q.c ++ q.g) (v := q.v) (w := q.e) (S := T2 f qs) rfl rfl (h.yv _ (q0_mem h.ne)) h.vne hl (fun x hx => by
        rcases List.mem_append.mp hx with hx | hx
        · exact h.nc q hq x hx
        · exact h.ng q hq x hx) (h.ne' q hq) hk
      rw [tl_len (gm (q0_mem h.ne))] at u
      have s := congrArg List.length (split3 (f := f) (Gs qs) q.g)
      have t := tl_len (f := f) (gm hq)
      unfold nextQ
      dsimp only
      simp only [List.length_append] at s u ⊢
      omega)
    simpa [rowQ] using this
  ok := fun ro hro => by
    rw [List.map_map] at hro
    obtain ⟨q, hq, rfl⟩ := List.mem_map.mp hro
    have e : (rowQ (nextQ f qs q)).flatten = flatQ q := by rw [← nextQ_flat (f := f) qs q]; simp [rowQ, flatQ]
    show Ok (rowQ (nextQ f qs q)).flatten
    rw [e]; exact (h.ok q hq).1
  sh := fun ro hro => by
    rw [List.map_map] at hro
    obtain ⟨q, hq, rfl⟩ := List.mem_map.mp hro
    have e : (rowQ (nextQ f qs q)).flatten = flatQ q := by rw [← nextQ_flat (f := f) qs q]; simp [rowQ, flatQ]
    show (rowQ (nextQ f qs q)).flatten.length ≤ 60
    rw [e]; exact (h.ok q hq).2
  ne := by have := h.ne; simpa using this
  few := by have := h.few; simpa using this
  short := by simp
theorem Gs_next (qs : List Q) : Gs (qs.map (nextQ f qs)) = (Gs qs).map (mid f (Gs qs)) := by unfold Gs; rw [List.map_map, List.map_map]; rfl
theorem Es_next (qs : List Q) : Es (qs.map (nextQ f qs)) = (Es qs).map (List.drop (chead f (Es qs))) := by unfold Es; rw [List.map_map, List.map_map]; rfl
theorem T1_next (h : QsOk f qs) : T1 f (qs.map (nextQ f qs)) = T1 f qs := by
  show (q0 (qs.map (nextQ f qs))).c ++ (q0 (qs.map (nextQ f qs))).g.take (chead f (Gs (qs.map (nextQ f qs)))) = _
  rw [Gs_next, mid_head (Gs_ne h), List.take_zero, List.append_nil, q0_map (α := Unit) h.ne]; rfl
theorem T2_next (h : QsOk f qs) : T2 f (qs.map (nextQ f qs)) = T2 f qs := by
  show tl f (Gs (qs.map (nextQ f qs))) (q0 (qs.map (nextQ f qs))).g ++ (q0 (qs.map (nextQ f qs))).v ++ (q0 (qs.map (nextQ f qs))).e.take (chead f (Es (qs.map (nextQ f qs)))) = _
  have z : ∀ s, tl f (Gs (qs.map (nextQ f qs))) s = [] := fun s => by
    unfold tl
    rw [Gs_next, tailN_zero (mid_head (Gs_ne h)) (mid_tail (Gs_ne h))]
    simp
  rw [z, Es_next, chead_drop (Es_ne h), List.take_zero, List.append_nil, List.nil_append, q0_map (α := Unit) h.ne]; rfl
theorem isp_next (h : QsOk f qs) : isp f (Es (qs.map (nextQ f qs))) = isp f (Es qs) := by
  rw [Es_next, isp_zero (chead_drop (Es_ne h))]; rfl
theorem T1_pos (h : QsOk f qs) (hc : (q0 qs).c ≠ []) : 0 < (T1 f qs).length := by
  unfold T1; rw [List.length_append]
  cases e : (q0 qs).c with
  | nil => exact absurd e hc
  | cons a b => simp; omega
theorem T2_pos (h : QsOk f qs) : 0 < (T2 f qs).length := by
  have := h.vne
  unfold T2; rw [List.length_append, List.length_append]
  cases e : (q0 qs).v with
  | nil => exact absurd e this
  | cons a b => simp only [List.length_cons]; omega

/-- the later answer is the first -/
structure Later (f : Bool) (z : Z) (rows : List Row) : Prop where
  ex : ∃ (P : Nat) (rows2 : List Row), zPoint z = P ∧ 0 < P ∧ P ≤ z.text.length ∧ rows2.map rowS = rows.map rowS ∧ AllFit f (basicP z.text P) rows2 ∧ (mgZ f (basicP z.text P) rows2).text = z.text ∧ zPoint (mgZ f (basicP z.text P) rows2) = P ∧ 0 ≤ (mgZ f (basicP z.text P) rows2).own
  ok : Ok z.text
theorem basicP_cut (a b : List Nat) (hb : 0 < b.length) : basicP (a ++ b) a.length = [.str a, .int 2, .str b, .int 0] := by
  unfold basicP
  rw [if_pos (by simp; omega), List.take_left, List.drop_left]
theorem basicP_all (a : List Nat) : basicP a a.length = [.str a, .int 2] := by
  unfold basicP; rw [if_neg (by omega)]
theorem rowS_next (qs : List Q) : ((qs.map (nextQ f qs)).map rowQ).map rowS = (qs.map rowQ).map rowS := by
  rw [List.map_map, List.map_map, List.map_map]
  refine List.map_congr_left fun q _ => ?_
  have e : (rowQ (nextQ f qs q)).flatten = (rowQ q).flatten := by
    have := nextQ_flat (f := f) qs q
    unfold flatQ at this
    simpa [rowQ] using this
  show T.str (rowQ (nextQ f qs q)).flatten = T.str (rowQ q).flatten
  rw [e]
theorem later_Q (h : QsOk f qs) (hc : (q0 qs).c ≠ []) {S V : List Nat} : Later f (mgZ f [.str S, .int 2, .str V, .int 0] (qs.map rowQ)) (qs.map rowQ) := by
  rw [mgZ_Q h.ne]
  have p1 := T1_pos (f := f) h hc
  have p2 := T2_pos (f := f) h
  refine ⟨?_, T_ok h⟩
  by_cases hα : isp f (Gs qs) = true ∨ isp f (Es qs) = false
  · have hne2 : qs.map (nextQ f qs) ≠ [] := by have := h.ne; simpa using this
    have key : zPoint ⟨T1 f qs ++ T2 f qs, if isp f (Es qs) && decide ((if isp f (Gs qs) then ((T1 f qs).length : Int) else -1) < 0) then ((T1 f qs ++ T2 f qs).length : Nat) else (if isp f (Gs qs) then ((T1 f qs).length : Int) else -1), ((T1 f qs).length : Nat)⟩ = ((T1 f qs).length : Nat) := by
      unfold zPoint
      dsimp only
      cases e1 : isp f (Gs qs) with
      | true =>
        simp only [if_true]
        rw [decide_eq_false (by omega), Bool.and_false]
        simp only [Bool.false_eq_true, if_false]
        rw [if_neg (by omega)]
      | false =>
        have e2 : isp f (Es qs) = false := by
          rcases hα with q | q
          · rw [e1] at q; cases q
          · exact q
        rw [e2]
        simp
    refine ⟨(T1 f qs).length, (qs.map (nextQ f qs)).map rowQ, key, p1, by simp, rowS_next qs, ?_, ?_, ?_, ?_⟩
    · dsimp only; rw [basicP_cut _ _ p2]; exact fit_next h
    · dsimp only; rw [basicP_cut _ _ p2, mgZ_Q hne2]; dsimp only; rw [T1_next h, T2_next h]
    · dsimp only
      rw [basicP_cut _ _ p2, mgZ_Q hne2, T1_next h, T2_next h, isp_next h]
      unfold zPoint
      dsimp only
      cases e1 : isp f (Gs (qs.map (nextQ f qs))) with
      | true =>
        simp only [if_true]
        rw [decide_eq_false (by omega), Bool.and_false]
        simp only [Bool.false_eq_true, if_false]
        rw [if_neg (by omega)]
      | false =>
        have e2 : isp f (Gs qs) = false := by
          cases q : isp f (Gs qs) with
          | false => rfl
          | true =>
            have := mid_any (Gs_ne h) q
            rw [Gs_next, isp_zero (mid_head (Gs_ne h)), this] at e1
            cases e1
        have e3 : isp f (Es qs) = false := by
          rcases hα with q | q
          · rw [e2] at q; cases q
          · exact q
        rw [e3]
        simp
    · dsimp only
      rw [basicP_cut _ _ p2, mgZ_Q hne2]
      dsimp only; omega
  · have hG : isp f (Gs qs) = false := by
      cases q : isp f (Gs qs) with
      | false => rfl
      | true => exact absurd (.inl q) hα
    have hE : isp f (Es qs) = true := by
      cases q : isp f (Es qs) with
      | true => rfl
      | false => exact absurd (.inr q) hα
    have rg : ∀ q ∈ qs, q.g.take (chead f (Gs qs)) = q.g := fun q hq => by
      have := isp_false hG (gm hq)
      unfold rst at this
      have e := List.take_append_drop (chead f (Gs qs)) q.g
      rw [this, List.append_nil] at e
      exact e
    let ps : List PP := qs.map fun q => (q.c ++ q.g ++ q.v, q.e)
    have hps : PsOk f ps := by
      refine ⟨by have := h.ne; simpa [ps] using this, by have := h.few; simpa [ps] using this, fun p hp => ?_, fun p hp => ?_⟩
      · obtain ⟨q, hq, rfl⟩ := List.mem_map.mp hp
        exact h.ok q hq
      · obtain ⟨q, hq, rfl⟩ := List.mem_map.mp hp
        have e0 : p0 ps = ((q0 qs).c ++ (q0 qs).g ++ (q0 qs).v, (q0 qs).e) := headD_map h.ne _ _ _
        rw [e0]
        dsimp only
        have e1 : fd f q.g = fd f (q0 qs).g := by
          have := fd_take (f := f) (gm hq)
          rw [G0 h.ne, rg q hq, rg _ (q0_mem h.ne)] at this
          exact this
        rw [fd_app, fd_app, fd_app, fd_app, h.same q hq, h.sameV q hq, e1]
    have eE : ps.map Prod.snd = Es qs := by unfold Es; rw [List.map_map]; rfl
    have hT : T1 f qs ++ T2 f qs = (nextP f ps (p0 ps)).1 := by
      have e0 : p0 ps = ((q0 qs).c ++ (q0 qs).g ++ (q0 qs).v, (q0 qs).e) := headD_map h.ne _ _ _
      unfold nextP T1 T2
      rw [eE, e0]
      dsimp only
      have : tl f (Gs qs) (q0 qs).g = [] := by unfold tl; rw [isp_false hG (gm (q0_mem h.ne))]; simp
      rw [this, rg _ (q0_mem h.ne)]
      simp only [List.nil_append, List.append_assoc]
    obtain ⟨m1, m2, m3, m4⟩ := lvl2 hps hT (T_ok h)
    have key : zPoint ⟨T1 f qs ++ T2 f qs, if isp f (Es qs) && decide ((if isp f (Gs qs) then ((T1 f qs).length : Int) else -1) < 0) then ((T1 f qs ++ T2 f qs).length : Nat) else (if isp f (Gs qs) then ((T1 f qs).length : Int) else -1), ((T1 f qs).length : Nat)⟩ = ((T1 f qs ++ T2 f qs).length : Nat) := by
      unfold zPoint
      rw [hG, hE]
      simp only [Bool.false_eq_true, if_false, Bool.true_and, show decide ((-1 : Int) < 0) = true from rfl, if_true]
      rw [if_neg (by omega)]
    refine ⟨(T1 f qs ++ T2 f qs).length, (ps.map (nextP f ps)).map rowP, key, by rw [List.length_append]; omega, Nat.le_refl _, ?_, ?_, ?_, ?_, ?_⟩
    · rw [List.map_map, List.map_map, List.map_map, List.map_map]
      refine List.map_congr_left fun q hq => ?_
      show T.str (rowP (nextP f ps (q.c ++ q.g ++ q.v, q.e))).flatten = T.str (rowQ q).flatten
      have := nextP_flat (f := f) ps (q.c ++ q.g ++ q.v, q.e)
      have e : (rowP (nextP f ps (q.c ++ q.g ++ q.v, q.e))).flatten = (rowQ q).flatten := by
        simp only [rowP, rowQ, List.flatten_cons, List.flatten_nil, List.append_nil]
        rw [this]
        simp only [List.append_assoc]
      rw [e]
    · dsimp only; rw [basicP_all]; exact m1
    · dsimp only; rw [basicP_all]; exact m2
    · dsimp only; rw [basicP_all]; exact m3
    · dsimp only; rw [basicP_all]; exact m4
theorem later_P {ps : List PP} (h : PsOk f ps) (hc : (p0 ps).1 ≠ []) {S : List Nat} : Later f (mgZ f [.str S, .int 2] (ps.map rowP)) (ps.map rowP) := by
  obtain ⟨m1, m2, m3⟩ := mgZ_P h (S := S)
  have hTok : Ok (nextP f ps (p0 ps)).1 := by
    have e := nextP_flat (f := f) ps (p0 ps)
    have := (h.ok _ (p0_mem h.ne)).1
    rw [← e] at this
    exact ⟨fun x hx => this.asc x (List.mem_append.mpr (.inl hx)), by have := this.len; rw [List.length_append] at this; omega⟩
  have hpos : 0 < (nextP f ps (p0 ps)).1.length := by
    unfold nextP
    dsimp only
    rw [List.length_append]
    cases e : (p0 ps).1 with
    | nil => exact absurd e hc
    | cons a b => simp only [List.length_cons]; omega
  refine ⟨⟨(nextP f ps (p0 ps)).1.length, (ps.map (nextP f ps)).map rowP, m2, hpos, by rw [m1]; exact Nat.le_refl _, ?_, ?_, ?_, ?_, ?_⟩, by rw [m1]; exact hTok⟩
  · rw [List.map_map, List.map_map, List.map_map]
    refine List.map_congr_left fun p hp => ?_
    have := nextP_flat (f := f) ps p
    have e : (rowP (nextP f ps p)).flatten = (rowP p).flatten := by
      simp only [rowP, List.flatten_cons, List.flatten_nil, List.append_nil]
      exact this
    show T.str (rowP (nextP f ps p)).flatten = T.str (rowP p).flatten
    rw [e]
  all_goals
    rw [m1, basicP_all]
    obtain ⟨l1, l2, l3, l4⟩ := lvl2 h rfl hTok
    first | exact l1 | exact l2 | exact l3 | exact l4
end Mine
end

section
set_option linter.unusedSimpArgs false
set_option linter.unusedVariables false
namespace Mine
variable {f : Bool}

structure LW where
  l : List Nat
  c : List Nat
  g : List Nat
  v : List Nat
  e : List Nat
noncomputable def partsL (h : Bool) (x : LW) : Row := if h then [x.l, x.c, x.g, x.v, x.e] else [x.l, x.c, x.g]
noncomputable def Gap (s : List Nat) : Prop := ∀ x ∈ s, x = 97 ∨ x = 98 ∨ x = 65
structure Made (f lead : Bool) (first last : List Nat) (ws : List LW) : Prop where
  ne : ws ≠ []
  few : ws.length ≤ 50
  fx : ∀ x ∈ first, x = 120
  fl : 0 < first.length ∧ first.length ≤ 2
  lp : ∀ x ∈ last, x = 112
  ll : last.length ≤ 2
  l : ∀ w ∈ ws, Gap w.l ∧ w.l.length ≤ 4 ∧ (lead = false → w.l = [])
  c : ∀ w ∈ ws, fd f w.c = fd f first ∧ (∀ x ∈ w.c, x = 120 ∨ x = 88)
  g : ∀ w ∈ ws, Gap w.g ∧ w.g.length ≤ 4
  v : ∀ w ∈ ws, fd f w.v = fd f last ∧ (∀ x ∈ w.v, x = 112 ∨ x = 80)
  e : ∀ w ∈ ws, Gap w.e ∧ w.e.length ≤ 4
theorem Gap.lt {s : List Nat} (h : Gap s) : ∀ x ∈ s, x < 128 := fun x hx => by rcases h x hx with q | q | q <;> omega
theorem Gap.n112 {s : List Nat} (h : Gap s) : ∀ x ∈ s, foldc x ≠ 112 := fun x hx => by rcases h x hx with q | q | q <;> subst q <;> decide
theorem Gap.n120 {s : List Nat} (h : Gap s) : ∀ x ∈ s, foldc x ≠ 120 := fun x hx => by rcases h x hx with q | q | q <;> subst q <;> decide
variable {lead : Bool} {first last : List Nat} {ws : List LW}
theorem fdl {a b : List Nat} (h : fd f a = fd f b) : a.length = b.length := by have := congrArg List.length h; rwa [fd_len, fd_len] at this
namespace Made
theorem cl (M : Made f lead first last ws) {w : LW} (hw : w ∈ ws) : w.c.length = first.length := fdl (M.c w hw).1
theorem vl (M : Made f lead first last ws) {w : LW} (hw : w ∈ ws) : w.v.length = last.length := fdl (M.v w hw).1
theorem c120 (M : Made f lead first last ws) {w : LW} (hw : w ∈ ws) : ∀ x ∈ w.c, foldc x = 120 := fun x hx => by rcases (M.c w hw).2 x hx with q | q <;> subst q <;> decide
theorem v112 (M : Made f lead first last ws) {w : LW} (hw : w ∈ ws) : ∀ x ∈ w.v, foldc x = 112 := fun x hx => by rcases (M.v w hw).2 x hx with q | q <;> subst q <;> decide
theorem clt (M : Made f lead first last ws) {w : LW} (hw : w ∈ ws) : ∀ x ∈ w.c, x < 128 := fun x hx => by rcases (M.c w hw).2 x hx with q | q <;> omega
theorem vlt (M : Made f lead first last ws) {w : LW} (hw : w ∈ ws) : ∀ x ∈ w.v, x < 128 := fun x hx => by rcases (M.v w hw).2 x hx with q | q <;> omega
theorem okF (M : Made f lead first last ws) : Ok first := ⟨fun x hx => by have := M.fx x hx; omega, by have := M.fl; omega⟩
theorem okL (M : Made f lead first last ws) : Ok last := ⟨fun x hx => by have := M.lp x hx; omega, by have := M.ll; omega⟩
theorem ok5 (M : Made f lead first last ws) {w : LW} (hw : w ∈ ws) : Ok (w.l ++ w.c ++ w.g ++ w.v ++ w.e) ∧ (w.l ++ w.c ++ w.g ++ w.v ++ w.e).length ≤ 60 := by
  have h1 := M.cl hw
  have h2 := M.vl hw
  have h3 := (M.l w hw).2.1
  have h4 := (M.g w hw).2
  have h5 := (M.e w hw).2
  have h6 := M.fl
  have h7 := M.ll
  refine ⟨⟨fun x hx => ?_, ?_⟩, ?_⟩
  · simp only [List.mem_append] at hx
    rcases hx with (((q | q) | q) | q) | q
    · exact (M.l w hw).1.lt x q
    · exact M.clt hw x q
    · exact (M.g w hw).1.lt x q
    · exact M.vlt hw x q
    · exact (M.e w hw).1.lt x q
  · simp only [List.length_append]; omega
  · simp only [List.length_append]; omega
theorem okp (M : Made f lead first last ws) {w : LW} (hw : w ∈ ws) : ∀ s ∈ [w.l, w.c, w.g, w.v, w.e], Ok s ∧ s.length ≤ 60 := fun s hs => by
  obtain ⟨h1, h2⟩ := M.ok5 hw
  have e : w.l ++ w.c ++ w.g ++ w.v ++ w.e = [w.l, w.c, w.g, w.v, w.e].flatten := by simp
  rw [e] at h1 h2
  obtain ⟨h3, h4⟩ := flatten_mem hs
  exact ⟨⟨fun x hx => h1.asc x (h4 x hx), by have := h1.len; omega⟩, by omega⟩
end Made
noncomputable def hasL (last : List Nat) : Bool := decide (last ≠ [])
noncomputable def cnt (h : Bool) : Nat := if h then 5 else 3
theorem lcOk_of (M : Made f lead first last ws) (h : Bool) : LcOk (ws.map (partsL h)) (cnt h) where
  len := fun ro hro => by
    obtain ⟨w, hw, rfl⟩ := List.mem_map.mp hro
    cases h <;> rfl
  ok := fun ro hro s hs => by
    obtain ⟨w, hw, rfl⟩ := List.mem_map.mp hro
    refine M.okp hw s ?_
    cases h with
    | true => exact hs
    | false => simp only [partsL, Bool.false_eq_true, if_false] at hs; simp only [List.mem_cons, List.not_mem_nil, or_false] at hs ⊢; rcases hs with q | q | q <;> simp [q]
  ne := by have := M.ne; simpa using this
  few := by have := M.few; simpa using this
  short := by cases h <;> decide

/-- what the law's first step gives -/
structure Core (f lead : Bool) (first last : List Nat) (ws : List LW) (P : List T) (R : List Row) : Prop where
  texts : R.map rowS = (ws.map (partsL (hasL last))).map rowS
  fit : AllFit f P R
  len : (P.length : Int) = (cnt (hasL last) : Int) - (if lead then 0 else 1)
  cols : ∀ i, i < P.length → col R i = col (ws.map (partsL (hasL last))) (i + if lead then 0 else 1)
  same : mgZ f P R = lcZ f (ws.map (partsL (hasL last))) (cnt (hasL last))
  own : 0 ≤ (mgZ f P R).own
  later : lead = false → Later f (mgZ f P R) R
theorem zs_empty (n : Nat) (hn : 0 < n) (o : Int) : zStep f true false false (List.replicate n []) ⟨[], -1, o⟩ = ⟨[], -1, o⟩ := by
  have hne : List.replicate n ([] : List Nat) ≠ [] := by cases n with | zero => omega | succ n => simp [List.replicate_succ]
  have hd : (List.replicate n ([] : List Nat)).headD [] = [] := by cases n with | zero => rfl | succ n => rfl
  rw [zs_gap _ _ hne, hd]
  have hi : isp f (List.replicate n ([] : List Nat)) = false := by
    unfold isp
    rw [List.any_eq_false]
    intro x hx
    obtain ⟨s, hs, rfl⟩ := List.mem_map.mp hx
    have := List.eq_of_mem_replicate hs
    subst this; simp
  rw [hi]
  have : tl f (List.replicate n ([] : List Nat)) [] = [] := by unfold tl rst; simp
  rw [this]; simp
theorem lcZ_3 {rows : List Row} : lcZ f rows 3 = zStep f true true true (col rows 2) (zStep f false false false (col rows 1) (zStep f true false false (col rows 0) ⟨[], -1, 0⟩)) := rfl
theorem lcZ_5 {rows : List Row} : lcZ f rows 5 = zStep f true false true (col rows 4) (zStep f false false false (col rows 3) (zStep f true true false (col rows 2) (zStep f false false false (col rows 1) (zStep f true false false (col rows 0) ⟨[], -1, 0⟩)))) := rfl
theorem mgZ_3s {A : List Nat} {rows : List Row} : mgZ f [.int 0, .str A, .int 2] rows = zStep f true true true (col rows 2) (zStep f false false false (col rows 1) (zStep f true false false (col rows 0) ⟨[], -1, -1⟩)) := rfl
theorem mgZ_5s {A B : List Nat} {rows : List Row} : mgZ f [.int 0, .str A, .int 2, .str B, .int 0] rows = zStep f true false true (col rows 4) (zStep f false false false (col rows 3) (zStep f true true false (col rows 2) (zStep f false false false (col rows 1) (zStep f true false false (col rows 0) ⟨[], -1, -1⟩)))) := rfl
/-- the first own place is written over -/
theorem own_over (la : Bool) (ss : List (List Nat)) (t : List Nat) (p a b : Int) : zStep f true true la ss ⟨t, p, a⟩ = zStep f true true la ss ⟨t, p, b⟩ := rfl
theorem own_pass (gp la : Bool) (ss : List (List Nat)) (t : List Nat) (p a : Int) : zStep f gp false la ss ⟨t, p, a⟩ = ⟨(zStep f gp false la ss ⟨t, p, 0⟩).text, (zStep f gp false la ss ⟨t, p, 0⟩).parted, a⟩ := by
  cases gp <;> rfl
theorem two_own (s0 s1 s2 : List (List Nat)) (la : Bool) (a b : Int) : zStep f true true la s2 (zStep f false false false s1 (zStep f true false false s0 ⟨[], -1, a⟩)) = zStep f true true la s2 (zStep f false false false s1 (zStep f true false false s0 ⟨[], -1, b⟩)) := by
  rw [own_pass true false s0 [] (-1) a, own_pass true false s0 [] (-1) b, own_pass false false s1 _ _ a, own_pass false false s1 _ _ b]
  exact own_over la s2 _ _ a b
theorem own_pos (la : Bool) (ss : List (List Nat)) (z : Z) : 0 ≤ (zStep f true true la ss z).own := by
  show (0 : Int) ≤ ((zText f ss z).length : Nat); omega
theorem own_keep (gp la : Bool) (ss : List (List Nat)) (z : Z) : (zStep f gp false la ss z).own = z.own := by cases gp <;> rfl
theorem colW (h : Bool) (ws : List LW) (i : Nat) : col (ws.map (partsL h)) i = ws.map fun w => (partsL h w)[i]?.getD [] := by unfold col; rw [List.map_map]; rfl

theorem core_basic3 (M : Made f false first [] ws) : Core f false first [] ws (basicP (first ++ []) first.length) (ws.map fun w => rowP (w.c, w.g)) := by
  have hP : basicP (first ++ []) first.length = [.str first, .int 2] := by rw [List.append_nil, basicP_all]
  rw [hP]
  let ps : List PP := ws.map fun w => (w.c, w.g)
  have hR : (ws.map fun w => rowP (w.c, w.g)) = ps.map rowP := by rw [List.map_map]; rfl
  have hv : ∀ w ∈ ws, w.v = [] := fun w hw => List.eq_nil_of_length_eq_zero (M.vl hw)
  obtain ⟨w0, hw0⟩ : ∃ w0, w0 ∈ ws := by cases h : ws with | nil => exact absurd h M.ne | cons a b => exact ⟨a, by simp⟩
  have p0f : fd f (p0 ps).1 = fd f first := by
    have : p0 ps ∈ ps := p0_mem (by have := M.ne; simpa [ps] using this)
    obtain ⟨w, hw, e⟩ := List.mem_map.mp this
    rw [← e]; exact (M.c w hw).1
  have hps : PsOk f ps := by
    refine ⟨by have := M.ne; simpa [ps] using this, by have := M.few; simpa [ps] using this, fun p hp => ?_, fun p hp => ?_⟩
    · obtain ⟨w, hw, rfl⟩ := List.mem_map.mp hp
      obtain ⟨h1, h2⟩ := M.ok5 hw
      refine ⟨⟨fun x hx => h1.asc x ?_, ?_⟩, ?_⟩
      · simp only [List.mem_append] at hx ⊢; rcases hx with q | q <;> simp [q]
      · have := h1.len; simp only [List.length_append] at this ⊢; omega
      · simp only [List.length_append] at h2 ⊢; omega
    · obtain ⟨w, hw, rfl⟩ := List.mem_map.mp hp
      rw [p0f]; exact (M.c w hw).1
  have hc : (p0 ps).1 ≠ [] := fun e => by
    have := fdl p0f
    rw [e] at this
    have := M.fl
    simp at *; omega
  have hl : ∀ w ∈ ws, w.l = [] := fun w hw => (M.l w hw).2.2 rfl
  have hh : hasL ([] : List Nat) = false := rfl
  have c0 : col (ws.map (partsL false)) 0 = List.replicate ws.length [] := by
    rw [colW, List.eq_replicate_iff]
    refine ⟨by simp, fun s hs => ?_⟩
    obtain ⟨w, hw, rfl⟩ := List.mem_map.mp hs
    exact hl w hw
  rw [hR]
  refine ⟨?_, fit_P hps M.okF p0f, rfl, ?_, ?_, ?_, fun _ => later_P hps hc⟩
  · rw [List.map_map, List.map_map, List.map_map]
    refine List.map_congr_left fun w hw => ?_
    show T.str (rowP (w.c, w.g)).flatten = T.str (partsL false w).flatten
    simp [rowP, partsL, hl w hw]
  · intro i hi
    rw [hh, colW]
    unfold col
    rw [List.map_map, List.map_map]
    have hi' : i < 2 := hi
    match i, hi' with
    | 0, _ => rfl
    | 1, _ => rfl
  · rw [hh, mgZ_2]
    show _ = lcZ f (ws.map (partsL false)) 3
    rw [lcZ_3, c0, zs_empty _ (List.length_pos_iff.mpr M.ne)]
    have e0 : col (ps.map rowP) 0 = col (ws.map (partsL false)) 1 := by rw [colW]; unfold col; rw [List.map_map, List.map_map]; rfl
    have e1 : col (ps.map rowP) 1 = col (ws.map (partsL false)) 2 := by rw [colW]; unfold col; rw [List.map_map, List.map_map]; rfl
    rw [e0, e1]; rfl
  · exact (mgZ_P hps).2.2
theorem core_basic5 (hl0 : last ≠ []) (M : Made f false first last ws) : Core f false first last ws (basicP (first ++ last) first.length) (ws.map fun w => rowQ ⟨w.c, w.g, w.v, w.e⟩) := by
  have hll : 0 < last.length := List.length_pos_iff.mpr hl0
  rw [basicP_cut _ _ hll]
  let qs : List Q := ws.map fun w => ⟨w.c, w.g, w.v, w.e⟩
  have hR : (ws.map fun w => rowQ ⟨w.c, w.g, w.v, w.e⟩) = qs.map rowQ := by rw [List.map_map]; rfl
  have q0m : q0 qs ∈ qs := q0_mem (by have := M.ne; simpa [qs] using this)
  have q0c : fd f (q0 qs).c = fd f first := by
    obtain ⟨w, hw, e⟩ := List.mem_map.mp q0m
    rw [← e]; exact (M.c w hw).1
  have q0v : fd f (q0 qs).v = fd f last := by
    obtain ⟨w, hw, e⟩ := List.mem_map.mp q0m
    rw [← e]; exact (M.v w hw).1
  have hqs : QsOk f qs := by
    refine ⟨by have := M.ne; simpa [qs] using this, by have := M.few; simpa [qs] using this, fun p hp => ?_, fun p hp => ?_, fun p hp => ?_, fun p hp => ?_, fun p hp => ?_, fun p hp => ?_, fun p hp => ?_, ?_⟩
    · obtain ⟨w, hw, rfl⟩ := List.mem_map.mp hp
      obtain ⟨h1, h2⟩ := M.ok5 hw
      refine ⟨⟨fun x hx => h1.asc x ?_, ?_⟩, ?_⟩
      · simp only [flatQ, List.mem_append] at hx ⊢; rcases hx with ((q | q) | q) | q <;> simp [q]
      · have := h1.len; simp only [flatQ, List.length_append] at this ⊢; omega
      · simp only [flatQ, List.length_append] at h2 ⊢; omega
    · obtain ⟨w, hw, rfl⟩ := List.mem_map.mp hp; rw [q0c]; exact (M.c w hw).1
    · obtain ⟨w, hw, rfl⟩ := List.mem_map.mp hp; rw [q0v]; exact (M.v w hw).1
    · obtain ⟨w, hw, rfl⟩ := List.mem_map.mp hp; intro x hx; rw [M.c120 hw x hx]; decide
    · obtain ⟨w, hw, rfl⟩ := List.mem_map.mp hp; exact (M.g w hw).1.n112
    · obtain ⟨w, hw, rfl⟩ := List.mem_map.mp hp; exact M.v112 hw
    · obtain ⟨w, hw, rfl⟩ := List.mem_map.mp hp; exact (M.e w hw).1.n112
    · intro e
      have := fdl q0v
      rw [e] at this
      simp at this; omega
  have hc : (q0 qs).c ≠ [] := fun e => by
    have := fdl q0c
    rw [e] at this
    have := M.fl
    simp at *; omega
  have hl : ∀ w ∈ ws, w.l = [] := fun w hw => (M.l w hw).2.2 rfl
  have hh : hasL last = true := decide_eq_true hl0
  have c0 : col (ws.map (partsL true)) 0 = List.replicate ws.length [] := by
    rw [colW, List.eq_replicate_iff]
    refine ⟨by simp, fun s hs => ?_⟩
    obtain ⟨w, hw, rfl⟩ := List.mem_map.mp hs
    exact hl w hw
  rw [hR]
  refine ⟨?_, fit_Q hqs M.okF M.okL q0c q0v, ?_, ?_, ?_, ?_, fun _ => later_Q hqs hc⟩
  · rw [hh, List.map_map, List.map_map, List.map_map]
    refine List.map_congr_left fun w hw => ?_
    show T.str (rowQ ⟨w.c, w.g, w.v, w.e⟩).flatten = T.str (partsL true w).flatten
    simp [rowQ, partsL, hl w hw]
  · rw [hh]; rfl
  · intro i hi
    rw [hh, colW]
    unfold col
    rw [List.map_map, List.map_map]
    have hi' : i < 4 := hi
    match i, hi' with
    | 0, _ => rfl
    | 1, _ => rfl
    | 2, _ => rfl
    | 3, _ => rfl
  · rw [hh, mgZ_4]
    show _ = lcZ f (ws.map (partsL true)) 5
    rw [lcZ_5, c0, zs_empty _ (List.length_pos_iff.mpr M.ne)]
    have e0 : col (qs.map rowQ) 0 = col (ws.map (partsL true)) 1 := by rw [colW]; unfold col; rw [List.map_map, List.map_map]; rfl
    have e1 : col (qs.map rowQ) 1 = col (ws.map (partsL true)) 2 := by rw [colW]; unfold col; rw [List.map_map, List.map_map]; rfl
    have e2 : col (qs.map rowQ) 2 = col (ws.map (partsL true)) 3 := by rw [colW]; unfold col; rw [List.map_map, List.map_map]; rfl
    have e3 : col (qs.map rowQ) 3 = col (ws.map (partsL true)) 4 := by rw [colW]; unfold col; rw [List.map_map, List.map_map]; rfl
    rw [e0, e1, e2, e3]; rfl
  · rw [mgZ_Q hqs.ne]; dsimp only; omega
theorem core_sub3 (M : Made f true first [] ws) : Core f true first [] ws (subP (first ++ []) first.length) (ws.map (partsL false)) := by
  have hP : subP (first ++ []) first.length = [.int 0, .str first, .int 2] := by
    unfold subP; rw [List.append_nil, if_neg (by omega)]
  rw [hP]
  have hF120 : ∀ x ∈ first, foldc x = 120 := fun x hx => by rw [M.fx x hx]; decide
  have hFne : first ≠ [] := by intro e; have := M.fl; rw [e] at this; simp at this
  refine ⟨rfl, ⟨fun ro hro => ?_, fun ro hro => ?_, fun ro hro => ?_, by have := M.ne; simpa using this, by have := M.few; simpa using this, by simp⟩, rfl, fun i hi => rfl, ?_, ?_, fun h => by cases h⟩
  · obtain ⟨w, hw, rfl⟩ := List.mem_map.mp hro
    have := fits_3s (f := f) (A := first) (g0 := w.l) (c := w.c) (g := w.g) M.okF (M.c w hw).1 (fun k hk => by
      have := uniq (f := f) (q := 120) (a := []) (b := first) (c := []) (u := w.l) (v := w.c) (w := w.g) (S := first) (tx := w.l ++ w.c ++ w.g) (by simp) rfl hF120 hFne (M.cl hw).symm (M.l w hw).1.n120 (M.g w hw).1.n120 hk
      simpa using this)
    simpa [partsL] using this
  · obtain ⟨w, hw, rfl⟩ := List.mem_map.mp hro
    obtain ⟨h1, h2⟩ := M.ok5 hw
    refine ⟨fun x hx => h1.asc x ?_, ?_⟩
    · simp only [partsL, Bool.false_eq_true, if_false, List.flatten_cons, List.flatten_nil, List.append_nil, List.mem_append] at hx ⊢; rcases hx with q | q | q <;> simp [q]
    · have := h1.len; simp only [partsL, Bool.false_eq_true, if_false, List.flatten_cons, List.flatten_nil, List.append_nil, List.length_append] at this ⊢; omega
  · obtain ⟨w, hw, rfl⟩ := List.mem_map.mp hro
    obtain ⟨h1, h2⟩ := M.ok5 hw
    simp only [partsL, Bool.false_eq_true, if_false, List.flatten_cons, List.flatten_nil, List.append_nil, List.length_append] at h2 ⊢; omega
  · rw [mgZ_3s]
    show _ = lcZ f (ws.map (partsL false)) 3
    rw [lcZ_3]
    exact two_own _ _ _ _ _ _
  · rw [mgZ_3s]; exact own_pos _ _ _
theorem core_sub5 (hl0 : last ≠ []) (M : Made f true first last ws) : Core f true first last ws (subP (first ++ last) first.length) (ws.map (partsL true)) := by
  have hll : 0 < last.length := List.length_pos_iff.mpr hl0
  have hP : subP (first ++ last) first.length = [.int 0, .str first, .int 2, .str last, .int 0] := by
    unfold subP; rw [if_pos (by simp; omega), List.take_left, List.drop_left]
  rw [hP]
  have hh : hasL last = true := decide_eq_true hl0
  have hF120 : ∀ x ∈ first, foldc x = 120 := fun x hx => by rw [M.fx x hx]; decide
  have hL112 : ∀ x ∈ last, foldc x = 112 := fun x hx => by rw [M.lp x hx]; decide
  have hFne : first ≠ [] := by intro e; have := M.fl; rw [e] at this; simp at this
  refine ⟨by rw [hh], ⟨fun ro hro => ?_, fun ro hro => ?_, fun ro hro => ?_, by have := M.ne; simpa using this, by have := M.few; simpa using this, by simp⟩, by rw [hh]; rfl, fun i hi => by rw [hh]; rfl, ?_, ?_, fun h => by cases h⟩
  · obtain ⟨w, hw, rfl⟩ := List.mem_map.mp hro
    have := fits_5s (f := f) (A := first) (B := last) (g0 := w.l) (c := w.c) (g := w.g) (v := w.v) (e := w.e) M.okF M.okL (M.c w hw).1 (M.v w hw).1 (fun k hk => by
      have := uniq (f := f) (q := 120) (a := []) (b := first) (c := []) (u := w.l) (v := w.c) (w := w.g ++ w.v ++ w.e) (S := first) (tx := w.l ++ w.c ++ w.g ++ w.v ++ w.e) (by simp) (by simp only [List.append_assoc]) hF120 hFne (M.cl hw).symm (M.l w hw).1.n120 (fun x hx => by
        simp only [List.mem_append] at hx
        rcases hx with (q | q) | q
        · exact (M.g w hw).1.n120 x q
        · rw [M.v112 hw x q]; decide
        · exact (M.e w hw).1.n120 x q) hk
      simpa using this) (fun k hk => by
      have := uniq (f := f) (q := 112) (a := []) (b := last) (c := []) (u := w.l ++ w.c ++ w.g) (v := w.v) (w := w.e) (S := last) (tx := w.l ++ w.c ++ w.g ++ w.v ++ w.e) (by simp) rfl hL112 hl0 (M.vl hw).symm (fun x hx => by
        simp only [List.mem_append] at hx
        rcases hx with (q | q) | q
        · exact (M.l w hw).1.n112 x q
        · rw [M.c120 hw x q]; decide
        · exact (M.g w hw).1.n112 x q) (M.e w hw).1.n112 hk
      simp only [List.length_append, List.length_nil, Nat.add_zero] at this
      omega)
    simpa [partsL] using this
  · obtain ⟨w, hw, rfl⟩ := List.mem_map.mp hro
    have := (M.ok5 hw).1
    simpa [partsL] using this
  · obtain ⟨w, hw, rfl⟩ := List.mem_map.mp hro
    have := (M.ok5 hw).2
    simp only [List.length_append] at this
    simp only [partsL, if_true, List.flatten_cons, List.flatten_nil, List.append_nil, List.length_append]
    omega
  · rw [mgZ_5s, hh]
    show _ = lcZ f (ws.map (partsL true)) 5
    rw [lcZ_5, two_own _ _ _ _ _ 0]
  · rw [mgZ_5s, own_keep, own_keep]; exact own_pos _ _ _
theorem core (M : Made f lead first last ws) : ∃ P R, sp_pattern_of [.str (if lead then subS else basicS), .str (first ++ last), .int first.length] = (fun d => some (.list P, d)) ∧ Core f lead first last ws P R := by
  have hk : first.length ≤ (first ++ last).length := by simp
  have ht : (first ++ last).length ≤ 100 := by have := M.fl; have := M.ll; rw [List.length_append]; omega
  have h0 := M.fl.1
  cases lead with
  | true =>
    refine ⟨subP (first ++ last) first.length, ws.map (partsL (hasL last)), funext fun d => pat_sub hk h0 ht, ?_⟩
    by_cases hl : last = []
    · subst hl; exact core_sub3 M
    · have hh : hasL last = true := decide_eq_true hl
      rw [hh]; exact core_sub5 hl M
  | false =>
    by_cases hl : last = []
    · subst hl; exact ⟨_, _, funext fun d => pat_basic hk h0 ht, core_basic3 M⟩
    · exact ⟨_, _, funext fun d => pat_basic hk h0 ht, core_basic5 hl M⟩
end Mine
end

section
set_option linter.unusedSimpArgs false
set_option linter.unusedVariables false
namespace Mine
variable {f : Bool} {r : Rho} {d : Dk}

/-- the deck, and how far it is drawn -/
structure DkB (d : Dk) (b : Nat) : Prop where
  cells : d.cells.length ≤ 63
  lo : 0 ≤ d.n
  hi : d.n ≤ b
theorem DkB.mono {d : Dk} {b c : Nat} (h : DkB d b) (hbc : b ≤ c) : DkB d c := ⟨h.cells, h.lo, by have := h.hi; omega⟩
theorem xDeck1_ev {x : N} (h : r x = some (.val .deck)) : xDeck1 x r d = some (.int d.n, d) := by unfold xDeck1; rw [h]
theorem xDeck0_ev {x : N} (h : r x = some (.val .deck)) : xDeck0 x r d = some (.list (d.cells.map .int), d) := by unfold xDeck0; rw [h]
theorem tFdiv_ok (a b : Int) (hb : b ≠ 0) (h1 : small a = true) (h2 : small b = true) : tFdiv (.int a) (.int b) = some (.int (a.fdiv b)) := by
  have h : ¬ (b = 0 ∨ !(small a && small b)) := by rw [h1, h2]; simp [hb]
  unfold tFdiv
  exact if_neg h
theorem leI (a b : Int) : tCmp .le (.int a) (.int b) = some (decide (a ≤ b)) := rfl
theorem fmod_small (a : Int) {k : Nat} (hk : 0 < k) : ∃ v : Nat, v < k ∧ a.fmod k = (v : Int) := by
  have h1 : 0 ≤ a.fmod k := by rw [Int.fmod_eq_emod_of_nonneg _ (by omega)]; exact Int.emod_nonneg _ (by omega)
  have h2 : a.fmod k < k := by rw [Int.fmod_eq_emod_of_nonneg _ (by omega)]; exact Int.emod_lt_of_pos _ (by omega)
  exact ⟨(a.fmod k).toNat, by omega, by omega⟩
theorem draw_ev {b k : Nat} (h : DkB d b) (hb : b ≤ 1000) (hk : 0 < k) (hk2 : k ≤ 10) : ∃ (v : Nat) (d' : Dk), v < k ∧ DkB d' (b + 1) ∧ sp_law_draw [.deck, .int k] d = some (.int v, d') := by
  let r0 : Rho := upd (upd (fun _ => none) .many (.val (.int k))) .deck (.val .deck)
  let d1 : Dk := { d with n := d.n + 1 }
  have hd1 : DkB d1 (b + 1) := ⟨h.cells, by show 0 ≤ d.n + 1; have := h.lo; omega, by show d.n + 1 ≤ ((b + 1 : Nat) : Int); have := h.hi; omega⟩
  have dk : r0 .deck = some (.val .deck) := rfl
  have mk : r0 .many = some (.val (.int k)) := rfl
  have s1 : sDeck1 .deck (x2 tAdd (xDeck1 .deck) (xC (.int 1))) r0 d = some (.next, r0, d1) := by
    unfold sDeck1
    rw [x2_ev (c := .int (d.n + 1)) (xDeck1_ev dk) xC_ev rfl]
    rfl
  have len : (x1 tLen (xDeck0 .deck)) r0 d1 = some (.int d.cells.length, d1) := by
    refine x1_ev (xDeck0_ev dk) ?_
    show some (T.int ((d.cells.map T.int).length : Nat)) = _
    rw [List.length_map]
  have c1 := bCmp_ev (xDeck1_ev (d := d1) dk) len (leI _ _)
  have hlo := h.lo
  have hhi := h.hi
  have hcl := h.cells
  by_cases hc : d1.n ≤ d.cells.length
  · rw [decide_eq_true hc] at c1
    have hc' : d.n + 1 ≤ d.cells.length := hc
    have hm : d.n.toNat < d.cells.length := by omega
    obtain ⟨v, hv, e⟩ := fmod_small (d.cells[d.n.toNat]) hk
    refine ⟨v, d1, hv, hd1, ?_⟩
    refine fnGo_of (r := r0) rfl ⟨r0, ?_⟩
    unfold f_law_draw
    rw [seqs_next s1]
    refine seqs_ret ((sIf_t c1).trans (seqs_ret (sRet_ev ?_)))
    have hi : (x2 tSub (xDeck1 .deck) (xC (.int 1))) r0 d1 = some (.int ((d.n.toNat : Nat) : Int), d1) := by
      refine x2_ev (xDeck1_ev dk) xC_ev ?_
      show some (T.int (d.n + 1 - 1)) = _
      rw [show d.n + 1 - 1 = ((d.n.toNat : Nat) : Int) by omega]
    refine x2_ev (x2_ev (xDeck0_ev dk) hi (tIdx_list_ok _ _ (by omega) (.int d.cells[d.n.toNat]) (by rw [List.getElem?_map, List.getElem?_eq_getElem hm]; rfl))) (xVar_ev mk) ?_
    rw [tMod_ok _ _ (by omega), e]
  · rw [decide_eq_false hc] at c1
    let m : Int := d1.n
    have hm1 : 0 ≤ m := by show 0 ≤ d.n + 1; omega
    have hm2 : m ≤ 1001 := by show d.n + 1 ≤ 1001; omega
    have hmm : m * m ≤ 1001 * 1001 := Int.mul_le_mul hm2 hm2 hm1 (by decide)
    have hmm0 : 0 ≤ m * m := Int.mul_nonneg hm1 hm1
    have sm : small m = true := small_ok (by omega) (by omega)
    have smm : small (m * m) = true := small_ok (by omega) (by omega)
    have s37 : small 37 = true := small_ok (by decide) (by decide)
    have s11 : small 11 = true := small_ok (by decide) (by decide)
    have s5 : small 5 = true := small_ok (by decide) (by decide)
    have s4 : small 4 = true := small_ok (by decide) (by decide)
    have sl : small (d.cells.length : Int) = true := small_ok (by omega) (by omega)
    have sa : small (m * m * 37 + 11 * m + 5 * (d.cells.length : Int)) = true := small_ok (by omega) (by omega)
    obtain ⟨v, hv, e⟩ := fmod_small ((m * m * 37 + 11 * m + 5 * (d.cells.length : Int)).fdiv 4) hk
    refine ⟨v, d1, hv, hd1, ?_⟩
    refine fnGo_of (r := r0) rfl ⟨r0, ?_⟩
    unfold f_law_draw
    rw [seqs_next s1, seqs_next ((sIf_f c1).trans seqs_nil)]
    refine seqs_ret (sRet_ev ?_)
    have dn : xDeck1 .deck r0 d1 = some (.int m, d1) := xDeck1_ev dk
    refine x2_ev (x2_ev (x2_ev (x2_ev (x2_ev (x2_ev dn dn (tMul_ok m m sm sm)) xC_ev (tMul_ok _ 37 smm s37)) (x2_ev xC_ev dn (tMul_ok 11 m s11 sm)) rfl) (x2_ev xC_ev len (tMul_ok 5 _ s5 sl)) rfl) xC_ev (tFdiv_ok _ 4 (by decide) sa s4)) (xVar_ev mk) ?_
    rw [tMod_ok _ _ (by omega), e]

theorem join_ev {cs : List Nat} (hl : cs.length ≤ 100) : tJoin (.str []) (.list (cs.map fun c => .str [c])) = some (.str cs) := by
  have e3 : tStrs (cs.map fun c => T.str [c]) = some (cs.map fun c => [c]) := by
    have := tStrs_map (cs.map fun c => [c])
    rw [List.map_map] at this; exact this
  simp only [tJoin, e3]
  rw [if_pos ⟨by decide, by simp; omega, by simp⟩, flatten_single]
theorem signs_comp {ri : Rho} (hd : ri .deck = some (.val .deck)) : ∀ (l : List T) (d : Dk) (b : Nat), DkB d b → b + l.length ≤ 1000 → ∃ (cs : List Nat) (d' : Dk), cs.length = l.length ∧ Gap cs ∧ DkB d' (b + l.length) ∧
    compGo [.deck] .nth (bAll []) (x2 tIdx (xC (.str [97, 98, 65])) (xCall sp_law_draw [(xVar .deck), (xC (.int 3))])) ri l d = some (cs.map fun c => .str [c], d')
  | [], d, b, h, hb => ⟨[], d, rfl, (fun x hx => by cases hx), h, rfl⟩
  | t :: l, d, b, h, hb => by
    simp only [List.length_cons] at hb
    obtain ⟨v, d1, hv, h1, e1⟩ := draw_ev (k := 3) h (by omega) (by decide) (by decide)
    obtain ⟨cs, d2, hl, hg, h2, e2⟩ := signs_comp hd l d1 (b + 1) h1 (by omega)
    have hc : ∃ c, ([97, 98, 65] : List Nat)[v]? = some c ∧ (c = 97 ∨ c = 98 ∨ c = 65) := by
      match v, hv with
      | 0, _ => exact ⟨97, rfl, .inl rfl⟩
      | 1, _ => exact ⟨98, rfl, .inr (.inl rfl)⟩
      | 2, _ => exact ⟨65, rfl, .inr (.inr rfl)⟩
    obtain ⟨c, hc, hcg⟩ := hc
    refine ⟨c :: cs, d2, by simp [hl], fun x hx => ?_, h2.mono (by simp; omega), ?_⟩
    · rcases List.mem_cons.mp hx with rfl | hx
      · exact hcg
      · exact hg x hx
    · have hdi : (inner [.deck] .nth t ri) .deck = some (.val .deck) := by simp [inner, hd]
      have el : (x2 tIdx (xC (.str [97, 98, 65])) (xCall sp_law_draw [(xVar .deck), (xC (.int 3))])) (inner [.deck] .nth t ri) d = some (.str [c], d1) :=
        x2_ev xC_ev (xCall_ev (xs_cons (xVar_ev hdi) (xs_cons xC_ev xs_nil)) e1) (tIdx_str_ok _ v (by omega) c hc)
      unfold compGo
      rw [show (bAll [] : B) (inner [.deck] .nth t ri) d = some (true, d) from rfl]
      dsimp only
      rw [el]
      dsimp only
      rw [e2]
      rfl
theorem signs_ev {b m : Nat} (h : DkB d b) (hm : m ≤ 10) (hb : b + m ≤ 1000) : ∃ (cs : List Nat) (d' : Dk), cs.length = m ∧ Gap cs ∧ DkB d' (b + m) ∧ sp_law_signs [.deck, .int m] d = some (.str cs, d') := by
  let r0 : Rho := upd (upd (fun _ => none) .many (.val (.int m))) .deck (.val .deck)
  have dk : r0 .deck = some (.val .deck) := rfl
  have mk : r0 .many = some (.val (.int m)) := rfl
  obtain ⟨cs, d', h1, h2, h3, h4⟩ := signs_comp dk ((List.range m).map fun (j : Nat) => T.int ((0 : Int) + (j : Int))) d b h (by simpa using hb)
  simp only [List.length_map, List.length_range] at h1 h3
  refine ⟨cs, d', h1, h2, h3, ?_⟩
  refine fnGo_of (r := r0) rfl ⟨r0, ?_⟩
  unfold f_law_signs
  have f1 : fitI (m : Int) = true := fitI_small (by omega) (by omega)
  refine seqs_ret (sRet_ev (x2_ev xC_ev (xComp_ev (x1_ev (xVar_ev mk) (tRange1_ok _ f1 (by have := szL_eq; omega))) rfl (by have := szL_eq; simp; omega) ?_) (join_ev (by omega))))
  rw [show ((m : Int) - 0).toNat = m by omega]
  exact h4
theorem upper_ok {c : Nat} (h : c < 128) : tUpper (.str [c]) = some (.str [up1 c]) := by
  show (if ascii [c] ∧ [c].length ≤ 1000 then some (T.str ([c].map up1)) else none) = _
  rw [if_pos ⟨asc_of (by intro x hx; simp at hx; omega), by simp⟩]; rfl
/-- letters, some of them raised -/
noncomputable def Raised (t t' : List Nat) : Prop := t'.length = t.length ∧ t'.map foldc = t.map foldc ∧ ∀ x ∈ t', ∃ c ∈ t, x = c ∨ x = up1 c
theorem cased_comp {ri : Rho} (hd : ri .deck = some (.val .deck)) : ∀ (t : List Nat) (d : Dk) (b : Nat), (∀ c ∈ t, c = 120 ∨ c = 112) → DkB d b → b + t.length ≤ 1000 → ∃ (t' : List Nat) (d' : Dk), Raised t t' ∧ DkB d' (b + t.length) ∧
    compGo [.deck] .sign (bAll []) (xIte (bCmp .eq (xCall sp_law_draw [(xVar .deck), (xC (.int 2))]) (xC (.int 1))) (x1 tUpper (xVar .sign)) (xVar .sign)) ri (t.map fun c => T.str [c]) d = some (t'.map fun c => .str [c], d')
  | [], d, b, ht, h, hb => ⟨[], d, ⟨rfl, rfl, (fun x hx => by cases hx)⟩, h, rfl⟩
  | c :: t, d, b, ht, h, hb => by
    simp only [List.length_cons] at hb
    obtain ⟨v, d1, hv, h1, e1⟩ := draw_ev (k := 2) h (by omega) (by decide) (by decide)
    obtain ⟨t', d2, ⟨r1, r2, r3⟩, h2, e2⟩ := cased_comp hd t d1 (b + 1) (fun c hc => ht c (by simp [hc])) h1 (by omega)
    have hc := ht c (by simp)
    have hc128 : c < 128 := by omega
    have hdi : (inner [.deck] .sign (.str [c]) ri) .deck = some (.val .deck) := by simp [inner, hd]
    have hsi : (inner [.deck] .sign (.str [c]) ri) .sign = some (.val (.str [c])) := by simp [inner]
    have cmp := bCmp_ev (xCall_ev (xs_cons (xVar_ev hdi) (xs_cons xC_ev xs_nil)) e1) (xC_ev (t := .int 1)) (eqI _ _)
    have el : ∃ x, (x = c ∨ x = up1 c) ∧ (xIte (bCmp .eq (xCall sp_law_draw [(xVar .deck), (xC (.int 2))]) (xC (.int 1))) (x1 tUpper (xVar .sign)) (xVar .sign)) (inner [.deck] .sign (.str [c]) ri) d = some (.str [x], d1) := by
      by_cases q : (v : Int) = 1
      · rw [decide_eq_true q] at cmp
        exact ⟨up1 c, .inr rfl, (xIte_t cmp).trans (x1_ev (xVar_ev hsi) (upper_ok hc128))⟩
      · rw [decide_eq_false q] at cmp
        exact ⟨c, .inl rfl, (xIte_f cmp).trans (xVar_ev hsi)⟩
    obtain ⟨x, hx, el⟩ := el
    refine ⟨x :: t', d2, ⟨by simp [r1], ?_, fun y hy => ?_⟩, h2.mono (by simp; omega), ?_⟩
    · simp only [List.map_cons, r2]
      congr 1
      rcases hx with rfl | rfl
      · rfl
      · rcases hc with rfl | rfl <;> decide
    · rcases List.mem_cons.mp hy with rfl | hy
      · exact ⟨c, by simp, hx⟩
      · obtain ⟨z, hz, e⟩ := r3 y hy
        exact ⟨z, by simp [hz], e⟩
    · show compGo [.deck] .sign (bAll []) _ ri (T.str [c] :: t.map fun c => T.str [c]) d = _
      unfold compGo
      rw [show (bAll [] : B) (inner [.deck] .sign (.str [c]) ri) d = some (true, d) from rfl]
      dsimp only
      rw [el]
      dsimp only
      rw [e2]
      rfl
theorem cased_ev {b : Nat} {t : List Nat} (ht : ∀ c ∈ t, c = 120 ∨ c = 112) (hl : t.length ≤ 10) (h : DkB d b) (hb : b + 10 ≤ 1000) : ∃ (t' : List Nat) (d' : Dk), fd f t' = fd f t ∧ (∀ x ∈ t', ∃ c ∈ t, x = c ∨ x = up1 c) ∧ DkB d' (b + t.length) ∧
    sp_law_cased [.deck, .str t, .bool f] d = some (.str t', d') := by
  let r0 : Rho := upd (upd (upd (fun _ => none) .is_folding (.val (.bool f))) .text (.val (.str t))) .deck (.val .deck)
  have dk : r0 .deck = some (.val .deck) := rfl
  have tk : r0 .text = some (.val (.str t)) := rfl
  have fk : r0 .is_folding = some (.val (.bool f)) := rfl
  cases f with
  | false =>
    refine ⟨t, d, rfl, fun x hx => ⟨x, hx, .inl rfl⟩, h.mono (by omega), ?_⟩
    refine fnGo_of (r := r0) rfl ⟨r0, ?_⟩
    unfold f_law_cased
    exact seqs_ret ((sIf_t (d1 := d) (bNot_ev (bOf_ev (xVar_ev fk) rfl))).trans (seqs_ret (sRetVar_ev tk)))
  | true =>
    obtain ⟨t', d', ⟨r1, r2, r3⟩, h2, e2⟩ := cased_comp dk t d b ht h (by omega)
    refine ⟨t', d', r2, r3, h2, ?_⟩
    refine fnGo_of (r := r0) rfl ⟨r0, ?_⟩
    unfold f_law_cased
    rw [seqs_next ((sIf_f (d1 := d) (bNot_ev (bOf_ev (xVar_ev fk) rfl))).trans seqs_nil)]
    exact seqs_ret (sRet_ev (x2_ev xC_ev (xComp_ev (xVar_ev tk) rfl (by have := szL_eq; simp; omega) e2) (join_ev (by omega))))
end Mine
end

section
set_option linter.unusedSimpArgs false
set_option linter.unusedVariables false
namespace Mine
variable {f lead : Bool} {r : Rho} {d : Dk} {first last : List Nat}

noncomputable def md1 : SX := sOwn .row [(xCall sp_law_signs [(xVar .deck), (xIte (bOf (xVar .has_lead)) (xCall sp_law_draw [(xVar .deck), (xC (.int 3))]) (xC (.int 0)))]), (xCall sp_law_cased [(xVar .deck), (xVar .first), (xVar .is_folding)])]
noncomputable def md2 : SX := sApp .row (xCall sp_law_signs [(xVar .deck), (xCall sp_law_draw [(xVar .deck), (xC (.int 4))])])
noncomputable def md3 : SX := sIf (bCmp .ne (xPeek .last) (xC (.str []))) (seqs [(sFrz .row (sAsg .row (x2 tAdd (xVar .row) (xList [(xCall sp_law_cased [(xVar .deck), (xVar .last), (xVar .is_folding)]), (xCall sp_law_signs [(xVar .deck), (xCall sp_law_draw [(xVar .deck), (xC (.int 3))])])]))))]) (seqs [])
noncomputable def md4 : SX := sFrz .row (sApp .rows (xVar .row))
noncomputable def md0 : SX := sMultiR [.rows, .many] [(.lst []), (.v (x2 tAdd (xC (.int 1)) (xCall sp_law_draw [(xVar .deck), (xC (.int 4))])))]
noncomputable def mdB : SX := seqs [md1, md2, md3, md4]
theorem f_law_made_eq : f_law_made = seqs [md0, sFor .nth (x1 tRange1 (xVar .many)) mdB, sRetVar .rows] := rfl
theorem frz_own {x : N} {l : List T} (h : r x = some (.own (.list l))) : frz r x = upd r x (.val (.list l)) := by unfold frz; rw [h]
theorem frz_val {x : N} {t : T} (h : r x = some (.val t)) : frz r x = r := by unfold frz; rw [h]

structure MdR (f lead : Bool) (first last : List Nat) (r : Rho) : Prop where
  dk : r .deck = some (.val .deck)
  fo : r .is_folding = some (.val (.bool f))
  le : r .has_lead = some (.val (.bool lead))
  fi : r .first = some (.val (.str first))
  la : r .last = some (.val (.str last))
theorem MdR.of (R : MdR f lead first last r) {r' : Rho} (h : ∀ y, y ≠ .row → y ≠ .rows → y ≠ .nth → r' y = r y) : MdR f lead first last r' :=
  ⟨(h _ (by decide) (by decide) (by decide)).trans R.dk, (h _ (by decide) (by decide) (by decide)).trans R.fo, (h _ (by decide) (by decide) (by decide)).trans R.le, (h _ (by decide) (by decide) (by decide)).trans R.fi, (h _ (by decide) (by decide) (by decide)).trans R.la⟩
structure WOk (f lead : Bool) (first last : List Nat) (w : LW) : Prop where
  l : Gap w.l ∧ w.l.length ≤ 4 ∧ (lead = false → w.l = [])
  c : fd f w.c = fd f first ∧ (∀ x ∈ w.c, x = 120 ∨ x = 88)
  g : Gap w.g ∧ w.g.length ≤ 4
  v : fd f w.v = fd f last ∧ (∀ x ∈ w.v, x = 112 ∨ x = 80)
  e : Gap w.e ∧ w.e.length ≤ 4
theorem raise_x {c x : Nat} (h : x = c ∨ x = up1 c) (hc : c = 120) : x = 120 ∨ x = 88 := by
  subst hc
  rcases h with q | q
  · exact .inl q
  · exact .inr q
theorem raise_p {c x : Nat} (h : x = c ∨ x = up1 c) (hc : c = 112) : x = 112 ∨ x = 80 := by
  subst hc
  rcases h with q | q
  · exact .inl q
  · exact .inr q
theorem md_turn {b : Nat} (R : MdR f lead first last r) (hfx : ∀ x ∈ first, x = 120) (hlx : ∀ x ∈ last, x = 112) (hf2 : first.length ≤ 2) (hl2 : last.length ≤ 2) (h : DkB d b) (hb : b + 40 ≤ 1000) {pre : List T} (hr : r .rows = some (.own (.list pre))) (hpre : pre.length ≤ 100) :
    ∃ (w : LW) (d' : Dk) (r' : Rho), WOk f lead first last w ∧ DkB d' (b + 20) ∧ mdB r d = some (.next, r', d') ∧ r' .rows = some (.own (.list (pre ++ [rowL (partsL (hasL last) w)]))) ∧ ∀ y, y ≠ .row → y ≠ .rows → r' y = r y := by
  -- the lead
  have lead_ev : ∃ (l : List Nat) (d1 : Dk), Gap l ∧ l.length ≤ 4 ∧ (lead = false → l = []) ∧ DkB d1 (b + 4) ∧ (xCall sp_law_signs [(xVar .deck), (xIte (bOf (xVar .has_lead)) (xCall sp_law_draw [(xVar .deck), (xC (.int 3))]) (xC (.int 0)))]) r d = some (.str l, d1) := by
    cases lead with
    | true =>
      obtain ⟨v, d1, hv, h1, e1⟩ := draw_ev (k := 3) h (by omega) (by decide) (by decide)
      obtain ⟨cs, d2, hl, hg, h2, e2⟩ := signs_ev (m := v) h1 (by omega) (by omega)
      refine ⟨cs, d2, hg, by omega, (fun q => by cases q), h2.mono (by omega), ?_⟩
      exact xCall_ev (xs_cons (xVar_ev R.dk) (xs_cons ((xIte_t (d1 := d) (bOf_ev (xVar_ev R.le) rfl)).trans (xCall_ev (xs_cons (xVar_ev R.dk) (xs_cons xC_ev xs_nil)) e1)) xs_nil)) e2
    | false =>
      obtain ⟨cs, d2, hl, hg, h2, e2⟩ := signs_ev (m := 0) h (by omega) (by omega)
      refine ⟨cs, d2, hg, by omega, fun _ => List.eq_nil_of_length_eq_zero hl, h2.mono (by omega), ?_⟩
      exact xCall_ev (xs_cons (xVar_ev R.dk) (xs_cons ((xIte_f (d1 := d) (bOf_ev (xVar_ev R.le) rfl)).trans xC_ev) xs_nil)) e2
  obtain ⟨l, d1, hlg, hll, hl0, hd1, el⟩ := lead_ev
  obtain ⟨c, d2, hc1, hc2, hd2, ec⟩ := cased_ev (f := f) (t := first) (fun c hc => .inl (hfx c hc)) (by omega) hd1 (by omega)
  let r1 : Rho := upd r .row (.own (.list [.str l, .str c]))
  have e1 : md1 r d = some (.next, r1, d2) := by
    unfold md1 sOwn
    rw [xs_cons el (xs_cons (xCall_ev (xs_cons (xVar_ev R.dk) (xs_cons (xVar_ev R.fi) (xs_cons (xVar_ev R.fo) xs_nil))) ec) xs_nil)]
  have dk1 : r1 .deck = some (.val .deck) := R.dk
  have row1 : r1 .row = some (.own (.list [.str l, .str c])) := rfl
  obtain ⟨v4, d3, hv4, hd3, e4⟩ := draw_ev (k := 4) hd2 (by omega) (by decide) (by decide)
  obtain ⟨g, d4, hgl, hgg, hd4, eg⟩ := signs_ev (m := v4) hd3 (by omega) (by omega)
  let r2 : Rho := upd r1 .row (.own (.list [.str l, .str c, .str g]))
  have e2 : md2 r1 d2 = some (.next, r2, d4) := app_ev (xCall_ev (xs_cons (xVar_ev dk1) (xs_cons (xCall_ev (xs_cons (xVar_ev dk1) (xs_cons xC_ev xs_nil)) e4) xs_nil)) eg) row1 (by simp)
  have la2 : r2 .last = some (.val (.str last)) := R.la
  have c3 := bCmp_ev (d := d4) (xPeek_ev la2) (xC_ev (t := .str [])) (neS _ _)
  by_cases hl : last = []
  · -- short rows
    rw [decide_eq_false (by simpa using hl)] at c3
    have e3 : md3 r2 d4 = some (.next, r2, d4) := (sIf_f c3).trans seqs_nil
    have fz : frz r2 .row = upd r2 .row (.val (.list [.str l, .str c, .str g])) := frz_own rfl
    have row3 : (upd r2 .row (.val (.list [.str l, .str c, .str g]))) .row = some (.val (.list [.str l, .str c, .str g])) := rfl
    have rows3 : (upd r2 .row (.val (.list [.str l, .str c, .str g]))) .rows = some (.own (.list pre)) := hr
    have e5 := app_ev (d := d4) (x := .rows) (xVar_ev row3) rows3 (by omega)
    have e4' : md4 r2 d4 = some (.next, upd (upd r2 .row (.val (.list [.str l, .str c, .str g]))) .rows (.own (.list (pre ++ [.list [.str l, .str c, .str g]]))), d4) := by
      show sApp .rows (xVar .row) (frz r2 .row) d4 = _
      rw [fz]; exact e5
    refine ⟨⟨l, c, g, [], []⟩, d4, _, ⟨⟨hlg, hll, hl0⟩, ⟨hc1, fun x hx => ?_⟩, ⟨hgg, show g.length ≤ 4 by omega⟩, ⟨(by rw [hl]), (fun x hx => by cases hx)⟩, ⟨(fun x hx => by cases hx), (by simp)⟩⟩, hd4.mono (by omega), (seqs_next e1).trans ((seqs_next e2).trans ((seqs_next e3).trans ((seqs_next e4').trans seqs_nil))), ?_, fun y h1 h2 => ?_⟩
    · obtain ⟨z, hz, e⟩ := hc2 x hx
      exact raise_x e (hfx z hz)
    · rw [upd_same]
      have : hasL last = false := decide_eq_false (by simpa using hl)
      rw [this]; rfl
    · exact (upd_ne _ _ h2).trans ((upd_ne _ _ h1).trans ((upd_ne _ _ h1).trans (upd_ne _ _ h1)))
  · rw [decide_eq_true hl] at c3
    let r3 : Rho := upd r2 .row (.val (.list [.str l, .str c, .str g]))
    have dk3 : r3 .deck = some (.val .deck) := R.dk
    have la3 : r3 .last = some (.val (.str last)) := R.la
    have fo3 : r3 .is_folding = some (.val (.bool f)) := R.fo
    have row3 : r3 .row = some (.val (.list [.str l, .str c, .str g])) := rfl
    obtain ⟨v, d5, hv1, hv2, hd5, ev⟩ := cased_ev (f := f) (t := last) (fun c hc => .inr (hlx c hc)) (by omega) hd4 (by omega)
    obtain ⟨v3, d6, hv3, hd6, e6⟩ := draw_ev (k := 3) hd5 (by omega) (by decide) (by decide)
    obtain ⟨e, d7, hel, heg, hd7, ee⟩ := signs_ev (m := v3) hd6 (by omega) (by omega)
    let r4 : Rho := upd r3 .row (.val (.list [.str l, .str c, .str g, .str v, .str e]))
    have e3 : md3 r2 d4 = some (.next, r4, d7) := by
      refine (sIf_t c3).trans ((seqs_next ?_).trans seqs_nil)
      show sAsg .row _ (frz r2 .row) d4 = _
      rw [show frz r2 .row = r3 from frz_own rfl]
      exact sAsg_ev (x2_ev (xVar_ev row3) (xList_ev (xs_cons (xCall_ev (xs_cons (xVar_ev dk3) (xs_cons (xVar_ev la3) (xs_cons (xVar_ev fo3) xs_nil))) ev) (xs_cons (xCall_ev (xs_cons (xVar_ev dk3) (xs_cons (xCall_ev (xs_cons (xVar_ev dk3) (xs_cons xC_ev xs_nil)) e6) xs_nil)) ee) xs_nil))) (tAdd_list _ _ (by simp)))
    have row4 : r4 .row = some (.val (.list [.str l, .str c, .str g, .str v, .str e])) := rfl
    have rows4 : r4 .rows = some (.own (.list pre)) := hr
    have e5 := app_ev (d := d7) (x := .rows) (xVar_ev row4) rows4 (by omega)
    have e4' : md4 r4 d7 = some (.next, upd r4 .rows (.own (.list (pre ++ [.list [.str l, .str c, .str g, .str v, .str e]]))), d7) := by
      show sApp .rows (xVar .row) (frz r4 .row) d7 = _
      rw [show frz r4 .row = r4 from frz_val row4]; exact e5
    refine ⟨⟨l, c, g, v, e⟩, d7, _, ⟨⟨hlg, hll, hl0⟩, ⟨hc1, fun x hx => ?_⟩, ⟨hgg, show g.length ≤ 4 by omega⟩, ⟨hv1, fun x hx => ?_⟩, ⟨heg, show e.length ≤ 4 by omega⟩⟩, hd7.mono (by omega), (seqs_next e1).trans ((seqs_next e2).trans ((seqs_next e3).trans ((seqs_next e4').trans seqs_nil))), ?_, fun y h1 h2 => ?_⟩
    · obtain ⟨z, hz, e⟩ := hc2 x hx
      exact raise_x e (hfx z hz)
    · obtain ⟨z, hz, e⟩ := hv2 x hx
      exact raise_p e (hlx z hz)
    · rw [upd_same]
      have : hasL last = true := decide_eq_true hl
      rw [this]; rfl
    · exact (upd_ne _ _ h2).trans ((upd_ne _ _ h1).trans ((upd_ne _ _ h1).trans ((upd_ne _ _ h1).trans (upd_ne _ _ h1))))
theorem md_loop (hfx : ∀ x ∈ first, x = 120) (hlx : ∀ x ∈ last, x = 112) (hf2 : first.length ≤ 2) (hl2 : last.length ≤ 2) : ∀ (l : List T) (b : Nat) (ws : List LW) (r : Rho) (d : Dk), MdR f lead first last r → DkB d b → b + 20 * l.length + 40 ≤ 1000 → (∀ w ∈ ws, WOk f lead first last w) →
    r .rows = some (.own (.list ((ws.map (partsL (hasL last))).map rowL))) → ws.length + l.length ≤ 50 → ∃ (ws' : List LW) (r' : Rho) (d' : Dk), (∀ w ∈ ws', WOk f lead first last w) ∧ ws'.length = ws.length + l.length ∧ DkB d' (b + 20 * l.length) ∧ forGo .nth mdB l r d = some (.next, r', d') ∧
      r' .rows = some (.own (.list ((ws'.map (partsL (hasL last))).map rowL)))
  | [], b, ws, r, d, R, h, hb, hw, hr, hn => ⟨ws, r, d, hw, rfl, h, rfl, hr⟩
  | t :: l, b, ws, r, d, R, h, hb, hw, hr, hn => by
    simp only [List.length_cons] at hb hn
    have R1 : MdR f lead first last (upd r .nth (.val t)) := R.of fun y h1 h2 h3 => upd_ne _ _ h3
    obtain ⟨w, d1, r1, hw1, h1, e1, hr1, k1⟩ := md_turn R1 hfx hlx hf2 hl2 h (by omega) (pre := (ws.map (partsL (hasL last))).map rowL) hr (by simp; omega)
    have R2 : MdR f lead first last r1 := R1.of fun y h1 h2 h3 => k1 y h1 h2
    obtain ⟨ws', r2, d2, a1, a2, a3, a4, a5⟩ := md_loop hfx hlx hf2 hl2 l (b + 20) (ws ++ [w]) r1 d1 R2 h1 (by omega) (fun x hx => by
      rcases List.mem_append.mp hx with q | q
      · exact hw x q
      · simp only [List.mem_singleton] at q; subst q; exact hw1) (by rw [hr1]; simp) (by simp; omega)
    exact ⟨ws', r2, d2, a1, by simp at a2 ⊢; omega, a3.mono (by simp; omega), (forGo_next e1).trans a4, a5⟩
theorem made_ev {b : Nat} (hfx : ∀ x ∈ first, x = 120) (hlx : ∀ x ∈ last, x = 112) (hf1 : 0 < first.length) (hf2 : first.length ≤ 2) (hl2 : last.length ≤ 2) (h : DkB d b) (hb : b ≤ 100) :
    ∃ (ws : List LW) (d' : Dk), Made f lead first last ws ∧ sp_law_made [.deck, .bool f, .bool lead, .str first, .str last] d = some (.list ((ws.map (partsL (hasL last))).map rowL), d') := by
  let r0 : Rho := upd (upd (upd (upd (upd (fun _ => none) .last (.val (.str last))) .first (.val (.str first))) .has_lead (.val (.bool lead))) .is_folding (.val (.bool f))) .deck (.val .deck)
  have dk0 : r0 .deck = some (.val .deck) := rfl
  obtain ⟨v, d1, hv, h1, e1⟩ := draw_ev (k := 4) h (by omega) (by decide) (by decide)
  let r1 : Rho := upd (upd r0 .many (.val (.int (1 + (v : Int))))) .rows (.own (.list []))
  have s0 : md0 r0 d = some (.next, r1, d1) := by
    have ex : (x2 tAdd (xC (.int 1)) (xCall sp_law_draw [(xVar .deck), (xC (.int 4))])) r0 d = some (.int (1 + (v : Int)), d1) := x2_ev xC_ev (xCall_ev (xs_cons (xVar_ev dk0) (xs_cons xC_ev xs_nil)) e1) rfl
    have er : rhss [(.lst []), (.v (x2 tAdd (xC (.int 1)) (xCall sp_law_draw [(xVar .deck), (xC (.int 4))])))] r0 d = some ([.own (.list []), .val (.int (1 + (v : Int)))], d1) := by
      show (match rhss [(.v (x2 tAdd (xC (.int 1)) (xCall sp_law_draw [(xVar .deck), (xC (.int 4))])))] r0 d with | some (as, d2) => some (Ent.own (.list []) :: as, d2) | none => none) = _
      have : rhss [(.v (x2 tAdd (xC (.int 1)) (xCall sp_law_draw [(xVar .deck), (xC (.int 4))])))] r0 d = some ([.val (.int (1 + (v : Int)))], d1) := by
        show (match (match (x2 tAdd (xC (.int 1)) (xCall sp_law_draw [(xVar .deck), (xC (.int 4))])) r0 d with | some (t, d1) => some (Ent.val t, d1) | none => none) with | some (a, d1) => (match rhss [] r0 d1 with | some (as, d2) => some (a :: as, d2) | none => none) | none => none) = _
        rw [ex]; rfl
      rw [this]
    unfold md0 sMultiR
    rw [er]; rfl
  have many1 : r1 .many = some (.val (.int (1 + (v : Int)))) := rfl
  have f1 : fitI (1 + (v : Int)) = true := fitI_small (by omega) (by omega)
  have hn : (((1 : Int) + v) - 0).toNat = v + 1 := by omega
  obtain ⟨ws, r2, d2, a1, a2, a3, a4, a5⟩ := md_loop (f := f) (lead := lead) hfx hlx hf2 hl2 ((List.range (v + 1)).map fun (k : Nat) => T.int ((0 : Int) + (k : Int))) (b + 1) [] r1 d1 ⟨rfl, rfl, rfl, rfl, rfl⟩ h1 (by simp; omega) (by simp) rfl (by simp; omega)
  simp only [List.length_map, List.length_range, List.length_nil] at a2
  refine ⟨ws, d2, ⟨?_, by omega, hfx, ⟨hf1, hf2⟩, hlx, hl2, fun w hw => (a1 w hw).l, fun w hw => (a1 w hw).c, fun w hw => (a1 w hw).g, fun w hw => (a1 w hw).v, fun w hw => (a1 w hw).e⟩, ?_⟩
  · intro e; rw [e] at a2; simp at a2
  · refine fnGo_of (r := r0) rfl ⟨r2, ?_⟩
    rw [f_law_made_eq, seqs_next s0]
    have s3 := sFor_ev (x := .nth) (a := mdB) (x1_ev (xVar_ev (d := d1) many1) (tRange1_ok _ f1 (by have := szL_eq; omega))) rfl (by have := szL_eq; simp; omega)
    rw [hn, a4] at s3
    rw [seqs_next s3]
    refine seqs_ret ?_
    unfold sRetVar; rw [a5]
end Mine
end

section
set_option linter.unusedSimpArgs false
set_option linter.unusedVariables false
namespace Mine
noncomputable def lw1 : SX := (sAsg .style (x2 tIdx (xList [(xC (.str [98, 97, 115, 105, 99])), (xC (.str [115, 117, 98, 115, 116, 114, 105, 110, 103]))]) (xCall sp_law_draw [(xVar .deck), (xC (.int 2))])))
noncomputable def lw2 : SX := (sMulti [.is_folding, .has_lead] [(.v (xB (bCmp .eq (xCall sp_law_draw [(xVar .deck), (xC (.int 2))]) (xC (.int 1))))), (.v (xB (bCmp .eq (xPeek .style) (xC (.str [115, 117, 98, 115, 116, 114, 105, 110, 103])))))])
noncomputable def lw3 : SX := (sMulti [.first, .last] [(.v (x2 tMul (xC (.str [120])) (x2 tAdd (xC (.int 1)) (xCall sp_law_draw [(xVar .deck), (xC (.int 2))])))), (.v (x2 tIdx (xList [(xC (.str [112])), (xC (.str [112, 112])), (xC (.str []))]) (xCall sp_law_draw [(xVar .deck), (xC (.int 3))])))])
noncomputable def lw4 : SX := (sAsg .rows (xCall sp_law_made [(xVar .deck), (xVar .is_folding), (xVar .has_lead), (xVar .first), (xVar .last)]))
noncomputable def lw5 : SX := (sAsg .texts (xComp [] (x2 tJoin (xC (.str [])) (xVar .row)) .row (xVar .rows) (bAll [])))
noncomputable def lw6 : SX := (sAsg .pattern (xCall sp_pattern_of [(xVar .style), (x2 tAdd (xVar .first) (xVar .last)), (x1 tLen (xVar .first))]))
noncomputable def lw7 : SX := (sAsg .lain (xComp [.pattern, .is_folding] (xCall sp_fit_of [(xVar .pattern), (xVar .own), (xVar .is_folding)]) .own (xVar .texts) (bAll [])))
noncomputable def lw8 : SX := (sIf (bCmp .ne (xComp [] (xVar .own) .own (xVar .lain) (bNot (bOf (xVar .own)))) (xList [])) (seqs [(sRet (xC (.bool false)))]) (seqs []))
noncomputable def lw9 : SX := (sAsg .begin_ (xIte (bOf (xVar .has_lead)) (xC (.int 0)) (xC (.int 1))))
noncomputable def lw10 : SX := (sIf (bCmp .ne (x1 tLen (xVar .pattern)) (x2 tSub (x1 tLen (x2 tIdx (xPeek .rows) (xC (.int 0)))) (xVar .begin_))) (seqs [(sRet (xC (.bool false)))]) (seqs []))
noncomputable def lw11 : SX := (sFor .index (x1 tRange1 (x1 tLen (xVar .pattern))) (seqs [(sIf (bCmp .ne (xCall sp_gap_texts [(xVar .pattern), (xVar .lain), (xVar .texts), (xVar .index)]) (xComp [.index, .begin_] (x2 tIdx (xPeek .row) (x2 tAdd (xVar .index) (xVar .begin_))) .row (xVar .rows) (bAll []))) (seqs [(sRet (xC (.bool false)))]) (seqs []))]))
noncomputable def lw12 : SX := (sAsg .due (xCall sp_law_common [(xVar .rows), (xVar .is_folding)]))
noncomputable def lw13 : SX := (sAsg .found (xCall sp_merged [(xVar .pattern), (xVar .texts), (xVar .is_folding)]))
noncomputable def lw14 : SX := (sIf (bCmp .ne (xTup [(x1 (tAttr .text) (xVar .found)), (x1 (tAttr .point) (xVar .found))]) (xPeek .due)) (seqs [(sRet (xC (.bool false)))]) (seqs []))
noncomputable def lw15 : SX := (sAsg .reply (xCall sp_completed [(xList [(xVar .style)]), (x2 tAdd (xVar .first) (xVar .last)), (x1 tLen (xVar .first)), (xVar .texts), (xVar .is_folding)]))
noncomputable def lw16 : SX := (sIf (bCmp .eq (xComp [.first, .last] (xVar .own) .own (xVar .texts) (bCmp .ne (xPeek .own) (x2 tAdd (xVar .first) (xVar .last)))) (xList [])) (seqs [(sRet (xB (bCmp .eq (x1 tRepr (xVar .reply)) (xC (.str [84, 114, 117, 101])))))]) (seqs []))
noncomputable def lw17 : SX := (sIf (bAny [(bCmp .ne (xTup [(x1 (tAttr .text) (xVar .reply)), (x1 (tAttr .point) (xVar .reply))]) (xPeek .due)), (bOf (xVar .has_lead))]) (seqs [(sRet (xB (bCmp .eq (xTup [(x1 (tAttr .text) (xVar .reply)), (x1 (tAttr .point) (xVar .reply))]) (xPeek .due))))]) (seqs []))
noncomputable def lw18 : SX := (sAsg .later_reply (xCall sp_completed [(xList [(xC (.str [102, 108, 101, 120, 45, 108, 101, 115, 115])), (xC (.str [98, 97, 115, 105, 99]))]), (x1 (tAttr .text) (xVar .reply)), (x1 (tAttr .point) (xVar .reply)), (xVar .texts), (xVar .is_folding)]))
noncomputable def lw19 : SX := (sIf (bCmp .eq (xComp [.reply] (xVar .own) .own (xVar .texts) (bCmp .ne (xPeek .own) (x1 (tAttr .text) (xVar .reply)))) (xList [])) (seqs [(sRet (xB (bCmp .eq (x1 tRepr (xVar .later_reply)) (xC (.str [84, 114, 117, 101])))))]) (seqs []))
noncomputable def lw20 : SX := (sRet (xB (bCmp .eq (xTup [(x1 (tAttr .text) (xVar .later_reply)), (x1 (tAttr .point) (xVar .later_reply))]) (xPeek .due))))
theorem f_law_eq : f_law = seqs [lw1, lw2, lw3, lw4, lw5, lw6, lw7, lw8, lw9, lw10, lw11, lw12, lw13, lw14, lw15, lw16, lw17, lw18, lw19, lw20] := rfl

variable {f lead : Bool} {r : Rho} {d : Dk} {first last : List Nat}

theorem plains_strs : ∀ {ss : List (List Nat)}, (∀ s ∈ ss, ∀ c ∈ s, c < 128) → plains (ss.map T.str) = some (ss.map P.str)
  | [], _ => rfl
  | s :: ss, h => by
    have ih := plains_strs (ss := ss) fun s' hs => h s' (List.mem_cons_of_mem _ hs)
    show (match tPlain (.str s), plains (ss.map T.str) with | some p, some ps => some (p :: ps) | _, _ => none) = _
    rw [ih]
    have : tPlain (.str s) = some (.str s) := if_pos (asc_of (h s (by simp)))
    rw [this]; rfl
theorem tEq_strs {ss : List (List Nat)} (h : ∀ s ∈ ss, ∀ c ∈ s, c < 128) (hl : ss.length ≤ 1000) : tEq (.list (ss.map .str)) (.list (ss.map .str)) = some true := by
  have hp := plains_strs h
  cases ss with
  | nil => rfl
  | cons s ss =>
    show (match plains ((s :: ss).map T.str), plains ((s :: ss).map T.str) with | some a, some b => if ((s :: ss).map T.str).length ≤ 1000 ∧ ((s :: ss).map T.str).length ≤ 1000 then some (decide (a = b)) else none | _, _ => none) = _
    rw [hp]
    dsimp only
    rw [if_pos ⟨by simpa using hl, by simpa using hl⟩, decide_eq_true rfl]
theorem tEq_pair {a : List Nat} (h : ∀ c ∈ a, c < 128) (p : Int) : tEq (.tup [.str a, .int p]) (.tup [.str a, .int p]) = some true := by
  have hp : plains [.str a, .int p] = some [.str a, .int p] := by
    show (match tPlain (.str a), plains [.int p] with | some p, some ps => some (p :: ps) | _, _ => none) = _
    have : tPlain (.str a) = some (.str a) := if_pos (asc_of h)
    rw [this]; rfl
  show (match plains [.str a, .int p], plains [.str a, .int p] with | some x, some y => if [T.str a, T.int p].length ≤ 1000 ∧ [T.str a, T.int p].length ≤ 1000 then some (decide (x = y)) else none | _, _ => none) = _
  rw [hp]
  dsimp only
  rw [if_pos ⟨by simp, by simp⟩, decide_eq_true rfl]
theorem ne_of_eq {a b : T} {c : Bool} (h : tEq a b = some c) : tCmp .ne a b = some (!c) := by
  show (tEq a b).map (!·) = _
  rw [h]; rfl
theorem eq_of_eq {a b : T} {c : Bool} (h : tEq a b = some c) : tCmp .eq a b = some c := h
theorem join_row {ro : Row} (hl : ro.length ≤ 100) (h : ∀ s ∈ ro, s.length ≤ 100) : tJoin (.str []) (rowL ro) = some (rowS ro) := by
  have e3 : tStrs (ro.map T.str) = some ro := tStrs_map ro
  show tJoin (.str []) (.list (ro.map T.str)) = _
  simp only [tJoin, e3]
  have hi : ∀ l : List (List Nat), (l.intersperse []).flatten = l.flatten := fun l => by
    induction l with
    | nil => rfl
    | cons a l ih =>
      cases l with
      | nil => rfl
      | cons b l => simp only [List.intersperse_cons_cons, List.flatten_cons, List.nil_append] at ih ⊢; rw [ih]
  rw [if_pos ⟨by decide, by omega, by simpa using fun s hs => Nat.le_trans (h s hs) (by decide)⟩, hi]
  rfl
noncomputable def xs120 (n : Nat) : List Nat := List.replicate n 120
theorem mulS (n : Nat) (h : n ≤ 60) : tMul (.str [120]) (.int (n : Int)) = some (.str (xs120 n)) := by
  show (if 0 ≤ (n : Int) ∧ (n : Int) ≤ 64 ∧ ([120] : List Nat).length ≤ 64 then some (T.str (List.flatten (List.replicate (n : Int).toNat [120]))) else none) = _
  rw [if_pos ⟨by omega, by omega, by decide⟩]
  congr 2
  unfold xs120
  rw [Int.toNat_natCast]
  induction n with
  | zero => rfl
  | succ n ih => rw [List.replicate_succ, List.replicate_succ, List.flatten_cons, ih (by omega)]; rfl

/-- the first statements: the draws -/
structure L3 (f lead : Bool) (first last : List Nat) (r : Rho) : Prop where
  dk : r .deck = some (.val .deck)
  st : r .style = some (.val (.str (if lead then subS else basicS)))
  fo : r .is_folding = some (.val (.bool f))
  le : r .has_lead = some (.val (.bool lead))
  fi : r .first = some (.val (.str first))
  la : r .last = some (.val (.str last))
theorem law_start (hd : r .deck = some (.val .deck)) (h : DkB d 0) (rest : List SX) : ∃ (f lead : Bool) (first last : List Nat) (r' : Rho) (d' : Dk), L3 f lead first last r' ∧ (∀ x ∈ first, x = 120) ∧ (0 < first.length ∧ first.length ≤ 2) ∧ (∀ x ∈ last, x = 112) ∧ last.length ≤ 2 ∧ DkB d' 4 ∧
    seqs (lw1 :: lw2 :: lw3 :: rest) r d = seqs rest r' d' := by
  obtain ⟨v1, d1, hv1, h1, e1⟩ := draw_ev (k := 2) h (by omega) (by decide) (by decide)
  have hst : ∃ lead : Bool, ([T.str basicS, T.str subS])[v1]? = some (.str (if lead then subS else basicS)) := by
    match v1, hv1 with
    | 0, _ => exact ⟨false, rfl⟩
    | 1, _ => exact ⟨true, rfl⟩
  obtain ⟨lead, hst⟩ := hst
  let r1 : Rho := upd r .style (.val (.str (if lead then subS else basicS)))
  have s1 : lw1 r d = some (.next, r1, d1) := sAsg_ev (x2_ev (xList_ev (xs_cons xC_ev (xs_cons xC_ev xs_nil))) (xCall_ev (xs_cons (xVar_ev hd) (xs_cons xC_ev xs_nil)) e1) (tIdx_list_ok _ v1 (by omega) _ hst))
  have dk1 : r1 .deck = some (.val .deck) := hd
  have st1 : r1 .style = some (.val (.str (if lead then subS else basicS))) := rfl
  obtain ⟨v2, d2, hv2, h2, e2⟩ := draw_ev (k := 2) h1 (by omega) (by decide) (by decide)
  let f : Bool := decide ((v2 : Int) = 1)
  let r2 : Rho := upd (upd r1 .is_folding (.val (.bool f))) .has_lead (.val (.bool lead))
  have x1 : (xB (bCmp .eq (xCall sp_law_draw [(xVar .deck), (xC (.int 2))]) (xC (.int 1)))) r1 d1 = some (.bool f, d2) := xB_ev (bCmp_ev (xCall_ev (xs_cons (xVar_ev dk1) (xs_cons xC_ev xs_nil)) e2) xC_ev (eqI _ _))
  have x2' : (xB (bCmp .eq (xPeek .style) (xC (.str [115, 117, 98, 115, 116, 114, 105, 110, 103])))) r1 d2 = some (.bool lead, d2) := by
    refine xB_ev (bCmp_ev (xPeek_ev st1) xC_ev ?_)
    rw [eqS]; cases lead <;> decide
  have s2 : lw2 r1 d1 = some (.next, r2, d2) := by
    have er : rhss [(.v (xB (bCmp .eq (xCall sp_law_draw [(xVar .deck), (xC (.int 2))]) (xC (.int 1))))), (.v (xB (bCmp .eq (xPeek .style) (xC (.str [115, 117, 98, 115, 116, 114, 105, 110, 103])))))] r1 d1 = some ([.val (.bool f), .val (.bool lead)], d2) := by
      simp only [rhss, rhs1, x1, x2']
    unfold lw2 sMulti
    rw [er]; rfl
  have dk2 : r2 .deck = some (.val .deck) := hd
  obtain ⟨v3, d3, hv3, h3, e3⟩ := draw_ev (k := 2) h2 (by omega) (by decide) (by decide)
  obtain ⟨v4, d4, hv4, h4, e4⟩ := draw_ev (k := 3) h3 (by omega) (by decide) (by decide)
  have hla : ∃ last : List Nat, ([T.str [112], T.str [112, 112], T.str []])[v4]? = some (.str last) ∧ (∀ x ∈ last, x = 112) ∧ last.length ≤ 2 := by
    match v4, hv4 with
    | 0, _ => exact ⟨[112], rfl, by simp, by simp⟩
    | 1, _ => exact ⟨[112, 112], rfl, by simp, by simp⟩
    | 2, _ => exact ⟨[], rfl, by simp, by simp⟩
  obtain ⟨last, hla, hl1, hl2⟩ := hla
  let r3 : Rho := upd (upd r2 .first (.val (.str (xs120 (1 + v3))))) .last (.val (.str last))
  have y1 : (x2 tMul (xC (.str [120])) (x2 tAdd (xC (.int 1)) (xCall sp_law_draw [(xVar .deck), (xC (.int 2))]))) r2 d2 = some (.str (xs120 (1 + v3)), d3) := by
    refine x2_ev xC_ev (x2_ev (c := .int (((1 + v3 : Nat)) : Int)) xC_ev (xCall_ev (xs_cons (xVar_ev dk2) (xs_cons xC_ev xs_nil)) e3) ?_) (mulS _ (by omega))
    show some (T.int (1 + (v3 : Int))) = _
    rw [show (1 : Int) + (v3 : Int) = ((1 + v3 : Nat) : Int) by omega]
  have y2 : (x2 tIdx (xList [(xC (.str [112])), (xC (.str [112, 112])), (xC (.str []))]) (xCall sp_law_draw [(xVar .deck), (xC (.int 3))])) r2 d3 = some (.str last, d4) :=
    x2_ev (xList_ev (xs_cons xC_ev (xs_cons xC_ev (xs_cons xC_ev xs_nil)))) (xCall_ev (xs_cons (xVar_ev dk2) (xs_cons xC_ev xs_nil)) e4) (tIdx_list_ok _ v4 (by omega) _ hla)
  have s3 : lw3 r2 d2 = some (.next, r3, d4) := by
    have er : rhss [(.v (x2 tMul (xC (.str [120])) (x2 tAdd (xC (.int 1)) (xCall sp_law_draw [(xVar .deck), (xC (.int 2))])))), (.v (x2 tIdx (xList [(xC (.str [112])), (xC (.str [112, 112])), (xC (.str []))]) (xCall sp_law_draw [(xVar .deck), (xC (.int 3))])))] r2 d2 = some ([.val (.str (xs120 (1 + v3))), .val (.str last)], d4) := by
      simp only [rhss, rhs1, y1, y2]
    unfold lw3 sMulti
    rw [er]; rfl
  refine ⟨f, lead, xs120 (1 + v3), last, r3, d4, ⟨hd, rfl, rfl, rfl, rfl, rfl⟩, fun x hx => List.eq_of_mem_replicate hx, ⟨by rw [xs120, List.length_replicate]; omega, by rw [xs120, List.length_replicate]; omega⟩, hl1, hl2, h4, ?_⟩
  rw [seqs_next s1, seqs_next s2, seqs_next s3]
end Mine
end

section
set_option linter.unusedSimpArgs false
set_option linter.unusedVariables false
namespace Mine
variable {f lead : Bool} {r : Rho} {d : Dk} {first last : List Nat} {ws : List LW} {P : List T} {R : List Row}

/-- everything that the law has made -/
structure L5 (f lead : Bool) (first last : List Nat) (ws : List LW) (R : List Row) (r : Rho) : Prop extends L3 f lead first last r where
  ro : r .rows = some (.val (.list ((ws.map (partsL (hasL last))).map rowL)))
  te : r .texts = some (.val (.list (R.map rowS)))
theorem law_texts (M : Made f lead first last ws) (L : L3 f lead first last r) (hr : r .rows = some (.val (.list ((ws.map (partsL (hasL last))).map rowL)))) (hR : R.map rowS = (ws.map (partsL (hasL last))).map rowS) :
    lw5 r d = some (.next, upd r .texts (.val (.list (R.map rowS))), d) := by
  have A := lcOk_of M (hasL last)
  rw [hR]
  refine sAsg_ev (xComp_ev (xVar_ev hr) rfl (by have := szL_eq; have := M.few; simp; omega) (compGo_map' rowL rowS fun ro hro => ?_))
  refine x2_ev xC_ev (xVar_ev (t := rowL ro) (by simp [inner])) (join_row ?_ ?_)
  · rw [A.len ro hro]; cases hasL last <;> decide
  · intro s hs; have := (A.ok ro hro s hs).2; omega
theorem lw8_ev (A : AllFit f P R) (hl : r .lain = some (.val (.list (R.map rowF)))) : lw8 r d = some (.next, r, d) := by
  have hfew := A.few
  have c := some_ev (d := d) (fv := []) (x := .own) (y := .lain) (elt := xVar .own) (c := bNot (bOf (xVar .own))) rowF rowF (fun _ => false) hl (by omega) fun ro hro => ⟨bNot_ev (bOf_ev (xVar_ev (t := rowF ro) (by simp [inner])) rfl), xVar_ev (by simp [inner])⟩
  rw [show R.any (fun _ => false) = false from List.any_eq_false.mpr (by simp)] at c
  exact (sIf_f c).trans seqs_nil
noncomputable def lwB : SX := (seqs [(sIf (bCmp .ne (xCall sp_gap_texts [(xVar .pattern), (xVar .lain), (xVar .texts), (xVar .index)]) (xComp [.index, .begin_] (x2 tIdx (xPeek .row) (x2 tAdd (xVar .index) (xVar .begin_))) .row (xVar .rows) (bAll []))) (seqs [(sRet (xC (.bool false)))]) (seqs []))])
theorem lw11_eq : lw11 = sFor .index (x1 tRange1 (x1 tLen (xVar .pattern))) lwB := rfl
noncomputable def bg (lead : Bool) : Nat := if lead then 0 else 1
theorem lwB_ev (M : Made f lead first last ws) (C : Core f lead first last ws P R) {i : Nat} (hi : i < P.length) (h1 : r .pattern = some (.val (.list P))) (h2 : r .lain = some (.val (.list (R.map rowF)))) (h3 : r .texts = some (.val (.list (R.map rowS)))) (h4 : r .index = some (.val (.int i)))
    (h5 : r .begin_ = some (.val (.int (bg lead)))) (h6 : r .rows = some (.val (.list ((ws.map (partsL (hasL last))).map rowL)))) : lwB r d = some (.next, r, d) := by
  have A := lcOk_of M (hasL last)
  have hsh := C.fit.short
  have hlen : P.length + bg lead = cnt (hasL last) := by
    have := C.len
    unfold bg
    cases lead <;> simp at this ⊢ <;> omega
  have e1 : (xCall sp_gap_texts [(xVar .pattern), (xVar .lain), (xVar .texts), (xVar .index)]) r d = some (strsT (col R i), d) := xCall_ev (xs_cons (xVar_ev h1) (xs_cons (xVar_ev h2) (xs_cons (xVar_ev h3) (xs_cons (xVar_ev h4) xs_nil)))) (gap_texts_ev C.fit hi _)
  have e2 : (xComp [.index, .begin_] (x2 tIdx (xPeek .row) (x2 tAdd (xVar .index) (xVar .begin_))) .row (xVar .rows) (bAll [])) r d = some (strsT (col R i), d) := by
    refine (xComp_ev (xVar_ev h6) rfl (by have := szL_eq; have := M.few; simp; omega) (compGo_map' rowL (fun ro => T.str (ro[i + bg lead]?.getD [])) fun ro hro => ?_)).trans ?_
    · refine x2_ev (xPeek_ev (t := rowL ro) (by simp [inner])) (x2_ev (c := .int ((i + bg lead : Nat) : Int)) (xVar_ev (t := .int i) (by simp [inner, h4])) (xVar_ev (t := .int (bg lead)) (by simp [inner, h5])) ?_) (tIdx_list_ok _ _ (by have := A.short; omega) _ (by rw [List.getElem?_map, getD_of (by rw [A.len ro hro]; omega)]; rfl))
      show some (T.int ((i : Int) + (bg lead : Int))) = _
      rw [show (i : Int) + (bg lead : Int) = ((i + bg lead : Nat) : Int) by omega]
    · rw [C.cols i hi]
      unfold strsT col bg
      simp only [List.map_map]
      rfl
  refine (seqs_next ((sIf_f (d1 := d) (bCmp_ev e1 e2 ?_)).trans seqs_nil)).trans seqs_nil
  have O := C.fit.colOk i
  exact ne_of_eq (tEq_strs (fun s hs => (O.ok s hs).asc) (by have := O.few; omega))
theorem forGo_same {x : N} {a : SX} : ∀ {l : List T} {r : Rho}, (∀ t ∈ l, ∀ r', (∀ y, y ≠ x → r' y = r y) → r' x = some (.val t) → a r' d = some (.next, r', d)) → ∃ r', (∀ y, y ≠ x → r' y = r y) ∧ forGo x a l r d = some (.next, r', d)
  | [], r, _ => ⟨r, fun _ _ => rfl, rfl⟩
  | t :: l, r, h => by
    have e := h t (List.mem_cons_self) (upd r x (.val t)) (fun y hy => upd_ne _ _ hy) (upd_same _ _ _)
    obtain ⟨r', h1, h2⟩ := forGo_same (l := l) (r := upd r x (.val t)) fun t' ht r'' hr hx => h t' (List.mem_cons_of_mem _ ht) r'' (fun y hy => (hr y hy).trans (upd_ne _ _ hy)) hx
    exact ⟨r', fun y hy => (h1 y hy).trans (upd_ne _ _ hy), (forGo_next e).trans h2⟩
theorem lw11_ev (M : Made f lead first last ws) (C : Core f lead first last ws P R) (h1 : r .pattern = some (.val (.list P))) (h2 : r .lain = some (.val (.list (R.map rowF)))) (h3 : r .texts = some (.val (.list (R.map rowS))))
    (h5 : r .begin_ = some (.val (.int (bg lead)))) (h6 : r .rows = some (.val (.list ((ws.map (partsL (hasL last))).map rowL)))) : ∃ r', (∀ y, y ≠ .index → r' y = r y) ∧ lw11 r d = some (.next, r', d) := by
  have hsh := C.fit.short
  have f1 : fitI (P.length : Int) = true := fitI_small (by omega) (by omega)
  obtain ⟨r', k, e⟩ := forGo_same (x := .index) (a := lwB) (d := d) (r := r) (l := (List.range P.length).map fun (k : Nat) => T.int ((0 : Int) + (k : Int))) fun t ht r' hr hx => by
    obtain ⟨j, hj, rfl⟩ := List.mem_map.mp ht
    have hj := List.mem_range.mp hj
    rw [show (0 : Int) + (j : Int) = (j : Int) by omega] at hx
    exact lwB_ev M C hj ((hr _ (by decide)).trans h1) ((hr _ (by decide)).trans h2) ((hr _ (by decide)).trans h3) hx ((hr _ (by decide)).trans h5) ((hr _ (by decide)).trans h6)
  refine ⟨r', k, ?_⟩
  rw [lw11_eq]
  have s3 := sFor_ev (x := .index) (a := lwB) (x1_ev (len_ev (d := d) h1) (tRange1_ok _ f1 (by have := szL_eq; omega))) rfl (by have := szL_eq; simp; omega)
  rw [show ((P.length : Int) - 0).toNat = P.length by omega, e] at s3
  exact s3
theorem addF (M : Made f lead first last ws) {x y : N} (h1 : r .first = some (.val (.str first))) (h2 : r .last = some (.val (.str last))) : (x2 tAdd (xVar .first) (xVar .last)) r d = some (.str (first ++ last), d) :=
  x2_ev (xVar_ev h1) (xVar_ev h2) (addS _ _ (by have := M.fl; have := M.ll; rw [List.length_append]; omega))
theorem attrs {x : N} {t : List Nat} {p : Int} (h : r x = some (.val (.mrg (.str t) (.int p)))) : (xTup [(x1 (tAttr .text) (xVar x)), (x1 (tAttr .point) (xVar x))]) r d = some (.tup [.str t, .int p], d) :=
  xTup_ev (xs_cons (x1_ev (xVar_ev h) rfl) (xs_cons (x1_ev (xVar_ev h) rfl) xs_nil))
theorem repr_true {x : N} (h : r x = some (.val (.bool true))) : (xB (bCmp .eq (x1 tRepr (xVar x)) (xC (.str [84, 114, 117, 101])))) r d = some (.bool true, d) :=
  xB_ev (bCmp_ev (x1_ev (xVar_ev h) rfl) xC_ev (by rw [eqS, decide_eq_true rfl]))
theorem zStep_asc {ss : List (List Nat)} (h : Oks ss) {gp pt la : Bool} {z : Z} (hz : ∀ c ∈ z.text, c < 128) : ∀ c ∈ (zStep f gp pt la ss z).text, c < 128 := by
  have h0 := (h.ok _ (headD_mem h.ne)).asc
  have ht : ∀ c ∈ zText f ss z, c < 128 := fun c hc => by
    unfold zText at hc
    rcases List.mem_append.mp hc with q | q
    · exact hz c q
    · exact h0 c (List.mem_of_mem_take q)
  intro c hc
  cases gp with
  | true =>
    have hc : c ∈ (if isp f ss && !la then zText f ss z ++ (rest0 f ss).drop ((rest0 f ss).length - tailN f ss) else zText f ss z) := hc
    split at hc
    · rcases List.mem_append.mp hc with q | q
      · exact ht c q
      · exact h0 c (List.mem_of_mem_drop (List.mem_of_mem_drop q))
    · exact ht c hc
  | false =>
    have hc : c ∈ z.text ++ ss.headD [] := hc
    rcases List.mem_append.mp hc with q | q
    · exact hz c q
    · exact h0 c q
theorem zRun_asc {gp pt la : Nat → Bool} {Cs : Nat → List (List Nat)} (h : ∀ i, Oks (Cs i)) : ∀ (n j : Nat) (z : Z), (∀ c ∈ z.text, c < 128) → ∀ c ∈ (zRun f gp pt la Cs n j z).text, c < 128
  | 0, j, z, hz => hz
  | n + 1, j, z, hz => zRun_asc h n (j + 1) _ (zStep_asc (h j) hz)
theorem law_body (hd : r .deck = some (.val .deck)) (h : DkB d 0) : ∃ r' d', f_law r d = some (.ret (.bool true), r', d') := by
  obtain ⟨f, lead, first, last, r3, d3, L, hfx, hfl, hlx, hll, h3, e3⟩ := law_start hd h [lw4, lw5, lw6, lw7, lw8, lw9, lw10, lw11, lw12, lw13, lw14, lw15, lw16, lw17, lw18, lw19, lw20]
  obtain ⟨ws, d4, M, e4⟩ := made_ev (f := f) (lead := lead) hfx hlx hfl.1 hfl.2 hll h3 (by omega)
  obtain ⟨P, R, hpat, C⟩ := core M
  rw [f_law_eq, e3]
  let r4 : Rho := upd r3 .rows (.val (.list ((ws.map (partsL (hasL last))).map rowL)))
  have s4 : lw4 r3 d3 = some (.next, r4, d4) := sAsg_ev (xCall_ev (xs_cons (xVar_ev L.dk) (xs_cons (xVar_ev L.fo) (xs_cons (xVar_ev L.le) (xs_cons (xVar_ev L.fi) (xs_cons (xVar_ev L.la) xs_nil))))) e4)
  have L4 : L3 f lead first last r4 := ⟨L.dk, L.st, L.fo, L.le, L.fi, L.la⟩
  let r5 : Rho := upd r4 .texts (.val (.list (R.map rowS)))
  have s5 : lw5 r4 d4 = some (.next, r5, d4) := law_texts M L4 rfl C.texts
  have st5 : r5 .style = some (.val (.str (if lead then subS else basicS))) := L.st
  have fi5 : r5 .first = some (.val (.str first)) := L.fi
  have la5 : r5 .last = some (.val (.str last)) := L.la
  have fo5 : r5 .is_folding = some (.val (.bool f)) := L.fo
  let r6 : Rho := upd r5 .pattern (.val (.list P))
  have s6 : lw6 r5 d4 = some (.next, r6, d4) := sAsg_ev (xCall_ev (xs_cons (xVar_ev st5) (xs_cons (addF (x := .first) (y := .last) M fi5 la5) (xs_cons (lenS_ev fi5) xs_nil))) (by rw [hpat]))
  let r7 : Rho := upd r6 .lain (.val (.list (R.map rowF)))
  have p6 : r6 .pattern = some (.val (.list P)) := rfl
  have fo6 : r6 .is_folding = some (.val (.bool f)) := L.fo
  have te6 : r6 .texts = some (.val (.list (R.map rowS))) := rfl
  have s7 : lw7 r6 d4 = some (.next, r7, d4) := sAsg_ev (fits_comp C.fit p6 fo6 te6)
  have s8 : lw8 r7 d4 = some (.next, r7, d4) := lw8_ev C.fit rfl
  let r9 : Rho := upd r7 .begin_ (.val (.int (bg lead)))
  have le7 : r7 .has_lead = some (.val (.bool lead)) := L.le
  have s9 : lw9 r7 d4 = some (.next, r9, d4) := by
    refine sAsg_ev ?_
    cases lead with
    | true => exact (xIte_t (d1 := d4) (bOf_ev (xVar_ev le7) rfl)).trans xC_ev
    | false => exact (xIte_f (d1 := d4) (bOf_ev (xVar_ev le7) rfl)).trans xC_ev
  have p9 : r9 .pattern = some (.val (.list P)) := rfl
  have ro9 : r9 .rows = some (.val (.list ((ws.map (partsL (hasL last))).map rowL))) := rfl
  have be9 : r9 .begin_ = some (.val (.int (bg lead))) := rfl
  have A := lcOk_of M (hasL last)
  have hrow : (x1 tLen (x2 tIdx (xPeek .rows) (xC (.int 0)))) r9 d4 = some (.int (cnt (hasL last)), d4) := by
    have hne := A.ne
    generalize hrs : ws.map (partsL (hasL last)) = rows at hne A ro9
    cases rows with
    | nil => exact absurd rfl hne
    | cons ro rows =>
      have hl : tLen (rowL ro) = some (.int (cnt (hasL last))) := by
        show some (T.int ((ro.map T.str).length : Nat)) = _
        rw [List.length_map, A.len ro (by simp)]
      have h0 : tIdx (.list ((ro :: rows).map rowL)) (.int 0) = some (rowL ro) := tIdx_list_ok _ 0 (by omega) (rowL ro) rfl
      exact x1_ev (x2_ev (xPeek_ev ro9) (xC_ev (t := .int 0)) h0) hl
  have hlen : (P.length : Int) = (cnt (hasL last) : Int) - (bg lead : Int) := by
    have := C.len
    unfold bg
    cases lead <;> simpa using this
  have s10 : lw10 r9 d4 = some (.next, r9, d4) := by
    refine (sIf_f (d1 := d4) (bCmp_ev (len_ev p9) (x2_ev (op := tSub) (c := .int ((cnt (hasL last) : Int) - (bg lead : Int))) hrow (xVar_ev be9) rfl) ?_)).trans seqs_nil
    show some (!(decide ((P.length : Int) = (cnt (hasL last) : Int) - (bg lead : Int)))) = _
    rw [decide_eq_true hlen]; rfl
  obtain ⟨r11, k11, s11⟩ := lw11_ev (d := d4) M C p9 (r := r9) rfl rfl be9 ro9
  have g11 : ∀ {y : N} {v}, r9 y = v → y ≠ .index → r11 y = v := fun h hy => (k11 _ hy).trans h
  have ro11 := g11 ro9 (by decide)
  have fo11 : r11 .is_folding = some (.val (.bool f)) := g11 L.fo (by decide)
  generalize hz : mgZ f P R = z
  have hzl : lcZ f (ws.map (partsL (hasL last))) (cnt (hasL last)) = z := C.same.symm.trans hz
  have ho : 0 ≤ z.own := by rw [← hz]; exact C.own
  let due : T := .tup [.str z.text, .int (zPoint z)]
  let r12 : Rho := upd r11 .due (.val due)
  have s12 : lw12 r11 d4 = some (.next, r12, d4) := sAsg_ev (xCall_ev (xs_cons (xVar_ev ro11) (xs_cons (xVar_ev fo11) xs_nil)) (by rw [law_common_ev A, hzl]))
  let ans : T := .mrg (.str z.text) (.int (zPoint z))
  let r13 : Rho := upd r12 .found (.val ans)
  have p12 : r12 .pattern = some (.val (.list P)) := g11 p9 (by decide)
  have te12 : r12 .texts = some (.val (.list (R.map rowS))) := g11 (y := .texts) rfl (by decide)
  have fo12 : r12 .is_folding = some (.val (.bool f)) := fo11
  have s13 : lw13 r12 d4 = some (.next, r13, d4) := sAsg_ev (xCall_ev (xs_cons (xVar_ev p12) (xs_cons (xVar_ev te12) (xs_cons (xVar_ev fo12) xs_nil))) (by rw [merged_ev C.fit (by rw [hz]; exact ho), hz]))
  -- the text of the answer is plain
  have hasc : ∀ c ∈ z.text, c < 128 := by
    rw [← hz]
    exact zRun_asc C.fit.colOk _ _ _ (by simp)
  have fo13 : r13 .found = some (.val ans) := rfl
  have du13 : r13 .due = some (.val due) := rfl
  have s14 : lw14 r13 d4 = some (.next, r13, d4) :=
    (sIf_f (d1 := d4) (bCmp_ev (attrs fo13) (xPeek_ev du13) (ne_of_eq (tEq_pair hasc _)))).trans seqs_nil
  let rep : T := answer f P R (first ++ last)
  let r15 : Rho := upd r13 .reply (.val rep)
  have st13 : r13 .style = some (.val (.str (if lead then subS else basicS))) := g11 L.st (by decide)
  have fi13 : r13 .first = some (.val (.str first)) := g11 L.fi (by decide)
  have la13 : r13 .last = some (.val (.str last)) := g11 L.la (by decide)
  have te13 : r13 .texts = some (.val (.list (R.map rowS))) := te12
  have fl13 : r13 .is_folding = some (.val (.bool f)) := fo11
  have s15 : lw15 r13 d4 = some (.next, r15, d4) := sAsg_ev (xCall_ev (xs_cons (xList_ev (xs_cons (xVar_ev st13) xs_nil)) (xs_cons (addF (x := .first) (y := .last) M fi13 la13) (xs_cons (lenS_ev fi13) (xs_cons (xVar_ev te13) (xs_cons (xVar_ev fl13) xs_nil))))) (completed_ev C.fit (by rw [hz]; exact ho) (first_one C.fit (by rw [hpat]))))
  have fi15 : r15 .first = some (.val (.str first)) := fi13
  have la15 : r15 .last = some (.val (.str last)) := la13
  have te15 : r15 .texts = some (.val (.list (R.map rowS))) := te13
  have hfew := C.fit.few
  have c16 : bCmp .eq (xComp [.first, .last] (xVar .own) .own (xVar .texts) (bCmp .ne (xPeek .own) (x2 tAdd (xVar .first) (xVar .last)))) (xList []) r15 d4 = some (allAre R (first ++ last), d4) :=
    none_ev rowS rowS (fun ro => decide (ro.flatten ≠ first ++ last)) te15 (by omega) fun ro hro => ⟨bCmp_ev (xPeek_ev (t := rowS ro) (by simp [inner])) (addF (x := .first) (y := .last) M (by simp [inner, fi15]) (by simp [inner, la15])) (neS _ _), xVar_ev (by simp [inner])⟩
  suffices hs : ∃ r' d', seqs [lw16, lw17, lw18, lw19, lw20] r15 d4 = some (.ret (.bool true), r', d') by
    obtain ⟨r', d', e⟩ := hs
    exact ⟨r', d', (seqs_next s4).trans ((seqs_next s5).trans ((seqs_next s6).trans ((seqs_next s7).trans ((seqs_next s8).trans ((seqs_next s9).trans ((seqs_next s10).trans ((seqs_next s11).trans ((seqs_next s12).trans ((seqs_next s13).trans ((seqs_next s14).trans ((seqs_next s15).trans e)))))))))))⟩
  cases q : allAre R (first ++ last) with
  | true =>
    rw [q] at c16
    have re15 : r15 .reply = some (.val (.bool true)) := by
      show some (Ent.val (answer f P R (first ++ last))) = _
      unfold answer; rw [q]; rfl
    exact ⟨r15, d4, seqs_ret ((sIf_t c16).trans (seqs_ret (sRet_ev (repr_true re15))))⟩
  | false =>
    rw [q] at c16
    have re15 : r15 .reply = some (.val ans) := by
      show some (Ent.val (answer f P R (first ++ last))) = _
      unfold answer; rw [q, hz]; rfl
    have du15 : r15 .due = some (.val due) := rfl
    have le15 : r15 .has_lead = some (.val (.bool lead)) := g11 L.le (by decide)
    have fl15 : r15 .is_folding = some (.val (.bool f)) := fo11
    have s16 : lw16 r15 d4 = some (.next, r15, d4) := (sIf_f c16).trans seqs_nil
    have c17 : bCmp .ne (xTup [(x1 (tAttr .text) (xVar .reply)), (x1 (tAttr .point) (xVar .reply))]) (xPeek .due) r15 d4 = some (false, d4) := bCmp_ev (attrs re15) (xPeek_ev du15) (ne_of_eq (tEq_pair hasc _))
    have eqd : ∀ {ρ : Rho} {x : N}, ρ x = some (.val ans) → ρ .due = some (.val due) → (xB (bCmp .eq (xTup [(x1 (tAttr .text) (xVar x)), (x1 (tAttr .point) (xVar x))]) (xPeek .due))) ρ d4 = some (.bool true, d4) := fun h1 h2 => xB_ev (bCmp_ev (attrs h1) (xPeek_ev h2) (eq_of_eq (tEq_pair hasc _)))
    cases hlead : lead with
    | true =>
      rw [hlead] at le15
      exact ⟨r15, d4, (seqs_next s16).trans (seqs_ret ((sIf_t (d1 := d4) ((bAny_f c17).trans (bAny_t (d1 := d4) (bOf_ev (xVar_ev le15) rfl)))).trans (seqs_ret (sRet_ev (eqd re15 du15)))))⟩
    | false =>
      rw [hlead] at le15
      have s17 : lw17 r15 d4 = some (.next, r15, d4) := (sIf_f (d1 := d4) ((bAny_f c17).trans ((bAny_f (d1 := d4) (bOf_ev (xVar_ev le15) rfl)).trans bAny_nil))).trans seqs_nil
      have LT := C.later hlead
      rw [hz] at LT
      obtain ⟨⟨Pn, R2, l1, l2, l3, l4, l5, l6, l7, l8⟩, lok⟩ := LT
      have e1 : (x1 (tAttr .text) (xVar .reply)) r15 d4 = some (.str z.text, d4) := x1_ev (xVar_ev re15) rfl
      have e2 : (x1 (tAttr .point) (xVar .reply)) r15 d4 = some (.int (Pn : Int), d4) := x1_ev (xVar_ev re15) (by show some (T.int (zPoint z)) = _; rw [l1])
      have te15' : r15 .texts = some (.val (.list (R2.map rowS))) := by rw [l4]; exact te15
      let rep2 : T := answer f (basicP z.text Pn) R2 z.text
      let r18 : Rho := upd r15 .later_reply (.val rep2)
      have s18 : lw18 r15 d4 = some (.next, r18, d4) := sAsg_ev (xCall_ev (xs_cons (xList_ev (xs_cons xC_ev (xs_cons xC_ev xs_nil))) (xs_cons e1 (xs_cons e2 (xs_cons (xVar_ev te15') (xs_cons (xVar_ev fl15) xs_nil))))) (completed_ev l5 l8 (first_two l5 (pat_basic l3 l2 lok.len))))
      have te18 : r18 .texts = some (.val (.list (R2.map rowS))) := te15'
      have re18 : r18 .reply = some (.val ans) := re15
      have hfew2 := l5.few
      have c19 : bCmp .eq (xComp [.reply] (xVar .own) .own (xVar .texts) (bCmp .ne (xPeek .own) (x1 (tAttr .text) (xVar .reply)))) (xList []) r18 d4 = some (allAre R2 z.text, d4) :=
        none_ev rowS rowS (fun ro => decide (ro.flatten ≠ z.text)) te18 (by omega) fun ro hro => ⟨bCmp_ev (xPeek_ev (t := rowS ro) (by simp [inner])) (x1_ev (xVar_ev (t := ans) (by simp [inner, re18])) rfl) (neS _ _), xVar_ev (by simp [inner])⟩
      cases q2 : allAre R2 z.text with
      | true =>
        rw [q2] at c19
        have la18 : r18 .later_reply = some (.val (.bool true)) := by
          show some (Ent.val (answer f (basicP z.text Pn) R2 z.text)) = _
          unfold answer; rw [q2]; rfl
        exact ⟨r18, d4, (seqs_next s16).trans ((seqs_next s17).trans ((seqs_next s18).trans (seqs_ret ((sIf_t c19).trans (seqs_ret (sRet_ev (repr_true la18)))))))⟩
      | false =>
        rw [q2] at c19
        have la18 : r18 .later_reply = some (.val ans) := by
          show some (Ent.val (answer f (basicP z.text Pn) R2 z.text)) = some (Ent.val (T.mrg (.str z.text) (.int (zPoint z))))
          unfold answer; rw [q2, l6, l7, l1]; rfl
        exact ⟨r18, d4, (seqs_next s16).trans ((seqs_next s17).trans ((seqs_next s18).trans ((seqs_next ((sIf_f c19).trans seqs_nil)).trans (seqs_ret (sRet_ev (eqd la18 rfl))))))⟩
end Mine
end

section
open PySem PySem.W PyProof.Rows PySem.Calls
set_option maxRecDepth 10000
namespace Mine

noncomputable abbrev Nms := List (PySem.Str × NameKind)

/-- what stays the same during the whole call -/
structure Gd where
  prog : Program
  w : World
  base : Heap
  D : Addr
  CF : Addr
  CM : Addr
  K : Frag
  mg : PySem.Str → Option Value
  mb : PySem.Str → Option Value

variable {g : Gd}

mutual
noncomputable def Rep (g : Gd) (h : Heap) (O : List Addr) : T → Value → Prop
  | .none, v => v = .none
  | .bool b, v => v = .bool b
  | .int i, v => ∃ t, v = .int i t
  | .str s, v => (∃ t, v = .str ⟨s.toArray⟩ t) ∧ s.length ≤ szL
  | .list xs, v => ∃ a vs, v = .ref a ∧ a ∉ O ∧ h.PlainList a vs.toArray ∧ vs.length ≤ szL ∧ Reps g h O xs vs
  | .tup xs, v => ∃ a vs, v = .ref a ∧ a ∉ O ∧ IsTup h a vs.toArray ∧ vs.length ≤ szL ∧ Reps g h O xs vs
  | .fit p, v => ∃ x dx es n pv, v = .ref x ∧ x ∉ O ∧ dx ∉ O ∧ h.get? x = some (instObj g.CF dx) ∧ h.get? dx = some (dictOf es n) ∧ getL "places" es = some (some pv) ∧ handedIn pv = true ∧ Rep g h O p pv
  | .mrg t p, v => ∃ x dx es n tv pv, v = .ref x ∧ x ∉ O ∧ dx ∉ O ∧ h.get? x = some (instObj g.CM dx) ∧ h.get? dx = some (dictOf es n) ∧ getL "text" es = some (some tv) ∧ getL "point" es = some (some pv) ∧
      handedIn tv = true ∧ handedIn pv = true ∧ Rep g h O t tv ∧ Rep g h O p pv
  | .dict _, _ => False
  | .iset n, v => ∃ a o S, v = .ref a ∧ a ∉ O ∧ h.get? a = some o ∧ o.SetObjOf (PySem.intKind g.prog g.w) S n ∧ n ≤ 1000
  | .rng a b, v => fitI a = true ∧ fitI b = true ∧ ∃ r t u q, v = .ref r ∧ r ∉ O ∧ IsRange h r a b 1 t u q
  | .deck, v => v = .ref g.D
noncomputable def Reps (g : Gd) (h : Heap) (O : List Addr) : List T → List Value → Prop
  | [], vs => vs = []
  | t :: ts, vs => ∃ v ws, vs = v :: ws ∧ Rep g h O t v ∧ Reps g h O ts ws
end

mutual
theorem Rep.conv {h h' : Heap} {O O' : List Addr} (k : ∀ b o, b ∉ O → h.get? b = some o → h'.get? b = some o ∧ b ∉ O') : ∀ {t : T} {v : Value}, Rep g h O t v → Rep g h' O' t v
  | .none, _, x => by unfold Rep at x ⊢; exact x
  | .bool _, _, x => by unfold Rep at x ⊢; exact x
  | .int _, _, x => by unfold Rep at x ⊢; exact x
  | .str _, _, x => by unfold Rep at x ⊢; exact x
  | .list xs, v, x => by
    unfold Rep at x ⊢
    obtain ⟨a, vs, e, ha, ⟨n, hp⟩, hl, r⟩ := x
    exact ⟨a, vs, e, (k a _ ha hp).2, ⟨n, (k a _ ha hp).1⟩, hl, Reps.conv k r⟩
  | .tup xs, v, x => by
    unfold Rep at x ⊢
    obtain ⟨a, vs, e, ha, ⟨o, ho, hc, n, hd⟩, hl, r⟩ := x
    exact ⟨a, vs, e, (k a _ ha ho).2, ⟨o, (k a _ ha ho).1, hc, n, hd⟩, hl, Reps.conv k r⟩
  | .fit p, v, x => by
    unfold Rep at x ⊢
    obtain ⟨x, dx, es, n, pv, e, hx, hdx, h1, h2, h3, h4, r⟩ := x
    exact ⟨x, dx, es, n, pv, e, (k _ _ hx h1).2, (k _ _ hdx h2).2, (k _ _ hx h1).1, (k _ _ hdx h2).1, h3, h4, Rep.conv k r⟩
  | .mrg t p, v, x => by
    unfold Rep at x ⊢
    obtain ⟨x, dx, es, n, tv, pv, e, hx, hdx, h1, h2, h3, h3', h4, h4', r, r'⟩ := x
    exact ⟨x, dx, es, n, tv, pv, e, (k _ _ hx h1).2, (k _ _ hdx h2).2, (k _ _ hx h1).1, (k _ _ hdx h2).1, h3, h3', h4, h4', Rep.conv k r, Rep.conv k r'⟩
  | .dict _, _, x => by unfold Rep at x; exact x.elim
  | .iset n, v, x => by
    unfold Rep at x ⊢
    obtain ⟨a, o, S, e, ha, ho, r⟩ := x
    exact ⟨a, o, S, e, (k _ _ ha ho).2, (k _ _ ha ho).1, r⟩
  | .rng a b, v, x => by
    unfold Rep at x ⊢
    obtain ⟨f1, f2, r, t, u, q, e, hr, ho⟩ := x
    exact ⟨f1, f2, r, t, u, q, e, (k _ _ hr ho).2, (k _ _ hr ho).1⟩
  | .deck, _, x => by unfold Rep at x ⊢; exact x
theorem Reps.conv {h h' : Heap} {O O' : List Addr} (k : ∀ b o, b ∉ O → h.get? b = some o → h'.get? b = some o ∧ b ∉ O') : ∀ {ts : List T} {vs : List Value}, Reps g h O ts vs → Reps g h' O' ts vs
  | [], _, x => by unfold Reps at x ⊢; exact x
  | t :: ts, vs, x => by
    unfold Reps at x ⊢
    obtain ⟨v, ws, e, r, rs⟩ := x
    exact ⟨v, ws, e, Rep.conv k r, Reps.conv k rs⟩
end

theorem Reps.nil {h O} : Reps g h O [] [] := by unfold Reps; rfl
theorem Reps.cons {h O t ts v vs} (r : Rep g h O t v) (rs : Reps g h O ts vs) : Reps g h O (t :: ts) (v :: vs) := by unfold Reps; exact ⟨v, vs, rfl, r, rs⟩
theorem Reps.length {h O} : ∀ {ts vs}, Reps g h O ts vs → vs.length = ts.length
  | [], _, x => by unfold Reps at x; subst x; rfl
  | _ :: ts, _, x => by unfold Reps at x; obtain ⟨v, ws, rfl, _, r⟩ := x; simp [Reps.length r]
theorem Reps.append {h O} : ∀ {ts vs us ws}, Reps g h O ts vs → Reps g h O us ws → Reps g h O (ts ++ us) (vs ++ ws)
  | [], _, _, _, x, y => by unfold Reps at x; subst x; exact y
  | _ :: ts, _, _, _, x, y => by unfold Reps at x; obtain ⟨v, vs, rfl, r, rs⟩ := x; exact Reps.cons r (Reps.append rs y)
theorem Reps.get {h O} : ∀ {ts vs} {i : Nat} {t}, Reps g h O ts vs → ts[i]? = some t → ∃ v, vs[i]? = some v ∧ Rep g h O t v
  | _ :: ts, _, 0, t, x, e => by unfold Reps at x; obtain ⟨v, ws, rfl, r, _⟩ := x; cases e; exact ⟨v, rfl, r⟩
  | _ :: ts, _, i + 1, t, x, e => by unfold Reps at x; obtain ⟨v, ws, rfl, _, r⟩ := x; exact Reps.get (i := i) r (by simpa using e)
theorem Reps.split {h O} : ∀ {ts us vs}, Reps g h O (ts ++ us) vs → ∃ v1 v2, vs = v1 ++ v2 ∧ Reps g h O ts v1 ∧ Reps g h O us v2
  | [], _, vs, x => ⟨[], vs, rfl, Reps.nil, x⟩
  | _ :: ts, us, _, x => by
    rw [List.cons_append] at x
    unfold Reps at x
    obtain ⟨v, ws, rfl, r, rs⟩ := x
    obtain ⟨v1, v2, rfl, a, b⟩ := Reps.split rs
    exact ⟨v :: v1, v2, rfl, Reps.cons r a, b⟩
theorem Reps.reverse {h O} : ∀ {ts vs}, Reps g h O ts vs → Reps g h O ts.reverse vs.reverse
  | [], _, x => by unfold Reps at x; subst x; exact Reps.nil
  | _ :: ts, _, x => by
    unfold Reps at x; obtain ⟨v, vs, rfl, r, rs⟩ := x
    rw [List.reverse_cons, List.reverse_cons]
    exact Reps.append (Reps.reverse rs) (Reps.cons r Reps.nil)

/-- a list, a dict that a frame has for itself -/
noncomputable def OwnRep (g : Gd) (h : Heap) (O : List Addr) (t : T) (a : Addr) : Prop := match t with
  | .list xs => ∃ vs, h.PlainList a vs.toArray ∧ vs.length ≤ szL ∧ Reps g h O xs vs
  | .dict ks => ∃ f, h.IntMap a f ∧ h.DictLe a ks.length ∧ ∀ k, (f k).isSome = ks.contains k
  | _ => False
theorem OwnRep.conv {h h' : Heap} {O O' : List Addr} {t : T} {a : Addr} (ka : ∀ o, h.get? a = some o → h'.get? a = some o) (k : ∀ b o, b ∉ O → h.get? b = some o → h'.get? b = some o ∧ b ∉ O')
    (x : OwnRep g h O t a) : OwnRep g h' O' t a := by
  unfold OwnRep at x ⊢
  split at x
  · obtain ⟨vs, ⟨n, hp⟩, hl, r⟩ := x; exact ⟨vs, ⟨n, ka _ hp⟩, hl, r.conv k⟩
  · obtain ⟨f, ⟨o, es, ep, ho, hc, hd, hr⟩, hz, hk⟩ := x
    exact ⟨f, ⟨o, es, ep, ka _ ho, hc, hd, hr⟩, fun o' es' ep' ho' hd' => (by rw [ka _ ho] at ho'; cases ho'; exact hz _ _ _ ho hd'), hk⟩
  · exact x.elim
theorem OwnRep.ex {h : Heap} {O : List Addr} {t : T} {a : Addr} (x : OwnRep g h O t a) : ∃ o, h.get? a = some o := by
  unfold OwnRep at x
  split at x
  · obtain ⟨vs, ⟨n, hp⟩, _⟩ := x; exact ⟨_, hp⟩
  · obtain ⟨f, ⟨o, es, ep, ho, _⟩, _⟩ := x; exact ⟨_, ho⟩
  · exact x.elim

/-- a value that is only looked at -/
noncomputable def RepX (g : Gd) (h : Heap) (O : List Addr) (t : T) (v : Value) : Prop := Rep g h O t v ∨ ∃ a, v = .ref a ∧ OwnRep g h O t a

/-- where a name's value lies -/
noncomputable def VarAt (env : Env) (h : Heap) (x : PySem.Str) (v : Value) : Prop :=
  (env.kindOf x = some .local ∧ ∃ m, h.Ns env.locals m ∧ m x = some v) ∨ (env.kindOf x = some .cell ∧ ∃ c, env.cells.lookup x = some c ∧ h.IsCell c (some v))
noncomputable def Slot (env : Env) (a : Addr) : Prop := a = env.locals ∨ ∃ x, env.cells.lookup x = some a

structure FrOK (env : Env) (h : Heap) : Prop where
  ns : ∃ m, h.Ns env.locals m
  cell : ∀ x c, env.cells.lookup x = some c → ∃ v, h.IsCell c v
  apart : ∀ x y c, env.cells.lookup x = some c → env.cells.lookup y = some c → x = y
  off : ∀ x c, env.cells.lookup x = some c → c ≠ env.locals

structure EnvF (nm : Nms) (env : Env) : Prop where
  kind : env.scope.kind = .function
  globals : env.globals = mainGlobals
  builtins : env.builtins = builtinsNs
  names : ∀ x k, nm.lookup x = some k → k ≠ .free → env.kindOf x = some k
  cells : ∀ x, nm.lookup x = some .cell → ∃ c, env.cells.lookup x = some c

noncomputable def AOK (A : Around) (l : Nat) : Prop := A.handled = none ∧ A.depth + l < recursionLimit ∧ A.units + 4 * l + 300 < cLine

noncomputable def Keep (g : Gd) (h h' : Heap) : Prop := ∀ b o, b ≠ g.D → h.get? b = some o → h'.get? b = some o
theorem Keep.refl {h : Heap} : Keep g h h := fun _ _ _ e => e
theorem Keep.trans {h₁ h₂ h₃ : Heap} (x : Keep g h₁ h₂) (y : Keep g h₂ h₃) : Keep g h₁ h₃ := fun b o n e => y b o n (x b o n e)
theorem Keep.of {h h' : Heap} (k : ∀ b o, h.get? b = some o → h'.get? b = some o) : Keep g h h' := fun b o _ e => k b o e
theorem Keep.push {h h' : Heap} (o : Obj) (x : Keep g h h') : Keep g h (h'.push o) := fun b _ n e => Heap.get?_push_of_some _ (x b _ n e)

noncomputable def DeckAt (g : Gd) (h : Heap) (O : List Addr) (d : Dk) : Prop :=
  ∃ C t vs, h.PlainList g.D #[.ref C, .int d.n t] ∧ C ∉ O ∧ h.PlainList C vs.toArray ∧ vs.length ≤ szL ∧ Reps g h O (d.cells.map T.int) vs
theorem DeckAt.conv {h h' : Heap} {O O' : List Addr} {d : Dk} (ka : ∀ o, h.get? g.D = some o → h'.get? g.D = some o) (k : ∀ b o, b ∉ O → h.get? b = some o → h'.get? b = some o ∧ b ∉ O')
    (x : DeckAt g h O d) : DeckAt g h' O' d := by
  obtain ⟨C, t, vs, ⟨n, h1⟩, h2, ⟨n', h3⟩, h4, h5⟩ := x
  exact ⟨C, t, vs, ⟨n, ka _ h1⟩, (k _ _ h2 h3).2, ⟨n', (k _ _ h2 h3).1⟩, h4, h5.conv k⟩

noncomputable def N.str : N → PySem.Str
  | .code => "code" | .sign => "sign" | .text => "text" | .is_folding => "is_folding" | .item => "item" | .pattern => "pattern" | .found => "found" | .point => "point" | .at_ => "at" | .style => "style"
  | .candidate => "candidate" | .start => "start" | .end_ => "end" | .wanted => "wanted" | .places => "places" | .waiting => "waiting" | .seen => "seen" | .width => "width" | .index => "index" | .last => "last"
  | .further => "further" | .spot => "spot" | .own => "own" | .candidates => "candidates" | .styles => "styles" | .size => "size" | .texts => "texts" | .fits => "fits" | .place => "place" | .some_ => "some"
  | .parted => "parted" | .own_point => "own_point" | .head => "head" | .rests => "rests" | .is_parted => "is_parted" | .tail => "tail" | .deck => "deck" | .many => "many" | .nth => "nth" | .one => "one"
  | .other => "other" | .most => "most" | .has_lead => "has_lead" | .first => "first" | .rows => "rows" | .row => "row" | .own_place => "own_place" | .begin_ => "begin" | .lain => "lain" | .due => "due"
  | .reply => "reply" | .later_reply => "later_reply" | .self_ => "self" | .script => "script" | .cell => "cell"

structure Inv (g : Gd) (env : Env) (r : Rho) (O : List Addr) (d : Dk) (h : Heap) : Prop where
  fr : FrOK env h
  base : ∀ b o, g.base.get? b = some o → h.get? b = some o
  baseD : g.base.objs.size ≤ g.D
  baseL : g.base.objs.size ≤ env.locals
  deck : DeckAt g h O d
  dO : g.D ∈ O
  pres : ∀ a ∈ O, ∃ o, h.get? a = some o
  slot : ∀ a, Slot env a → a ∈ O ∧ a ≠ g.D
  vals : ∀ x t, r x = some (.val t) → ∃ v, VarAt env h x.str v ∧ Rep g h O t v
  owns : ∀ x t, r x = some (.own t) → ∃ a, VarAt env h x.str (.ref a) ∧ a ∈ O ∧ a ≠ g.D ∧ OwnRep g h O t a
  ob : ∀ a ∈ O, g.base.get? a = none

theorem VarAt.keep {env : Env} {h h' : Heap} {x : PySem.Str} {v : Value} (k : ∀ a, Slot env a → ∀ o, h.get? a = some o → h'.get? a = some o) (q : VarAt env h x v) : VarAt env h' x v := by
  rcases q with ⟨a, m, hn, e⟩ | ⟨a, c, hc, o, ho, hd⟩
  · exact .inl ⟨a, m, hn.at' (k _ (.inl rfl)), e⟩
  · exact .inr ⟨a, c, hc, o, k _ (.inr ⟨x, hc⟩) _ ho, hd⟩
theorem FrOK.keep {env : Env} {h h' : Heap} (k : ∀ a, Slot env a → ∀ o, h.get? a = some o → h'.get? a = some o) (q : FrOK env h) : FrOK env h' where
  ns := let ⟨m, hn⟩ := q.ns; ⟨m, hn.at' (k _ (.inl rfl))⟩
  cell := fun x c e => let ⟨v, o, ho, hd⟩ := q.cell x c e; ⟨v, o, k _ (.inr ⟨x, e⟩) _ ho, hd⟩
  apart := q.apart
  off := q.off

theorem Inv.keep {env : Env} {r : Rho} {O : List Addr} {d d' : Dk} {h h' : Heap} (k : Keep g h h') (dk : DeckAt g h' O d') (hD : ∃ o, h'.get? g.D = some o) (I : Inv g env r O d h) : Inv g env r O d' h' where
  fr := I.fr.keep fun a s o e => k a o (I.slot a s).2 e
  base := fun b o e => k b o (fun q => by have := Heap.lt_size e; rw [q] at this; exact absurd I.baseD (Nat.not_le.mpr this)) (I.base b o e)
  baseD := I.baseD
  baseL := I.baseL
  deck := dk
  dO := I.dO
  pres := fun a ha => by
    by_cases e : a = g.D
    · rw [e]; exact hD
    · obtain ⟨o, ho⟩ := I.pres a ha; exact ⟨o, k a o e ho⟩
  slot := I.slot
  vals := fun x t e => by
    obtain ⟨v, hv, rv⟩ := I.vals x t e
    exact ⟨v, hv.keep fun a s o e => k a o (I.slot a s).2 e, rv.conv fun b o hb e => ⟨k b o (fun q => hb (q ▸ I.dO)) e, hb⟩⟩
  owns := fun x t e => by
    obtain ⟨a, hv, ha, hD, ra⟩ := I.owns x t e
    exact ⟨a, hv.keep fun a s o e => k a o (I.slot a s).2 e, ha, hD, ra.conv (fun o e => k a o hD e) fun b o hb e => ⟨k b o (fun q => hb (q ▸ I.dO)) e, hb⟩⟩
  ob := I.ob

theorem DeckAt.ex {h : Heap} {O : List Addr} {d : Dk} (x : DeckAt g h O d) : ∃ o, h.get? g.D = some o := by
  obtain ⟨C, t, vs, ⟨n, h1⟩, _⟩ := x; exact ⟨_, h1⟩
theorem Inv.keep' {env : Env} {r : Rho} {O : List Addr} {d d' : Dk} {h h' : Heap} (I : Inv g env r O d h) (k : Keep g h h') (dk : DeckAt g h' O d') : Inv g env r O d' h' := I.keep k dk dk.ex
theorem Rep.keep {h h' : Heap} {O : List Addr} {t : T} {v : Value} (hD : g.D ∈ O) (k : Keep g h h') (x : Rep g h O t v) : Rep g h' O t v := x.conv fun b o hb e => ⟨k b o (fun q => hb (q ▸ hD)) e, hb⟩
theorem Reps.keep {h h' : Heap} {O : List Addr} {t : List T} {v : List Value} (hD : g.D ∈ O) (k : Keep g h h') (x : Reps g h O t v) : Reps g h' O t v := x.conv fun b o hb e => ⟨k b o (fun q => hb (q ▸ hD)) e, hb⟩
theorem DeckAt.keep {h h' : Heap} {O : List Addr} {d : Dk} (hD : g.D ∈ O) (k : ∀ b o, h.get? b = some o → h'.get? b = some o) (x : DeckAt g h O d) : DeckAt g h' O d := x.conv (fun o e => k _ o e) fun b o hb e => ⟨k b o e, hb⟩
theorem RepX.keep {h h' : Heap} {O : List Addr} {t : T} {v : Value} (hD : g.D ∈ O) (k : ∀ b o, h.get? b = some o → h'.get? b = some o) (x : RepX g h O t v) : RepX g h' O t v := by
  rcases x with x | ⟨a, e, x⟩
  · exact .inl (x.keep hD (Keep.of k))
  · exact .inr ⟨a, e, x.conv (fun o e => k _ o e) fun b o hb e => ⟨k b o e, hb⟩⟩

/-! what is shown of an expression -/
noncomputable def SemE (g : Gd) (l : Nat) (nm : Nms) (e : Expr) (f : X) : Prop :=
  ∀ (env : Env) (r : Rho) (O : List Addr) (d d' : Dk) (t : T) (A : Around) (s : Shared) (Q : Value → Shared → Prop) (E : Value → Shared → Prop),
    EnvF nm env → AOK A l → Inv g env r O d s.heap → f r d = some (t, d') →
    (∀ v h' tk, Rep g h' O t v → Keep g s.heap h' → DeckAt g h' O d' → Q v { s with heap := h', toks := tk }) → wpAny (model g.prog g.w) A (eval e env) Q E s
/-- a value that is looked at -/
noncomputable def SemX (g : Gd) (l : Nat) (nm : Nms) (e : Expr) (f : X) : Prop :=
  ∀ (env : Env) (r : Rho) (O : List Addr) (d d' : Dk) (t : T) (A : Around) (s : Shared) (Q : Value → Shared → Prop) (E : Value → Shared → Prop),
    EnvF nm env → AOK A l → Inv g env r O d s.heap → f r d = some (t, d') →
    (∀ v h' tk, RepX g h' O t v → Keep g s.heap h' → DeckAt g h' O d' → (∀ h'', Keep g h' h'' → RepX g h'' O t v) → Q v { s with heap := h', toks := tk }) → wpAny (model g.prog g.w) A (eval e env) Q E s
noncomputable def SemB (g : Gd) (l : Nat) (nm : Nms) (e : Expr) (f : B) : Prop :=
  ∀ (env : Env) (r : Rho) (O : List Addr) (d d' : Dk) (t : Bool) (A : Around) (s : Shared) (Q : Bool → Shared → Prop) (E : Value → Shared → Prop),
    EnvF nm env → AOK A l → Inv g env r O d s.heap → f r d = some (t, d') →
    (∀ h' tk, Keep g s.heap h' → DeckAt g h' O d' → Q t { s with heap := h', toks := tk }) → wpAny (model g.prog g.w) A (isTrue e env (eval e env)) Q E s

/-- a def's contract -/
noncomputable def Contract (g : Gd) (name : PySem.Str) (sp : List T → M T) (l : Nat) : Prop :=
  ∃ a, g.mg name = some (.ref a) ∧ keepIn g.K (.ref a) = true ∧
  ∀ (A : Around) (s : Shared) (O : List Addr) (ts : List T) (vs : List Value) (d d' : Dk) (t : T) (Q : Value → Shared → Prop) (E : Value → Shared → Prop),
    AOK A l → (∀ b o, g.base.get? b = some o → s.heap.get? b = some o) → g.base.objs.size ≤ g.D → g.D ∈ O → (∀ a ∈ O, ∃ o, s.heap.get? a = some o) → (∀ a ∈ O, g.base.get? a = none) → DeckAt g s.heap O d → Reps g s.heap O ts vs →
    sp ts d = some (t, d') →
    (∀ v h' tk, Rep g h' O t v → Keep g s.heap h' → DeckAt g h' O d' → Q v { s with heap := h', toks := tk }) → wpAny (model g.prog g.w) A (call (.ref a) vs) Q E s

end Mine
end

section
open PySem PySem.W PyProof.Rows PySem.Calls
set_option maxRecDepth 10000
set_option linter.unusedVariables false
namespace Mine
variable {g : Gd}

/-! primitive operations upon two values -/
noncomputable def Prim2 (g : Gd) (op : T → T → Option T) (m : Value → Value → Sem Value) : Prop :=
  ∀ (A : Around) (l : Nat) (s : Shared) (O : List Addr) (a b t : T) (u v : Value) (Q : Value → Shared → Prop) (E : Value → Shared → Prop),
    AOK A l → (∀ x ∈ O, ∃ o, s.heap.get? x = some o) → Rep g s.heap O a u → Rep g s.heap O b v → op a b = some t →
    (∀ z h' tk, Rep g h' O t z → (∀ c o, s.heap.get? c = some o → h'.get? c = some o) → Q z { s with heap := h', toks := tk }) → wpAny (model g.prog g.w) A (m u v) Q E s

theorem rep_int {h : Heap} {O : List Addr} {i : Int} {v : Value} : Rep g h O (.int i) v ↔ ∃ t, v = .int i t := by unfold Rep; exact Iff.rfl
theorem rep_str {h : Heap} {O : List Addr} {i : List Nat} {v : Value} : Rep g h O (.str i) v ↔ (∃ t, v = .str ⟨i.toArray⟩ t) ∧ i.length ≤ szL := by unfold Rep; exact Iff.rfl
theorem rep_bool {h : Heap} {O : List Addr} {i : Bool} {v : Value} : Rep g h O (.bool i) v ↔ v = .bool i := by unfold Rep; exact Iff.rfl
theorem rep_none {h : Heap} {O : List Addr} {v : Value} : Rep g h O .none v ↔ v = .none := by unfold Rep; exact Iff.rfl
theorem rep_list {h : Heap} {O : List Addr} {xs : List T} {v : Value} : Rep g h O (.list xs) v ↔ ∃ a vs, v = .ref a ∧ a ∉ O ∧ h.PlainList a vs.toArray ∧ vs.length ≤ szL ∧ Reps g h O xs vs := by
  constructor <;> (intro x; unfold Rep at *; exact x)
theorem rep_tup {h : Heap} {O : List Addr} {xs : List T} {v : Value} : Rep g h O (.tup xs) v ↔ ∃ a vs, v = .ref a ∧ a ∉ O ∧ IsTup h a vs.toArray ∧ vs.length ≤ szL ∧ Reps g h O xs vs := by
  constructor <;> (intro x; unfold Rep at *; exact x)
theorem str_len (s : List Nat) : (⟨s.toArray⟩ : PySem.Str).length = s.length := by simp [PySem.Str.length]
theorem str_app (a b : List Nat) : (⟨a.toArray⟩ ++ ⟨b.toArray⟩ : PySem.Str) = ⟨(a ++ b).toArray⟩ := by
  show PySem.Str.append _ _ = _
  unfold PySem.Str.append; simp
theorem szL_line : szL ≤ sizeLine := by decide
theorem fresh_notin {h : Heap} {O : List Addr} (p : ∀ x ∈ O, ∃ o, h.get? x = some o) : h.objs.size ∉ O := fun q => by
  obtain ⟨o, ho⟩ := p _ q; exact absurd (Heap.lt_size ho) (Nat.lt_irrefl _)
theorem mkS_some {s : List Nat} {t : T} (e : mkS s = some t) : t = .str s ∧ s.length ≤ szL := by
  unfold mkS at e; split at e
  · cases e; exact ⟨rfl, by assumption⟩
  · cases e
theorem mkL_some {s : List T} {t : T} (e : mkL s = some t) : t = .list s ∧ s.length ≤ szL := by
  unfold mkL at e; split at e
  · cases e; exact ⟨rfl, by assumption⟩
  · cases e

theorem p_add : Prim2 g tAdd (binaryOp .Add) := by
  intro A l s O a b t u v Q E hA hp ra rb e k
  unfold tAdd at e
  split at e
  · cases e
    obtain ⟨ta, rfl⟩ := rep_int.mp ra; obtain ⟨tb, rfl⟩ := rep_int.mp rb
    exact PyProof.Rows.add_int (k _ _ _ (rep_int.mpr ⟨_, rfl⟩) fun _ _ e => e)
  · obtain ⟨rfl, hl⟩ := mkS_some e
    obtain ⟨⟨ta, rfl⟩, _⟩ := rep_str.mp ra; obtain ⟨⟨tb, rfl⟩, _⟩ := rep_str.mp rb
    refine PyProof.Rows.add_str (fun t' tk => ?_) ?_
    · rw [str_app]
      exact k _ _ _ (rep_str.mpr ⟨⟨_, rfl⟩, hl⟩) fun _ _ e => e
    · rw [str_len, str_len, ← List.length_append]; exact Nat.le_trans hl szL_line
  · obtain ⟨rfl, hl⟩ := mkL_some e
    obtain ⟨la, va, rfl, _, ⟨na, pa⟩, _, sa⟩ := rep_list.mp ra
    obtain ⟨lb, vb, rfl, _, ⟨nb, pb⟩, _, sb⟩ := rep_list.mp rb
    have hz : va.length + vb.length ≤ szL := by rw [sa.length, sb.length, ← List.length_append]; exact hl
    refine concat_meets ⟨_, pa, rfl⟩ ⟨_, pb, rfl⟩ noFill_list_add seq_list_add PySem.F.slot_list_add PySem.F.entry_list_add (PySem.F.args_list_add_2 _ _)
      (list_addW la lb va.toArray vb.toArray na nb none none #[] #[] (by simpa using Nat.le_trans hz szL_line)) ⟨pa, pb, ?_⟩
    have e1 : va.toArray ++ vb.toArray = (va ++ vb).toArray := by simp
    rw [e1]
    have kp : ∀ c o, s.heap.get? c = some o → (s.heap.push { cls := .type "list", data := .seq (va ++ vb).toArray }).get? c = some o := fun c o e => Heap.get?_push_of_some _ e
    refine k _ _ s.toks (rep_list.mpr ⟨_, _, rfl, fresh_notin hp, ⟨0, Heap.get?_push_size _ rfl⟩, by rw [List.length_append]; exact hz, ?_⟩) kp
    exact (sa.append sb).conv fun c o hc e => ⟨kp c o e, hc⟩
  · cases e
theorem p_sub : Prim2 g tSub (binaryOp .Sub) := by
  intro A l s O a b t u v Q E hA hp ra rb e k
  unfold tSub at e
  split at e
  · cases e
    obtain ⟨ta, rfl⟩ := rep_int.mp ra; obtain ⟨tb, rfl⟩ := rep_int.mp rb
    exact PyProof.Rows.sub_int (k _ _ _ (rep_int.mpr ⟨_, rfl⟩) fun _ _ e => e)
  · cases e
theorem p_mod : Prim2 g tMod (binaryOp .Mod) := by
  intro A l s O a b t u v Q E hA hp ra rb e k
  unfold tMod at e
  split at e
  · split at e
    · cases e
    · cases e
      obtain ⟨ta, rfl⟩ := rep_int.mp ra; obtain ⟨tb, rfl⟩ := rep_int.mp rb
      exact PyProof.Rows.mod_int (by assumption) (k _ _ _ (rep_int.mpr ⟨_, rfl⟩) fun _ _ e => e)
  · cases e
end Mine
end

section
open PySem PySem.W PyProof.Rows PySem.Calls PySem.Spec PyProof.V PySem.SeqAt
set_option maxRecDepth 10000
set_option linter.unusedVariables false
namespace Mine
variable {g : Gd}

theorem repx_int {h : Heap} {O : List Addr} {i : Int} {v : Value} (x : RepX g h O (.int i) v) : ∃ t, v = .int i t := by
  rcases x with x | ⟨a, _, x⟩
  · exact rep_int.mp x
  · exact x.elim
theorem repx_str {h : Heap} {O : List Addr} {i : List Nat} {v : Value} (x : RepX g h O (.str i) v) : (∃ t, v = .str ⟨i.toArray⟩ t) ∧ i.length ≤ szL := by
  rcases x with x | ⟨a, _, x⟩
  · exact rep_str.mp x
  · exact x.elim
theorem repx_list {h : Heap} {O : List Addr} {xs : List T} {v : Value} (x : RepX g h O (.list xs) v) : ∃ a vs, v = .ref a ∧ h.PlainList a vs.toArray ∧ vs.length ≤ szL ∧ Reps g h O xs vs := by
  rcases x with x | ⟨a, e, x⟩
  · obtain ⟨a, vs, e, _, p, l, r⟩ := rep_list.mp x; exact ⟨a, vs, e, p, l, r⟩
  · obtain ⟨vs, p, l, r⟩ := x; exact ⟨a, vs, e, p, l, r⟩
theorem repx_tup {h : Heap} {O : List Addr} {xs : List T} {v : Value} (x : RepX g h O (.tup xs) v) : ∃ a vs, v = .ref a ∧ IsTup h a vs.toArray ∧ vs.length ≤ szL ∧ Reps g h O xs vs := by
  rcases x with x | ⟨a, e, x⟩
  · obtain ⟨a, vs, e, _, p, l, r⟩ := rep_tup.mp x; exact ⟨a, vs, e, p, l, r⟩
  · exact x.elim
theorem repx_dict {h : Heap} {O : List Addr} {ks : List Int} {v : Value} (x : RepX g h O (.dict ks) v) : ∃ a, v = .ref a ∧ OwnRep g h O (.dict ks) a := by
  rcases x with x | ⟨a, e, x⟩
  · unfold Rep at x; exact x.elim
  · exact ⟨a, e, x⟩

noncomputable def PrimC (g : Gd) (o : Cm) (op : CmpOp) : Prop :=
  ∀ (A : Around) (l : Nat) (s : Shared) (O : List Addr) (a b : T) (c : Bool) (u v : Value) (Q : Value → Shared → Prop) (E : Value → Shared → Prop),
    AOK A l → RepX g s.heap O a u → RepX g s.heap O b v → tCmp o a b = some c → (∀ tk, Q (.bool c) { s with toks := tk }) → wpAny (model g.prog g.w) A (compareOp op u v) Q E s

noncomputable def P.py : P → PyData
  | .int i => .int i
  | .str s => .str ⟨s.toArray⟩
noncomputable def P.ok : P → Bool
  | .int _ => true
  | .str s => ascii s
theorem plains_reads {h : Heap} {O : List Addr} : ∀ {xs : List T} {vs : List Value} {ps : List P}, Reps g h O xs vs → plains xs = some ps → ReadsAll h vs (ps.map P.py) [] ∧ ps.all P.ok = true ∧ ps.length = xs.length
  | [], vs, ps, x, e => by unfold Reps at x; subst x; cases e; exact ⟨.nil, rfl, rfl⟩
  | t :: ts, vs, ps, x, e => by
    unfold Reps at x
    obtain ⟨v, ws, rfl, r, rs⟩ := x
    unfold plains at e
    split at e
    · rename_i p qs h1 h2
      cases e
      obtain ⟨i1, i2, i3⟩ := plains_reads rs h2
      have hr : Reads h v p.py [] ∧ p.ok = true := by
        unfold tPlain at h1
        split at h1
        · cases h1; obtain ⟨t, rfl⟩ := rep_int.mp r; exact ⟨.int _ _, rfl⟩
        · split at h1
          · cases h1; obtain ⟨⟨t, rfl⟩, _⟩ := rep_str.mp r; exact ⟨.str _ _, by assumption⟩
          · cases h1
        · cases h1
      refine ⟨?_, by simp [hr.2, i2], by simp [i3]⟩
      have := ReadsAll.cons hr.1 i1
      simpa using this
    · cases e
end Mine
namespace Mine
variable {g : Gd}
theorem canLay_P : ∀ {p : P}, p.ok = true → PyData.canLay0 p.py = true
  | .int _, _ => by simp [P.py, PyData.canLay0]
  | .str s, h => by
    simp only [P.py, PyData.canLay0]
    have h' : ascii s = true := h
    simp only [ascii, List.all_eq_true, decide_eq_true_eq] at h'
    unfold PyData.strOk
    simp [List.all_eq_true]
    intro c hc; have := h' c hc; omega
theorem canLay_Ps : ∀ {ps : List P}, ps.all P.ok = true → PyData.canLayAll0 (ps.map P.py) = true
  | [], _ => by simp [PyData.canLayAll0]
  | p :: ps, h => by
    simp only [List.all_cons, Bool.and_eq_true] at h
    simp only [List.map_cons, PyData.canLayAll0, canLay_P h.1, canLay_Ps h.2, Bool.and_self]
theorem depth_Ps : ∀ (ps : List P), PyData.depthAll (ps.map P.py) ≤ 1
  | [] => by simp [PyData.depthAll]
  | p :: ps => by
    have := depth_Ps ps
    simp only [List.map_cons, PyData.depthAll]
    have h : PyData.depth p.py ≤ 1 := by cases p <;> simp [P.py, PyData.depth]
    omega
theorem eqv_P : ∀ (p q : P), PyData.eqv p.py q.py = decide (p = q)
  | .int i, .int j => by simp [P.py, PyData.eqv]; by_cases h : i = j <;> simp [h]
  | .str i, .str j => by
    simp only [P.py, PyData.eqv]
    by_cases h : i = j
    · simp [h]
    · simp [h]
  | .int i, .str j => by simp [P.py, PyData.eqv]
  | .str i, .int j => by simp [P.py, PyData.eqv]
theorem eqv_Ps : ∀ (ps qs : List P), PyData.eqvAll (ps.map P.py) (qs.map P.py) = decide (ps = qs)
  | [], [] => by simp [PyData.eqvAll]
  | [], _ :: _ => by simp [PyData.eqvAll]
  | _ :: _, [] => by simp [PyData.eqvAll]
  | p :: ps, q :: qs => by
    simp only [List.map_cons, PyData.eqvAll, eqv_P, eqv_Ps ps qs]
    by_cases h : p = q <;> by_cases h' : ps = qs <;> simp [h, h']
theorem shaped_l {ps : List P} (h : ps.all P.ok = true) : shaped (.list (ps.map P.py)) = true := by
  unfold shaped
  rw [Bool.and_eq_true]
  refine ⟨by simp only [PyData.canLay0]; exact canLay_Ps h, decide_eq_true ?_⟩
  have := depth_Ps ps
  simp only [PyData.depth]; omega
theorem shaped_t {ps : List P} (h : ps.all P.ok = true) : shaped (.tuple (ps.map P.py)) = true := by
  unfold shaped
  rw [Bool.and_eq_true]
  refine ⟨by simp only [PyData.canLay0]; exact canLay_Ps h, decide_eq_true ?_⟩
  have := depth_Ps ps
  simp only [PyData.depth]; omega

theorem AOK.units {A : Around} {l : Nat} (h : AOK A l) : A.units + 64 < cLine := by have := h.2.2; omega
theorem AOK.line {A : Around} {l : Nat} (h : AOK A l) : A.units < cLine := by have := h.2.2; omega
theorem PlainList_is {h : Heap} {a : Addr} {vs : Array Value} (p : h.PlainList a vs) : h.IsList a vs := let ⟨n, e⟩ := p; ⟨_, e, rfl, n, rfl⟩

theorem reads_plain {h : Heap} {O : List Addr} {xs : List T} {vs : List Value} {ps : List P} {a : Addr} (p : h.PlainList a vs.toArray) (r : Reps g h O xs vs) (e : plains xs = some ps) :
    Reads h (.ref a) (.list (ps.map P.py)) [a] := by
  obtain ⟨n, hp⟩ := p
  have := Reads.list hp rfl rfl (by simpa using (plains_reads r e).1)
  exact this
theorem reads_tup {h : Heap} {O : List Addr} {xs : List T} {vs : List Value} {ps : List P} {a : Addr} (p : IsTup h a vs.toArray) (r : Reps g h O xs vs) (e : plains xs = some ps) :
    Reads h (.ref a) (.tuple (ps.map P.py)) [] := by
  obtain ⟨o, ho, hc, n, hd⟩ := p
  exact Reads.tuple ho hc hd (by simpa using (plains_reads r e).1)

theorem p_eq : PrimC g .eq .Eq := by
  intro A l s O a b c u v Q E hA ra rb e k
  change tEq a b = some c at e
  unfold tEq at e
  split at e
  · rename_i i j
    have e := Option.some.inj e; subst e
    obtain ⟨t, rfl⟩ := repx_int ra; obtain ⟨t', rfl⟩ := repx_int rb
    refine PyProof.Rows.eq_int ?_
    have := k s.toks
    rwa [show (i == j) = decide (i = j) from by by_cases h : i = j <;> simp [h]]
  · rename_i i j
    have e := Option.some.inj e; subst e
    obtain ⟨⟨t, rfl⟩, _⟩ := repx_str ra; obtain ⟨⟨t', rfl⟩, _⟩ := repx_str rb
    refine PyProof.Rows.eq_str ?_
    have := k s.toks
    rwa [show ((⟨i.toArray⟩ : PySem.Str) == ⟨j.toArray⟩) = decide (i = j) from by by_cases h : i = j <;> simp [h]]
  · have e := Option.some.inj e; subst e
    obtain ⟨t, rfl⟩ := repx_int ra; obtain ⟨⟨t', rfl⟩, _⟩ := repx_str rb
    exact PySem.EqMixed.eq_int_str (k s.toks)
  · rename_i xs ys
    obtain ⟨la, va, rfl, pa, _, sa⟩ := repx_list ra; obtain ⟨lb, vb, rfl, pb, _, sb⟩ := repx_list rb
    split at e
    · have e := Option.some.inj e; subst e
      have hvb : vb = [] := by unfold Reps at sb; exact sb
      subst hvb
      cases xs with
      | nil =>
        have hva : va = [] := by unfold Reps at sa; exact sa
        subst hva
        exact eq_dataH (reads_plain (ps := []) pa sa rfl) (reads_plain (ps := []) pb sb rfl) (shaped_l rfl) (shaped_l rfl) hA.units (by simpa [PyData.eqv, PyData.eqvAll] using k s.toks)
      | cons x xs =>
        have hva : va.length = xs.length + 1 := by rw [sa.length]; rfl
        exact PySem.SeqAt.eq_list_lengthsAt (PlainList_is pa) (PlainList_is pb) (by simp; intro h; rw [h] at hva; simp at hva) hA.line (by simpa using k s.toks)
    · split at e
      · rename_i p q h1 h2
        split at e
        · have e := Option.some.inj e; subst e
          exact eq_dataH (reads_plain pa sa h1) (reads_plain pb sb h2) (shaped_l (plains_reads sa h1).2.1) (shaped_l (plains_reads sb h2).2.1) hA.units (by simp only [PyData.eqv, eqv_Ps]; exact k s.toks)
        · cases e
      · cases e
  · obtain ⟨la, va, rfl, pa, _, sa⟩ := repx_tup ra; obtain ⟨lb, vb, rfl, pb, _, sb⟩ := repx_tup rb
    split at e
    · rename_i p q h1 h2
      split at e
      · have e := Option.some.inj e; subst e
        exact eq_dataH (reads_tup pa sa h1) (reads_tup pb sb h2) (shaped_t (plains_reads sa h1).2.1) (shaped_t (plains_reads sb h2).2.1) hA.units (by simp only [PyData.eqv, eqv_Ps]; exact k s.toks)
      · cases e
    · cases e
  · cases e
theorem p_ne : PrimC g .ne .NotEq := by
  intro A l s O a b c u v Q E hA ra rb e k
  change (tEq a b).map (!·) = some c at e
  obtain ⟨c', e1, hc⟩ := Option.map_eq_some_iff.mp e
  clear e
  subst hc
  have e := e1
  clear e1
  unfold tEq at e
  split at e
  · rename_i i j
    have e := Option.some.inj e; subst e
    obtain ⟨t, rfl⟩ := repx_int ra; obtain ⟨t', rfl⟩ := repx_int rb
    refine PyProof.Rows.ne_int ?_
    have := k s.toks
    rwa [show (i != j) = !decide (i = j) from by by_cases h : i = j <;> simp [h]]
  · rename_i i j
    have e := Option.some.inj e; subst e
    obtain ⟨⟨t, rfl⟩, _⟩ := repx_str ra; obtain ⟨⟨t', rfl⟩, _⟩ := repx_str rb
    refine PyProof.Rows.ne_str ?_
    have := k s.toks
    rwa [show ((⟨i.toArray⟩ : PySem.Str) != ⟨j.toArray⟩) = !decide (i = j) from by by_cases h : i = j <;> simp [h, bne]]
  · have e := Option.some.inj e; subst e
    obtain ⟨t, rfl⟩ := repx_int ra; obtain ⟨⟨t', rfl⟩, _⟩ := repx_str rb
    exact PySem.EqMixed.ne_int_str (k s.toks)
  · rename_i xs ys
    obtain ⟨la, va, rfl, pa, _, sa⟩ := repx_list ra; obtain ⟨lb, vb, rfl, pb, _, sb⟩ := repx_list rb
    split at e
    · have e := Option.some.inj e; subst e
      have hvb : vb = [] := by unfold Reps at sb; exact sb
      subst hvb
      cases xs with
      | nil =>
        have hva : va = [] := by unfold Reps at sa; exact sa
        subst hva
        exact ne_dataH (reads_plain (ps := []) pa sa rfl) (reads_plain (ps := []) pb sb rfl) (shaped_l rfl) (shaped_l rfl) hA.units (by simpa [PyData.eqv, PyData.eqvAll] using k s.toks)
      | cons x xs =>
        have hva : va.length = xs.length + 1 := by rw [sa.length]; rfl
        show wpAny _ _ (richCompare .NotEq _ _) _ _ _
        exact PySem.SeqAt.RcNeAt.lists_lengths (PlainList_is pa) (PlainList_is pb) (by simp; intro h; rw [h] at hva; simp at hva) hA.line _ _ _ _ (by simpa using k s.toks)
    · split at e
      · rename_i p q h1 h2
        split at e
        · have e := Option.some.inj e; subst e
          exact ne_dataH (reads_plain pa sa h1) (reads_plain pb sb h2) (shaped_l (plains_reads sa h1).2.1) (shaped_l (plains_reads sb h2).2.1) hA.units (by simp only [PyData.eqv, eqv_Ps]; exact k s.toks)
        · cases e
      · cases e
  · obtain ⟨la, va, rfl, pa, _, sa⟩ := repx_tup ra; obtain ⟨lb, vb, rfl, pb, _, sb⟩ := repx_tup rb
    split at e
    · rename_i p q h1 h2
      split at e
      · have e := Option.some.inj e; subst e
        exact ne_dataH (reads_tup pa sa h1) (reads_tup pb sb h2) (shaped_t (plains_reads sa h1).2.1) (shaped_t (plains_reads sb h2).2.1) hA.units (by simp only [PyData.eqv, eqv_Ps]; exact k s.toks)
      · cases e
    · cases e
  · cases e
theorem p_lt : PrimC g .lt .Lt := by
  intro A l s O a b c u v Q E hA ra rb e k
  cases a <;> first | cases e | skip
  cases b <;> first | cases e | skip
  obtain ⟨t, rfl⟩ := repx_int ra; obtain ⟨t', rfl⟩ := repx_int rb
  exact PyProof.Rows.lt_int (k s.toks)
theorem p_le : PrimC g .le .LtE := by
  intro A l s O a b c u v Q E hA ra rb e k
  cases a <;> first | cases e | skip
  cases b <;> first | cases e | skip
  obtain ⟨t, rfl⟩ := repx_int ra; obtain ⟨t', rfl⟩ := repx_int rb
  exact PyProof.Rows.le_int (k s.toks)
theorem p_gt : PrimC g .gt .Gt := by
  intro A l s O a b c u v Q E hA ra rb e k
  cases a <;> first | cases e | skip
  cases b <;> first | cases e | skip
  obtain ⟨t, rfl⟩ := repx_int ra; obtain ⟨t', rfl⟩ := repx_int rb
  exact PyProof.Rows.gt_int (k s.toks)
theorem p_ge : PrimC g .ge .GtE := by
  intro A l s O a b c u v Q E hA ra rb e k
  cases a <;> first | cases e | skip
  cases b <;> first | cases e | skip
  obtain ⟨t, rfl⟩ := repx_int ra; obtain ⟨t', rfl⟩ := repx_int rb
  exact PyProof.Rows.ge_int (k s.toks)
theorem p_in : PrimC g .in_ .In := by
  intro A l s O a b c u v Q E hA ra rb e k
  cases a <;> first | cases e | skip
  cases b <;> first | cases e | skip
  obtain ⟨t, rfl⟩ := repx_int ra
  obtain ⟨d, rfl, f, hm, hz, hk⟩ := repx_dict rb
  refine wpAny_in_intMap hm ?_
  rw [hk]
  exact k _
end Mine
end

section
open PySem PySem.W PyProof.Rows PySem.Calls PySem.Spec PyProof.V PySem.SeqAt
set_option maxRecDepth 10000
set_option linter.unusedVariables false
namespace Mine
variable {g : Gd}

/-! items and slices, in plain lists -/
theorem range_pick (arr : Array Nat) : ∀ (m a : Nat), a + m ≤ arr.size → ((List.range m).map fun (k : Nat) => ((a : Int) + 1 * (k : Int)).toNat).filterMap (arr[·]?) = (arr.toList.drop a).take m := by
  intro m
  induction m with
  | zero => intro a _; simp
  | succ m ih =>
    intro a h
    rw [List.range_succ, List.map_append, List.filterMap_append, ih a (by omega)]
    have e : ((a : Int) + 1 * (m : Int)).toNat = a + m := by omega
    have hlt : a + m < arr.size := by omega
    simp only [List.map_cons, List.map_nil, e, List.filterMap_cons, List.filterMap_nil]
    rw [List.take_add_one]
    congr 1
    simp [hlt, List.getElem?_drop]
theorem sliceRange_pick (arr : Array Nat) (a b : Nat) (hb : b ≤ arr.size) : (sliceRange (a : Int) (b : Int) 1).filterMap (arr[·]?) = (arr.toList.drop a).take (b - a) := by
  unfold sliceRange
  rw [if_pos (show (1 : Int) > 0 by decide)]
  dsimp only
  by_cases h : (a : Int) < b
  · rw [if_pos h]
    have e : (((b : Int) - a + 1 - 1) / 1).toNat = b - a := by rw [Int.ediv_one]; omega
    rw [e]
    exact range_pick arr (b - a) a (by omega)
  · rw [if_neg h]
    have : b - a = 0 := by omega
    rw [this]; simp
theorem clamp_le (i : Option Int) (n : Nat) : clampLo i n ≤ n ∧ clampHi i n ≤ n := by
  constructor
  · unfold clampLo; split
    · exact Nat.zero_le _
    · split <;> omega
  · unfold clampHi; split
    · exact Nat.le_refl _
    · split <;> omega
theorem strSlice_eq (s : List Nat) (lo hi : Option Int) : (Builtin.Str.strSliceIndices lo hi 1 s.length).filterMap (s.toArray[·]?) = pySl s lo hi := by
  have e : Builtin.Str.strSliceIndices lo hi 1 s.length = sliceRange (clampLo lo s.length : Nat) (clampHi hi s.length : Nat) 1 := by
    unfold Builtin.Str.strSliceIndices
    simp only [show (1 : Int) > 0 by decide, if_true]
    congr 1
    · unfold clampLo
      cases lo with
      | none => rfl
      | some i =>
        simp only
        by_cases h : i < 0
        · simp only [h, if_true]; omega
        · simp only [h, if_false]; omega
    · unfold clampHi
      cases hi with
      | none => rfl
      | some i =>
        simp only
        by_cases h : i < 0
        · simp only [h, if_true]; omega
        · simp only [h, if_false]; omega
  rw [e, sliceRange_pick _ _ _ (by simpa using (clamp_le hi s.length).2)]
  unfold pySl
  simp
theorem pySl_len {α : Type} (s : List α) (lo hi : Option Int) : (pySl s lo hi).length ≤ s.length := by
  unfold pySl
  simp only [List.length_take, List.length_drop]
  omega
theorem slice_full {s : List Nat} {lo hi : Option Int} (h : (Builtin.Str.strSliceIndices lo hi 1 s.length).length = s.length) : pySl s lo hi = s := by
  have e : Builtin.Str.strSliceIndices lo hi 1 s.length = sliceRange (clampLo lo s.length : Nat) (clampHi hi s.length : Nat) 1 := by
    unfold Builtin.Str.strSliceIndices
    simp only [show (1 : Int) > 0 by decide, if_true]
    congr 1
    · unfold clampLo
      cases lo with
      | none => rfl
      | some i =>
        simp only
        by_cases h : i < 0
        · simp only [h, if_true]; omega
        · simp only [h, if_false]; omega
    · unfold clampHi
      cases hi with
      | none => rfl
      | some i =>
        simp only
        by_cases h : i < 0
        · simp only [h, if_true]; omega
        · simp only [h, if_false]; omega
  rw [e] at h
  unfold sliceRange at h
  rw [if_pos (show (1 : Int) > 0 by decide), List.length_map, List.length_range, Int.ediv_one] at h
  have h1 := (clamp_le lo s.length).1
  have h2 := (clamp_le hi s.length).2
  unfold pySl
  split at h
  · have ha : clampLo lo s.length = 0 := by omega
    have hb : clampHi hi s.length = s.length := by omega
    rw [ha, hb]; simp
  · have : s.length = 0 := by simpa using h.symm
    have : s = [] := List.length_eq_zero_iff.mp this
    subst this; simp
theorem txt_slice (s : List Nat) (lo hi : Option Int) : Txt.slice ⟨s.toArray⟩ lo hi = ⟨(pySl s lo hi).toArray⟩ := by
  unfold Txt.slice
  rw [str_len]
  split
  · rename_i h
    rw [slice_full (by simpa using h)]
  · rw [← strSlice_eq]
theorem txt_rev (s : List Nat) (u : Tok) : Txt.sliceBy ⟨s.toArray⟩ none none (-1, u) = ⟨s.reverse.toArray⟩ := by
  have h := step_rev_list ⟨s.toArray⟩ u
  rw [str_len] at h
  have e : (Txt.sliceBy ⟨s.toArray⟩ none none (-1, u)).cps.toList = s.reverse := by
    rw [h]
    apply List.ext_getElem
    · simp
    · intro i h1 h2
      simp at h1
      simp [Array.getD, show s.length - 1 - i < s.length by omega]
  cases hx : Txt.sliceBy ⟨s.toArray⟩ none none (-1, u) with
  | mk c =>
    rw [hx] at e
    congr 1
    simpa using congrArg List.toArray e
theorem pick_rev (vs : List Value) : slicePick vs.toArray none none (some (-1)) = vs.reverse.toArray := by
  unfold slicePick
  have e : sliceRange (sliceBounds none none (some (-1)) vs.toArray.size).1 (sliceBounds none none (some (-1)) vs.toArray.size).2.1 (sliceBounds none none (some (-1)) vs.toArray.size).2.2 = (List.range vs.length).map fun k => vs.length - 1 - k := by
    rw [← picked_rev]
    simp [sliceBounds, Builtin.Str.strSliceIndices]
  rw [e]
  congr 1
  apply List.ext_getElem?
  intro i
  have : ∀ l : List Nat, (∀ j ∈ l, j < vs.length) → l.filterMap (vs.toArray[·]?) = l.map fun j => vs.getD j .none := by
    intro l
    induction l with
    | nil => intro _; rfl
    | cons a l ih =>
      intro h
      have ha := h a (.head _)
      rw [List.filterMap_cons]
      simp only [List.getElem?_toArray, List.getElem?_eq_getElem ha]
      rw [show (List.filterMap (fun x => vs[x]?) l) = List.filterMap (vs.toArray[·]?) l from by simp, ih fun j hj => h j (.tail _ hj)]
      simp [List.getD, ha]
  rw [this _ (by intro j hj; obtain ⟨k, hk, rfl⟩ := List.mem_map.mp hj; have := List.mem_range.mp hk; omega)]
  by_cases hi : i < vs.length
  · simp [hi, List.getElem?_range, List.getD, show vs.length - 1 - i < vs.length by omega]
  · simp [hi, List.getElem?_eq_none]
end Mine
end

section
open PySem PySem.W PyProof.Rows PySem.Calls PySem.Spec PyProof.V PySem.SeqAt
set_option maxRecDepth 10000
set_option linter.unusedVariables false
namespace Mine
variable {g : Gd} {l : Nat} {nm : Nms}

theorem nodebug (x : N) : (x.str == ("__debug__" : PySem.Str)) = false := by cases x <;> decide +kernel

theorem load_var {env : Env} {n : PySem.Str} {v : Value} {A : Around} {M : Model} {s : Shared} {pos : Pos} {Q : Value → Shared → Prop} {E : Value → Shared → Prop} (F : EnvF nm env) (V : VarAt env s.heap n v)
    (hd : (n == ("__debug__" : PySem.Str)) = false) (h : Q v s) : wpAny M A (eval (.Name n pos) env) Q E s := by
  rcases V with ⟨hk, m, hn, hv⟩ | ⟨hk, c, hc, hv⟩
  · exact wpAny_Name (wpAny_loadName_local F.kind hk hn hv h) hd
  · exact wpAny_Name (wpAny_loadName_cell F.kind hk hc hv h) hd

theorem e_var {x : N} {n : PySem.Str} {pos : Pos} (e : n = x.str) : SemE g l nm (.Name n pos) (xVar x) := by
  subst e
  intro env r O d d' t A s Q E F hA I e k
  unfold xVar at e
  split at e
  · rename_i t' hr
    cases e
    obtain ⟨v, V, rv⟩ := I.vals x t hr
    exact load_var F V (nodebug x) (k v s.heap s.toks rv Keep.refl I.deck)
  · cases e
theorem e_peek {x : N} {n : PySem.Str} {pos : Pos} (e : n = x.str) : SemX g l nm (.Name n pos) (xPeek x) := by
  subst e
  intro env r O d d' t A s Q E F hA I e k
  unfold xPeek at e
  split at e
  · rename_i t' hr
    cases e
    obtain ⟨v, V, rv⟩ := I.vals x t hr
    exact load_var F V (nodebug x) (k v s.heap s.toks (.inl rv) Keep.refl I.deck fun h'' kk => .inl (rv.keep I.dO kk))
  · rename_i t' hr
    cases e
    obtain ⟨a, V, ha, hD, rv⟩ := I.owns x t hr
    refine load_var F V (nodebug x) (k _ s.heap s.toks (.inr ⟨a, rfl, rv⟩) Keep.refl I.deck fun h'' kk => .inr ⟨a, rfl, rv.conv (fun o e => kk _ o hD e) fun b o hb e => ⟨kk b o (fun q => hb (q ▸ I.dO)) e, hb⟩⟩)
  · cases e
theorem e_x {e : Expr} {f : X} (h : SemE g l nm e f) : SemX g l nm e f := by
  intro env r O d d' t A s Q E F hA I e k
  exact h env r O d d' t A s Q E F hA I e fun v h' tk rv kk dk => k v h' tk (.inl rv) kk dk fun h'' kk' => .inl (rv.keep I.dO kk')

theorem e_int {i : Int} {pos : Pos} {z} : SemE g l nm (.Constant (.int i) z pos) (xC (.int i)) := by
  intro env r O d d' t A s Q E F hA I e k
  cases e
  exact wpAny_Constant_int (k _ s.heap _ (rep_int.mpr ⟨_, rfl⟩) Keep.refl I.deck)
theorem e_str {x : PySem.Str} {i : List Nat} {pos : Pos} {z} (e : x = ⟨i.toArray⟩) (hl : i.length ≤ szL) : SemE g l nm (.Constant (.str x) z pos) (xC (.str i)) := by
  subst e
  intro env r O d d' t A s Q E F hA I e k
  cases e
  exact wpAny_Constant_str (k _ s.heap _ (rep_str.mpr ⟨⟨_, rfl⟩, hl⟩) Keep.refl I.deck)
theorem e_bool {b : Bool} {pos : Pos} {z} : SemE g l nm (.Constant (.bool b) z pos) (xC (.bool b)) := by
  intro env r O d d' t A s Q E F hA I e k
  cases e
  exact wpAny_Constant_bool (k _ s.heap s.toks (rep_bool.mpr rfl) Keep.refl I.deck)
theorem e_none {pos : Pos} {z} : SemE g l nm (.Constant .none z pos) (xC .none) := by
  intro env r O d d' t A s Q E F hA I e k
  cases e
  exact wpAny_Constant_none (k _ s.heap s.toks (rep_none.mpr rfl) Keep.refl I.deck)

/-- facts of the top -/
structure GOK (g : Gd) : Prop where
  K : g.K.In g.base
  mg : g.base.Ns mainGlobals g.mg
  mb : g.base.Ns builtinsNs g.mb
  nolimit : g.base.NoLimit
/-- a built-in name -/
noncomputable def Bi (g : Gd) (n : PySem.Str) (v : Value) : Prop := g.mg n = none ∧ g.mb n = some v

theorem load_glob {env : Env} {n : PySem.Str} {v : Value} {A : Around} {M : Model} {s : Shared} {pos : Pos} {Q : Value → Shared → Prop} {E : Value → Shared → Prop} (G : GOK g) (F : EnvF nm env)
    (hb : ∀ b o, g.base.get? b = some o → s.heap.get? b = some o) (hn : nm.lookup n = some .globalImplicit) (hv : g.mg n = some v)
    (h : Q v s) (hd : (n == ("__debug__" : PySem.Str)) = false := by decide +kernel) : wpAny M A (eval (.Name n pos) env) Q E s :=
  Name_function_global F.kind (F.names _ _ hn (by decide)) (loadGlobal_global (by rw [F.globals]; exact G.mg.keeps hb) hv h) hd
theorem load_bi {env : Env} {n : PySem.Str} {v : Value} {A : Around} {M : Model} {s : Shared} {pos : Pos} {Q : Value → Shared → Prop} {E : Value → Shared → Prop} (G : GOK g) (F : EnvF nm env)
    (hb : ∀ b o, g.base.get? b = some o → s.heap.get? b = some o) (hn : nm.lookup n = some .globalImplicit) (hv : Bi g n v)
    (h : Q v s) (hd : (n == ("__debug__" : PySem.Str)) = false := by decide +kernel) : wpAny M A (eval (.Name n pos) env) Q E s :=
  Name_function_global F.kind (F.names _ _ hn (by decide)) (loadGlobal_builtin (by rw [F.globals]; exact G.mg.keeps hb) hv.1 (by rw [F.builtins]; exact G.mb.keeps hb) hv.2 h) hd

theorem e_glob {n : PySem.Str} {i : Int} {pos : Pos} (G : GOK g) (hg : ∃ t, g.mg n = some (.int i t)) (hn : nm.lookup n = some .globalImplicit) (hd : (n == ("__debug__" : PySem.Str)) = false) : SemE g l nm (.Name n pos) (xC (.int i)) := by
  intro env r O d d' t A s Q E F hA I e k
  cases e
  obtain ⟨tk, hg⟩ := hg
  exact load_glob G F I.base hn hg (k _ s.heap s.toks (rep_int.mpr ⟨_, rfl⟩) Keep.refl I.deck) hd

/-! one step -/
theorem e_bin {op : T → T → Option T} {bo : Operator} {a b : Expr} {f h : X} {pos : Pos} (p : Prim2 g op (binaryOp bo)) (ha : SemE g l nm a f) (hb : SemE g l nm b h) : SemE g l nm (.BinOp a bo b pos) (x2 op f h) := by
  intro env r O d d' t A s Q E F hA I e k
  unfold x2 at e
  split at e
  · rename_i u d1 e1
    split at e
    · rename_i v d2 e2
      split at e
      · rename_i c e3
        cases e
        refine wpAny_BinOp (ha env r O d d1 u A s _ E F hA I e1 fun v1 h1 tk1 r1 k1 dk1 => ?_)
        refine hb env r O d1 d' v A _ _ E F hA (I.keep' k1 dk1) e2 fun v2 h2 tk2 r2 k2 dk2 => ?_
        have I2 := (I.keep' k1 dk1).keep' k2 dk2
        refine p A l _ O u v t v1 v2 Q E hA I2.pres (r1.keep I.dO k2) r2 e3 fun z h3 tk3 r3 k3 => ?_
        exact k z h3 tk3 r3 ((k1.trans k2).trans (Keep.of k3)) (dk2.keep I.dO k3)
      · cases e
    · cases e
  · cases e

theorem b_cmp {o : Cm} {op : CmpOp} {a b : Expr} {f h : X} {pos : Pos} (p : PrimC g o op) (ha : SemX g l nm a f) (hb : SemX g l nm b h) (hm : behindInMarks op b = false) : SemB g l nm (.Compare a [op] [b] pos) (bCmp o f h) := by
  intro env r O d d' t A s Q E F hA I e k
  unfold bCmp b2 at e
  split at e
  · rename_i u d1 e1
    split at e
    · rename_i v d2 e2
      split at e
      · rename_i c e3
        cases e
        refine wpAny_isTrue_Compare1 (ha env r O d d1 u A s _ E F hA I e1 fun v1 h1 tk1 r1 k1 dk1 s1 => ?_) hm
        refine hb env r O d1 d' v A _ _ E F hA (I.keep' k1 dk1) e2 fun v2 h2 tk2 r2 k2 dk2 s2 => ?_
        refine p A l _ O u v t v1 v2 _ E hA (s1 _ k2) r2 e3 fun tk3 => wpAny_truthy_bool ?_
        exact k h2 tk3 (k1.trans k2) dk2
      · cases e
    · cases e
  · cases e
/-- a comparison as a value -/
theorem e_cmp {o : Cm} {op : CmpOp} {a b : Expr} {f h : X} {pos : Pos} (p : PrimC g o op) (ha : SemX g l nm a f) (hb : SemX g l nm b h) (hm : behindInMarks op b = false) : SemE g l nm (.Compare a [op] [b] pos) (xB (bCmp o f h)) := by
  intro env r O d d' t A s Q E F hA I e k
  unfold xB bCmp b2 at e
  split at e
  · rename_i b' d1 e0
    cases e
    split at e0
    · rename_i u d1 e1
      split at e0
      · rename_i v d2 e2
        split at e0
        · rename_i c e3
          cases e0
          refine wpAny_Compare1 (ha env r O d d1 u A s _ E F hA I e1 fun v1 h1 tk1 r1 k1 dk1 s1 => ?_) hm
          refine hb env r O d1 d' v A _ _ E F hA (I.keep' k1 dk1) e2 fun v2 h2 tk2 r2 k2 dk2 s2 => ?_
          refine p A l _ O u v b' v1 v2 _ E hA (s1 _ k2) r2 e3 fun tk3 => ?_
          exact k _ h2 tk3 (rep_bool.mpr rfl) (k1.trans k2) dk2
        · cases e0
      · cases e0
    · cases e0
  · cases e
/-- a is None, a is not None -/
theorem rep_isNone {h : Heap} {O : List Addr} {t : T} {v : Value} (x : Rep g h O t v) : (v == Value.none) = isN t := by
  cases t with
  | none => unfold Rep at x; subst x; rfl
  | bool b => unfold Rep at x; subst x; rfl
  | int i => obtain ⟨t, rfl⟩ := rep_int.mp x; rfl
  | str i => obtain ⟨⟨t, rfl⟩, _⟩ := rep_str.mp x; rfl
  | list xs => obtain ⟨a, vs, rfl, _⟩ := rep_list.mp x; rfl
  | tup xs => obtain ⟨a, vs, rfl, _⟩ := rep_tup.mp x; rfl
  | fit p => unfold Rep at x; obtain ⟨a, _, _, _, _, rfl, _⟩ := x; rfl
  | mrg t p => unfold Rep at x; obtain ⟨a, _, _, _, _, _, rfl, _⟩ := x; rfl
  | dict ks => unfold Rep at x; exact x.elim
  | iset n => unfold Rep at x; obtain ⟨a, _, _, rfl, _⟩ := x; rfl
  | rng a b => unfold Rep at x; obtain ⟨_, _, a, _, _, _, rfl, _⟩ := x; rfl
  | deck => unfold Rep at x; subst x; rfl
theorem b_isNone {a : Expr} {f : X} {pos p2 : Pos} {z} (ha : SemE g l nm a f) : SemB g l nm (.Compare a [.Is] [.Constant .none z p2] pos) (bIsNone f) := by
  intro env r O d d' t A s Q E F hA I e k
  unfold bIsNone at e
  split at e
  · rename_i u d1 e1
    cases e
    refine wpAny_isTrue_Compare1 (ha env r O d d' u A s _ E F hA I e1 fun v1 h1 tk1 r1 k1 dk1 => ?_) rfl
    refine wpAny_Constant_none (is_none ?_)
    rw [rep_isNone r1]
    exact wpAny_truthy_bool (k h1 tk1 k1 dk1)
  · cases e
theorem b_isNotNone {a : Expr} {f : X} {pos p2 : Pos} {z} (ha : SemE g l nm a f) : SemB g l nm (.Compare a [.IsNot] [.Constant .none z p2] pos) (bNot (bIsNone f)) := by
  intro env r O d d' t A s Q E F hA I e k
  unfold bNot bIsNone at e
  split at e
  · rename_i b' d0 e0
    cases e
    split at e0
    · rename_i u d1 e1
      cases e0
      refine wpAny_isTrue_Compare1 (ha env r O d d' u A s _ E F hA I e1 fun v1 h1 tk1 r1 k1 dk1 => ?_) rfl
      refine wpAny_Constant_none (isNot_none ?_)
      rw [rep_isNone r1]
      exact wpAny_truthy_bool (k h1 tk1 k1 dk1)
    · cases e0
  · cases e
theorem b_not {a : Expr} {f : B} {pos : Pos} (ha : SemB g l nm a f) : SemB g l nm (.UnaryOp .Not a pos) (bNot f) := by
  intro env r O d d' t A s Q E F hA I e k
  unfold bNot at e
  split at e
  · rename_i b' d0 e0
    cases e
    exact wpAny_isTrue_Not (ha env r O d d' b' A s _ E F hA I e0 fun h1 tk1 k1 dk1 => k h1 tk1 k1 dk1)
  · cases e

inductive SemBs (g : Gd) (l : Nat) (nm : Nms) : List Expr → List B → Prop
  | nil : SemBs g l nm [] []
  | cons {e es f fs} : SemB g l nm e f → SemBs g l nm es fs → SemBs g l nm (e :: es) (f :: fs)
theorem all_sem {es : List Expr} {fs : List B} (h : SemBs g l nm es fs) : ∀ (env : Env) (r : Rho) (O : List Addr) (d d' : Dk) (t : Bool) (A : Around) (s : Shared) (Q : Bool → Shared → Prop) (E : Value → Shared → Prop),
    EnvF nm env → AOK A l → Inv g env r O d s.heap → bAll fs r d = some (t, d') →
    (∀ h' tk, Keep g s.heap h' → DeckAt g h' O d' → Q t { s with heap := h', toks := tk }) → wpAny (model g.prog g.w) A (allTrue .And es env) Q E s := by
  induction h with
  | nil => intro env r O d d' t A s Q E F hA I e k; cases e; exact wpAny_allTrue_And_nil (k s.heap s.toks Keep.refl I.deck)
  | cons h1 h2 ih =>
    intro env r O d d' t A s Q E F hA I e k
    unfold bAll at e
    split at e
    · rename_i d1 e1
      refine wpAny_allTrue_And_cons (h1 env r O d d1 true A s _ E F hA I e1 fun h' tk k1 dk1 => ?_)
      exact ih env r O d1 d' t A _ Q E F hA (I.keep' k1 dk1) e fun h'' tk' k2 dk2 => k h'' tk' (k1.trans k2) dk2
    · rename_i d1 e1
      cases e
      exact wpAny_allTrue_And_cons (h1 env r O d d' false A s _ E F hA I e1 fun h' tk k1 dk1 => k h' tk k1 dk1)
    · cases e
theorem any_sem {es : List Expr} {fs : List B} (h : SemBs g l nm es fs) : ∀ (env : Env) (r : Rho) (O : List Addr) (d d' : Dk) (t : Bool) (A : Around) (s : Shared) (Q : Bool → Shared → Prop) (E : Value → Shared → Prop),
    EnvF nm env → AOK A l → Inv g env r O d s.heap → bAny fs r d = some (t, d') →
    (∀ h' tk, Keep g s.heap h' → DeckAt g h' O d' → Q t { s with heap := h', toks := tk }) → wpAny (model g.prog g.w) A (allTrue .Or es env) Q E s := by
  induction h with
  | nil => intro env r O d d' t A s Q E F hA I e k; cases e; exact wpAny_allTrue_Or_nil (k s.heap s.toks Keep.refl I.deck)
  | cons h1 h2 ih =>
    intro env r O d d' t A s Q E F hA I e k
    unfold bAny at e
    split at e
    · rename_i d1 e1
      refine wpAny_allTrue_Or_cons (h1 env r O d d1 false A s _ E F hA I e1 fun h' tk k1 dk1 => ?_)
      exact ih env r O d1 d' t A _ Q E F hA (I.keep' k1 dk1) e fun h'' tk' k2 dk2 => k h'' tk' (k1.trans k2) dk2
    · rename_i d1 e1
      cases e
      exact wpAny_allTrue_Or_cons (h1 env r O d d' true A s _ E F hA I e1 fun h' tk k1 dk1 => k h' tk k1 dk1)
    · cases e
theorem b_all {es : List Expr} {fs : List B} {pos : Pos} (h : SemBs g l nm es fs) : SemB g l nm (.BoolOp .And es pos) (bAll fs) := by
  intro env r O d d' t A s Q E F hA I e k
  exact wpAny_isTrue_BoolOp (all_sem h env r O d d' t A s Q E F hA I e k)
theorem b_any {es : List Expr} {fs : List B} {pos : Pos} (h : SemBs g l nm es fs) : SemB g l nm (.BoolOp .Or es pos) (bAny fs) := by
  intro env r O d d' t A s Q E F hA I e k
  exact wpAny_isTrue_BoolOp (any_sem h env r O d d' t A s Q E F hA I e k)

theorem e_ite {c a b : Expr} {f : B} {h1 h2 : X} {pos : Pos} (hc : SemB g l nm c f) (ha : SemE g l nm a h1) (hb : SemE g l nm b h2) : SemE g l nm (.IfExp c a b pos) (xIte f h1 h2) := by
  intro env r O d d' t A s Q E F hA I e k
  unfold xIte at e
  split at e
  · rename_i d1 e1
    refine wpAny_IfExp (hc env r O d d1 true A s _ E F hA I e1 fun h' tk k1 dk1 => ?_)
    rw [if_pos rfl]
    exact ha env r O d1 d' t A _ Q E F hA (I.keep' k1 dk1) e fun v h'' tk' r2 k2 dk2 => k v h'' tk' r2 (k1.trans k2) dk2
  · rename_i d1 e1
    refine wpAny_IfExp (hc env r O d d1 false A s _ E F hA I e1 fun h' tk k1 dk1 => ?_)
    rw [if_neg (by decide)]
    exact hb env r O d1 d' t A _ Q E F hA (I.keep' k1 dk1) e fun v h'' tk' r2 k2 dk2 => k v h'' tk' r2 (k1.trans k2) dk2
  · cases e
theorem e_neg {a : Expr} {f : X} {pos : Pos} (ha : SemE g l nm a f) : SemE g l nm (.UnaryOp .USub a pos) (x1 tNeg f) := by
  intro env r O d d' t A s Q E F hA I e k
  unfold x1 at e
  split at e
  · rename_i u d1 e1
    split at e
    · rename_i c e2
      cases e
      refine wpAny_UnaryOp (ha env r O d d' u A s _ E F hA I e1 fun v h' tk r1 k1 dk1 => ?_)
      unfold tNeg at e2
      split at e2
      · cases e2
        obtain ⟨tt, rfl⟩ := rep_int.mp r1
        exact PyProof.Rows.neg_int (k _ h' _ (rep_int.mpr ⟨_, rfl⟩) k1 dk1)
      · cases e2
    · cases e
  · cases e
theorem e_notv {a : Expr} {f : X} {pos : Pos} (ha : SemE g l nm a f) : SemE g l nm (.UnaryOp .Not a pos) (x1 tNot f) := by
  intro env r O d d' t A s Q E F hA I e k
  unfold x1 at e
  split at e
  · rename_i u d1 e1
    split at e
    · rename_i c e2
      cases e
      refine wpAny_UnaryOp (ha env r O d d' u A s _ E F hA I e1 fun v h' tk r1 k1 dk1 => ?_)
      unfold tNot at e2
      split at e2
      · cases e2
        have := rep_bool.mp r1; subst this
        exact not_value (wpAny_truthy_bool (k _ h' tk (rep_bool.mpr rfl) k1 dk1))
      · cases e2
    · cases e
  · cases e
end Mine
end

section
open PySem PySem.W PyProof.Rows PySem.Calls PySem.Spec PyProof.V PySem.SeqAt
set_option maxRecDepth 10000
set_option linter.unusedVariables false
namespace Mine
variable {g : Gd} {l : Nat} {nm : Nms}

theorem sub_open {M : Model} {A : Around} {E : Value → Shared → Prop} {s : Shared} {env : Env} {value slice : Expr} {pos : Pos} {Q : Value → Shared → Prop}
    (h : wpAny M A (eval value env) (fun o s1 => wpAny M A (eval slice env) (fun i s2 => wpAny M A (subscriptTail value slice o i) Q E s2) E s1) E s) : wpAny M A (eval (.Subscript value slice pos) env) Q E s := by
  show wpAny M A (eval value env >>= fun o => holding [o] (eval slice env) >>= fun i => standAt pos >>= fun _ => subscriptTail value slice o i) Q E s
  exact wpAny_bind (wpAny_mono h (fun o s1 h1 => wpAny_bind (wpAny_holding (wpAny_mono h1 (fun i s2 h2 => wpAny_bind (wpAny_standAt h2)) fun _ _ e => e))) fun _ _ e => e)

theorem fitI_iff {i : Int} (h : fitI i = true) : -4611686018427387904 < i ∧ i < 4611686018427387904 := of_decide_eq_true h
theorem pyIdx_seq {i : Int} {n : Nat} : seqIndex? i n = pyIdx i n := by
  unfold seqIndex? pyIdx
  by_cases h : i < 0
  · have h' : ¬ (0 ≤ i) := by omega
    simp only [h, if_true, h', if_false]
    by_cases h2 : -(n : Int) ≤ i
    · have a : (0 ≤ i + (n : Int)) := by omega
      have b : (i + (n : Int) < n) := by omega
      simp [h2, a, b]
    · have a : ¬ (0 ≤ i + (n : Int)) := by omega
      simp [h2, a]
  · have h' : 0 ≤ i := by omega
    simp only [h, if_false, h', if_true]
    by_cases h2 : i < (n : Int)
    · simp [h2]
    · simp [h2]

theorem tail_idx {A : Around} {s : Shared} {O : List Addr} {a b t : T} {u v : Value} {Q : Value → Shared → Prop} {E : Value → Shared → Prop} {value slice : Expr}
    (hs : ∀ o i, subscripted slice false o i = operate [o, i] (getItem o i)) (ra : RepX g s.heap O a u) (rb : Rep g s.heap O b v) (e : tIdx a b = some t)
    (k : ∀ z tk, Rep g s.heap O t z → Q z { s with toks := tk }) : wpAny (model g.prog g.w) A (subscriptTail value slice u v) Q E s := by
  unfold tIdx at e
  split at e
  · rename_i xs i
    obtain ⟨tb, rfl⟩ := rep_int.mp rb
    obtain ⟨la, vs, rfl, p, hl, r⟩ := repx_list ra
    split at e
    · rename_i hf
      obtain ⟨j, hj, ex⟩ := Option.bind_eq_some_iff.mp e
      obtain ⟨z, hz, rz⟩ := r.get ex
      have hf := fitI_iff hf
      have hlen := r.length
      refine tail_any (PlainList_is p).typeIs slot_list_getitem.lookup ?_ (hs _ _)
      unfold pyIdx at hj
      split at hj
      · rename_i h0
        split at hj
        · cases hj
          exact wpAny_getItem_list (x := z) (PlainList_is p) h0 (by omega) (by simpa using hz) (k z s.toks rz)
        · cases hj
      · rename_i h0
        split at hj
        · rename_i h1
          cases hj
          refine wpAny_getItem_list_neg (x := z) (PlainList_is p) (by omega) (by simp; omega) (by omega) ?_ (k z s.toks rz)
          rw [List.size_toArray, hlen]
          simpa using hz
        · cases hj
    · cases e
  · rename_i st i
    obtain ⟨tb, rfl⟩ := rep_int.mp rb
    obtain ⟨⟨ta, rfl⟩, hl⟩ := repx_str ra
    split at e
    · rename_i hf
      obtain ⟨c, hc, rfl⟩ := Option.map_eq_some_iff.mp e
      have hf := fitI_iff hf
      refine tail_any (typeIs_str _ _ _) PySem.F.slot_str_getitem.lookup ?_ (hs _ _)
      refine PyProof.Rows.getItem_str (c := c) (by simp; omega) ?_ (k _ _ (rep_str.mpr ⟨⟨_, rfl⟩, by simp [szL]⟩))
      rw [str_len, pyIdx_seq]
      obtain ⟨j, hj, ex⟩ := Option.bind_eq_some_iff.mp hc
      rw [hj]; simpa using ex
    · cases e
  · cases e
theorem e_idx {a b : Expr} {f h : X} {pos : Pos} (ha : SemX g l nm a f) (hb : SemE g l nm b h) (hs : ∀ o i, subscripted b false o i = operate [o, i] (getItem o i) := by intro _ _; rfl) : SemE g l nm (.Subscript a b pos) (x2 tIdx f h) := by
  intro env r O d d' t A s Q E F hA I e k
  unfold x2 at e
  split at e
  · rename_i u d1 e1
    split at e
    · rename_i v d2 e2
      split at e
      · rename_i c e3
        cases e
        refine sub_open (ha env r O d d1 u A s _ E F hA I e1 fun v1 h1 tk1 r1 k1 dk1 s1 => ?_)
        refine hb env r O d1 d' v A _ _ E F hA (I.keep' k1 dk1) e2 fun v2 h2 tk2 r2 k2 dk2 => ?_
        exact tail_idx hs (s1 _ k2) r2 e3 fun z tk rz => k z h2 tk rz (k1.trans k2) dk2
      · cases e
    · cases e
  · cases e

/-! slices of texts -/
noncomputable def SemO (g : Gd) (l : Nat) (nm : Nms) : Option Expr → Option X → Prop
  | none, none => True
  | some e, some f => SemE g l nm e f
  | _, _ => False
theorem part_sem {e : Option Expr} {f : Option X} (h : SemO g l nm e f) (env : Env) (r : Rho) (O : List Addr) (d d' : Dk) (t : Option Int) (A : Around) (s : Shared) (Q : Value → Shared → Prop) (E : Value → Shared → Prop)
    (F : EnvF nm env) (hA : AOK A l) (I : Inv g env r O d s.heap) (e' : oInt f r d = some (t, d'))
    (k : ∀ (p : Option (Int × Tok)) h' tk, p.map (·.1) = t → Keep g s.heap h' → DeckAt g h' O d' → Q (partValue p) { s with heap := h', toks := tk }) : wpAny (model g.prog g.w) A (evalPart e env) Q E s := by
  cases e with
  | none =>
    cases f with
    | none => cases e'; exact wpAny_evalPart_none (k none s.heap s.toks rfl Keep.refl I.deck)
    | some f => exact h.elim
  | some e =>
    cases f with
    | none => exact h.elim
    | some f =>
      unfold oInt at e'
      dsimp only at e'
      split at e'
      · rename_i i d1 e1
        cases e'
        refine wpAny_evalPart_some (h env r O d d' (.int i) A s _ E F hA I e1 fun v h' tk r1 k1 dk1 => ?_)
        obtain ⟨tt, rfl⟩ := rep_int.mp r1
        exact k (some (i, tt)) h' tk rfl k1 dk1
      · cases e'
theorem noGo (value : Expr) (x : PySem.Str) (t : Tok) (r : Value) : letTemporaryGo value (.str x t) r = pure () := by cases value <;> rfl
theorem e_sl {a : Expr} {lo hi : Option Expr} {f : X} {fl fh : Option X} {pos p : Pos} (ha : SemX g l nm a f) (hl : SemO g l nm lo fl) (hh : SemO g l nm hi fh) : SemE g l nm (.Subscript a (.Slice lo hi none p) pos) (xSl f fl fh) := by
  intro env r O d d' t A s Q E F hA I e k
  unfold xSl at e
  split at e
  · rename_i u d1 e1
    split at e
    · rename_i i d2 e2
      split at e
      · rename_i j d3 e3
        split at e
        · rename_i c e4
          cases e
          refine sub_open (ha env r O d d1 u A s _ E F hA I e1 fun v1 h1 tk1 r1 k1 dk1 s1 => wpAny_Slice ?_)
          have I1 := I.keep' k1 dk1
          refine part_sem hl env r O d1 d2 i A _ _ E F hA I1 e2 fun p1 h2 tk2 q1 k2 dk2 => ?_
          have I2 := I1.keep' k2 dk2
          refine part_sem hh env r O d2 d' j A _ _ E F hA I2 e3 fun p2 h3 tk3 q2 k3 dk3 => ?_
          have I3 := I2.keep' k3 dk3
          refine wpAny_evalPart_none ?_
          unfold tSl at e4
          split at e4
          · rename_i st
            split at e4
            · cases e4
              obtain ⟨⟨ta, rfl⟩, hlen⟩ := repx_str (s1 _ (k2.trans k3))
              refine tail_of_ItemOn (ops := [.ref h3.objs.size, .str ⟨st.toArray⟩ ta]) ⟨"str", _, PySem.F.slot_str_getitem.lookup, typeIs_str _ _ _, wpAny_getItem_str_slice (l := p1) (u := p2) (st := none) ⟨_, Heap.get?_push_size _ rfl, rfl, rfl⟩ rfl ?_⟩ rfl (noGo _ _ _)
              have e5 : Txt.slice ⟨st.toArray⟩ (p1.map (·.1)) (p2.map (·.1)) = ⟨(pySl st i j).toArray⟩ := by rw [q1, q2, txt_slice]
              refine post_val_or_str ?_
              show (Txt.slice ⟨st.toArray⟩ (p1.map (·.1)) (p2.map (·.1))).length ≤ sizeLine ∧ ∀ t' k, Q (.str (Txt.slice ⟨st.toArray⟩ (p1.map (·.1)) (p2.map (·.1))) t') _
              rw [e5]
              have hz := pySl_len st i j
              refine ⟨by rw [str_len]; exact Nat.le_trans hz (Nat.le_trans hlen szL_line), fun t' tk => ?_⟩
              have kp : ∀ c o, h3.get? c = some o → (h3.push { cls := .type "slice", data := .fields #[partValue p1, partValue p2, .none] }).get? c = some o := fun c o e => Heap.get?_push_of_some _ e
              exact k _ _ tk (rep_str.mpr ⟨⟨_, rfl⟩, by omega⟩) (((k1.trans k2).trans k3).trans (Keep.of kp)) (dk3.keep I.dO kp)
            · cases e4
          · cases e4
        · cases e
      · cases e
    · cases e
  · cases e
/-- own[::-1] of a text -/
theorem e_rev {a : Expr} {f : X} {pos p p1 p2 : Pos} {z} (ha : SemE g l nm a f) : SemE g l nm (.Subscript a (.Slice none none (some (.UnaryOp .USub (.Constant (.int 1) z p1) p2)) p) pos) (x1 tRev f) := by
  intro env r O d d' t A s Q E F hA I e k
  unfold x1 at e
  split at e
  · rename_i u d1 e1
    split at e
    · rename_i c e2
      cases e
      refine sub_open (ha env r O d d' u A s _ E F hA I e1 fun v1 h1 tk1 r1 k1 dk1 => wpAny_Slice ?_)
      have I1 := I.keep' k1 dk1
      refine wpAny_evalPart_none (wpAny_evalPart_none (wpAny_evalPart_some (wpAny_UnaryOp (wpAny_Constant_int (PyProof.Rows.neg_int ?_)))))
      dsimp only
      have kp : ∀ tt c o, h1.get? c = some o → (h1.push { cls := .type "slice", data := .fields #[.none, .none, .int (-1) tt] }).get? c = some o := fun tt c o e => Heap.get?_push_of_some _ e
      unfold tRev at e2
      split at e2
      · rename_i st
        cases e2
        obtain ⟨⟨ta, rfl⟩, hlen⟩ := rep_str.mp r1
        refine tail_of_ItemOn (ops := [.str ⟨st.toArray⟩ ta, .ref h1.objs.size]) ⟨"str", _, PySem.F.slot_str_getitem.lookup, typeIs_str _ _ _, wpAny_getItem_str_slice (l := none) (u := none) (st := some (-1, tk1 + 1)) ⟨_, Heap.get?_push_size _ rfl, rfl, rfl⟩ rfl ?_⟩ rfl (noGo _ _ _)
        refine post_val_or_str ?_
        show (Txt.sliceBy ⟨st.toArray⟩ none none (-1, tk1 + 1)).length ≤ sizeLine ∧ ∀ t' k, Q (.str (Txt.sliceBy ⟨st.toArray⟩ none none (-1, tk1 + 1)) t') _
        rw [txt_rev]
        refine ⟨by rw [str_len, List.length_reverse]; exact Nat.le_trans hlen szL_line, fun t' tk => ?_⟩
        exact k _ _ tk (rep_str.mpr ⟨⟨_, rfl⟩, by rw [List.length_reverse]; exact hlen⟩) (k1.trans (Keep.of (kp _))) (dk1.keep I.dO (kp _))
      · rename_i xs
        cases e2
        obtain ⟨la, vs, rfl, hla, ⟨n, p⟩, hlen, rr⟩ := rep_list.mp r1
        have kp' := kp (tk1 + 1)
        have pl : (h1.push { cls := .type "slice", data := .fields #[.none, .none, .int (-1) (tk1 + 1)] }).IsList la vs.toArray := ⟨_, kp' _ _ p, rfl, n, rfl⟩
        refine tail_any (ops := [.ref la, .ref h1.objs.size]) pl.typeIs slot_list_getitem.lookup ?_ rfl
        refine wpAny_getItem_list_slice pl (vl := .none) (vu := .none) (vs := .int (-1) (tk1 + 1)) ⟨_, Heap.get?_push_size _ rfl, rfl, rfl⟩ .none .none (.int (-1) (tk1 + 1)) (by decide) ?_ (by simpa using Nat.le_trans hlen szL_line)
        rw [pick_rev]
        have kp2 : ∀ c o, h1.get? c = some o → ((h1.push { cls := .type "slice", data := .fields #[.none, .none, .int (-1) (tk1 + 1)] }).push { cls := .type "list", data := .seq vs.reverse.toArray }).get? c = some o := fun c o e => Heap.get?_push_of_some _ (kp' c o e)
        refine k _ _ (tk1 + 1 + 1) (rep_list.mpr ⟨_, _, rfl, ?_, ⟨0, Heap.get?_push_size _ rfl⟩, by rw [List.length_reverse]; exact hlen, ?_⟩) (k1.trans (Keep.of kp2)) (dk1.keep I.dO kp2)
        · intro q
          obtain ⟨o, ho⟩ := I1.pres _ q
          have := Heap.lt_size ho
          simp at this
          exact absurd this (Nat.not_lt.mpr (Nat.le_succ _))
        · exact rr.reverse.conv fun c o hc e => ⟨kp2 c o e, hc⟩
      · cases e2
    · cases e
  · cases e
end Mine
end

section
open PySem PySem.W PyProof.Rows PySem.Calls PySem.Spec PyProof.V PySem.SeqAt
set_option maxRecDepth 10000
set_option linter.unusedVariables false
namespace Mine
variable {g : Gd} {l : Nat} {nm : Nms}

/-! arguments -/
noncomputable def NS (e : Expr) : Prop := ∀ (rest : List Expr) (env : Env), starEach (e :: rest) env = (false, eval e env) :: starEach rest env
inductive SemEs (g : Gd) (l : Nat) (nm : Nms) : List Expr → List X → Prop
  | nil : SemEs g l nm [] []
  | cons {e es f fs} : NS e → SemE g l nm e f → SemEs g l nm es fs → SemEs g l nm (e :: es) (f :: fs)
theorem args_sem {es : List Expr} {fs : List X} (h : SemEs g l nm es fs) : ∀ (env : Env) (r : Rho) (O : List Addr) (d d' : Dk) (ts : List T) (A : Around) (s : Shared) (pos : Pos) (Q : List Value → Shared → Prop) (E : Value → Shared → Prop),
    EnvF nm env → AOK A l → Inv g env r O d s.heap → xs fs r d = some (ts, d') →
    (∀ vs h' tk, Reps g h' O ts vs → Keep g s.heap h' → DeckAt g h' O d' → Q vs { s with heap := h', toks := tk }) → wpAny (model g.prog g.w) A (spliced (backTo pos (starEach es env))) Q E s := by
  induction h with
  | nil => intro env r O d d' ts A s pos Q E F hA I e k; cases e; exact wpAny_pure (k [] s.heap s.toks Reps.nil Keep.refl I.deck)
  | cons hn h1 h2 ih =>
    intro env r O d d' ts A s pos Q E F hA I e k
    unfold xs at e
    split at e
    · rename_i a d1 e1
      split at e
      · rename_i as d2 e2
        cases e
        rw [hn]
        refine spliced_cons ?_
        refine h1 env r O d d1 a A s _ E F hA I e1 fun v h' tk r1 k1 dk1 => ?_
        refine ih env r O d1 d' as A _ pos _ E F hA (I.keep' k1 dk1) e2 fun vs h'' tk' rs k2 dk2 => ?_
        exact k (v :: vs) h'' tk' (.cons (r1.keep I.dO k2) rs) (k1.trans k2) dk2
      · cases e
    · cases e
theorem backTo_plain {pos : Pos} {es : List Expr} {fs : List X} {env : Env} (h : SemEs g l nm es fs) : (backTo pos (starEach es env)).any (·.1) = false := by
  induction h with
  | nil => rfl
  | cons hn h1 h2 ih => rw [hn]; exact ih

/-- who keeps a called value -/
noncomputable def Kept (g : Gd) (f : Value) : Prop := ∀ h : Heap, (∀ b o, g.base.get? b = some o → h.get? b = some o) → ∃ k, (k = Keeper.frame ∨ k = Keeper.machine ∨ k = Keeper.boundFrame) ∧ Looks (model g.prog g.w) h (keeperOf f) k
theorem kept_fn (G : GOK g) {f : Value} (hk : keepIn g.K f = true) : Kept g f := fun h hb => keeps_K hk h (G.K.keeps hb)
theorem kept_bi {i : String} : Kept g (.builtin i) := fun h hb => ⟨.machine, .inr (.inl rfl), Looks.of_pure rfl⟩
theorem kept_ty {i : String} : Kept g (.type i) := fun h hb => ⟨.machine, .inr (.inl rfl), Looks.of_pure rfl⟩

theorem callWith_sem {es : List Expr} {fs : List X} (h : SemEs g l nm es fs) {f : Value} {first : List Value} (hf : Kept g f) (env : Env) (r : Rho) (O : List Addr) (d d' : Dk) (ts : List T) (A : Around) (s : Shared) (pos : Pos) (Q : Value → Shared → Prop) (E : Value → Shared → Prop)
    (F : EnvF nm env) (hA : AOK A l) (I : Inv g env r O d s.heap) (e : xs fs r d = some (ts, d'))
    (k : ∀ vs h' tk, Reps g h' O ts vs → Keep g s.heap h' → DeckAt g h' O d' → wpAny (model g.prog g.w) A (call f (first ++ vs)) Q E { s with heap := h', toks := tk }) :
    wpAny (model g.prog g.w) A (callWith pos f first (backTo pos (starEach es env)) (backToKw pos (keywordEach [] env))) Q E s := by
  refine callWith_of (P := fun h => ∀ b o, g.base.get? b = some o → h.get? b = some o) (by rw [backTo_plain h]; rfl) hf ?_
  have fin : wpAny (model g.prog g.w) A (spliced (backTo pos (starEach es env))) (fun vs s1 => (∀ b o, g.base.get? b = some o → s1.heap.get? b = some o) ∧ wpAny (model g.prog g.w) A (call f (first ++ vs) []) Q E s1) E s :=
    args_sem h env r O d d' ts A s pos _ E F hA I e fun vs h' tk rs k1 dk1 => ⟨(I.keep' k1 dk1).base, k vs h' tk rs k1 dk1⟩
  cases h with
  | nil => cases e; exact evalArgs_nil3 ⟨I.base, k [] s.heap s.toks Reps.nil Keep.refl I.deck⟩
  | cons hn h1 h2 =>
    rw [hn] at fin ⊢
    exact evalArgs_plain fin

/-! a def -/
theorem e_call {n : PySem.Str} {sp : List T → M T} {lc : Nat} {es : List Expr} {fs : List X} {np pos : Pos} (G : GOK g) (c : Contract g n sp lc) (hl : lc ≤ l) (hn : nm.lookup n = some .globalImplicit) (hd : (n == ("__debug__" : PySem.Str)) = false)
    (h : SemEs g l nm es fs) : SemE g l nm (.Call (.Name n np) es [] pos) (xCall sp fs) := by
  intro env r O d d' t A s Q E F hA I e k
  obtain ⟨a, hm, hk, c⟩ := c
  unfold xCall at e
  split at e
  · rename_i as d1 e1
    refine wpAny_Call_ofName (load_glob G F I.base hn hm ?_ hd)
    refine callWith_sem h (kept_fn G hk) env r O d d1 as A s pos Q E F hA I e1 fun vs h' tk rs k1 dk1 => ?_
    have I1 := I.keep' k1 dk1
    have hA' : AOK A lc := ⟨hA.1, by have := hA.2.1; omega, by have := hA.2.2; omega⟩
    exact c A _ O as vs d1 d' t Q E hA' I1.base I.baseD I.dO I1.pres I.ob dk1 rs e fun v h'' tk' rv k2 dk2 => k v h'' tk' rv (k1.trans k2) dk2
  · cases e

/-! built-ins of one argument -/
noncomputable def Prim1 (g : Gd) (op : T → Option T) (m : Value → Sem Value) : Prop :=
  ∀ (A : Around) (l : Nat) (s : Shared) (O : List Addr) (a t : T) (u : Value) (Q : Value → Shared → Prop) (E : Value → Shared → Prop),
    AOK A l → (∀ x ∈ O, ∃ o, s.heap.get? x = some o) → Rep g s.heap O a u → op a = some t →
    (∀ z h' tk, Rep g h' O t z → (∀ c o, s.heap.get? c = some o → h'.get? c = some o) → Q z { s with heap := h', toks := tk }) → wpAny (model g.prog g.w) A (m u) Q E s
theorem e_bi1 {n : PySem.Str} {op : T → Option T} {f : Value} {a : Expr} {fa : X} {np pos : Pos} (G : GOK g) (b : Bi g n f) (hf : Kept g f) (p : Prim1 g op fun v => call f [v]) (hn : nm.lookup n = some .globalImplicit) (hd : (n == ("__debug__" : PySem.Str)) = false)
    (ns : NS a) (h : SemE g l nm a fa) : SemE g l nm (.Call (.Name n np) [a] [] pos) (x1 op fa) := by
  intro env r O d d' t A s Q E F hA I e k
  unfold x1 at e
  split at e
  · rename_i u d1 e1
    split at e
    · rename_i c e2
      cases e
      refine wpAny_Call_ofName (load_bi G F I.base hn b ?_ hd)
      refine callWith_sem (.cons ns h .nil) hf env r O d d' [u] A s pos Q E F hA I (by unfold xs; rw [e1]; rfl) fun vs h' tk rs k1 dk1 => ?_
      have I1 := I.keep' k1 dk1
      unfold Reps at rs
      obtain ⟨v, ws, rfl, rv, rs⟩ := rs
      unfold Reps at rs
      subst rs
      exact p A l _ O u t v Q E hA I1.pres rv e2 fun z h'' tk' rz k2 => k z h'' tk' rz (k1.trans (Keep.of k2)) (dk1.keep I.dO k2)
    · cases e
  · cases e

theorem ints_are {h : Heap} {O : List Addr} : ∀ {xs : List T} {vs : List Value} {ns : List Int}, Reps g h O xs vs → tInts xs = some ns → IntsAre vs ns
  | [], vs, ns, x, e => by unfold Reps at x; subst x; cases e; exact .nil
  | t :: ts, vs, ns, x, e => by
    unfold Reps at x
    obtain ⟨v, ws, rfl, r, rs⟩ := x
    cases t <;> first | (unfold tInts at e; cases e; done) | skip
    unfold tInts at e
    obtain ⟨ms, e1, rfl⟩ := Option.map_eq_some_iff.mp e
    obtain ⟨tt, rfl⟩ := rep_int.mp r
    exact .cons _ _ (ints_are rs e1)
theorem strs_are {h : Heap} {O : List Addr} : ∀ {xs : List T} {vs : List Value} {ns : List (List Nat)}, Reps g h O xs vs → tStrs xs = some ns → StrsAre vs (ns.map fun s => (⟨s.toArray⟩ : PySem.Str))
  | [], vs, ns, x, e => by unfold Reps at x; subst x; cases e; exact .nil
  | t :: ts, vs, ns, x, e => by
    unfold Reps at x
    obtain ⟨v, ws, rfl, r, rs⟩ := x
    cases t <;> first | (unfold tStrs at e; cases e; done) | skip
    unfold tStrs at e
    obtain ⟨ms, e1, rfl⟩ := Option.map_eq_some_iff.mp e
    obtain ⟨⟨tt, rfl⟩, _⟩ := rep_str.mp r
    exact .cons _ _ (strs_are rs e1)
theorem szL_63 {n : Nat} (h : n ≤ szL) : (n : Int) < 2 ^ 63 := by unfold szL at h; omega

theorem p_len : Prim1 g tLen fun v => call (.builtin "len") [v] := by
  intro A l s O a t u Q E hA hp ra e k
  unfold tLen at e
  split at e
  · cases e
    obtain ⟨⟨tt, rfl⟩, hl⟩ := rep_str.mp ra
    refine PyProof.Rows.len_str ?_ (k _ s.heap _ (rep_int.mpr ⟨_, by rw [str_len]⟩) fun _ _ e => e)
    rw [str_len]; have := szL_63 hl; omega
  · cases e
    obtain ⟨la, vs, rfl, _, p, hl, r⟩ := rep_list.mp ra
    refine call_len_list (PlainList_is p) ?_ (k _ s.heap _ (rep_int.mpr ⟨_, by rw [List.size_toArray, r.length]⟩) fun _ _ e => e)
    rw [List.size_toArray]; exact szL_63 hl
  · cases e
    unfold Rep at ra
    obtain ⟨sa, o, S, rfl, _, ho, ⟨hex, es, ep, t, hd, _, _, hn, hf⟩, hs⟩ := ra
    subst hn
    exact call_len_set ho hex hd hf (by omega) (k _ s.heap _ (rep_int.mpr ⟨_, rfl⟩) fun _ _ e => e)
  · cases e
theorem p_ord : Prim1 g tOrd fun v => call (.builtin "ord") [v] := by
  intro A l s O a t u Q E hA hp ra e k
  unfold tOrd at e
  split at e
  · cases e
    obtain ⟨⟨tt, rfl⟩, hl⟩ := rep_str.mp ra
    refine ord_of_one (by rw [str_len]; rfl) (k _ s.heap _ (rep_int.mpr ⟨_, rfl⟩) fun _ _ e => e)
  · cases e
theorem p_chr : Prim1 g tChr fun v => call (.builtin "chr") [v] := by
  intro A l s O a t u Q E hA hp ra e k
  unfold tChr at e
  split at e
  · split at e
    · rename_i h
      cases e
      obtain ⟨tt, rfl⟩ := rep_int.mp ra
      exact chr_of_range h.1 h.2 (k _ s.heap _ (rep_str.mpr ⟨⟨_, rfl⟩, by simp [szL]⟩) fun _ _ e => e)
    · cases e
  · cases e
theorem minL_spec : ∀ (r : List Int) (a : Int), minL a r ∈ a :: r ∧ ∀ x ∈ a :: r, minL a r ≤ x
  | [], a => by simp [minL]
  | b :: r, a => by
    have hc : ∃ c, (if b < a then b else a) = c ∧ c ≤ a ∧ c ≤ b ∧ (c = a ∨ c = b) := by
      by_cases h : b < a
      · exact ⟨b, if_pos h, by omega, by omega, .inr rfl⟩
      · exact ⟨a, if_neg h, by omega, by omega, .inl rfl⟩
    obtain ⟨c, e, ca, cb, cc⟩ := hc
    unfold minL
    rw [e]
    obtain ⟨h1, h2⟩ := minL_spec r c
    have h3 := h2 _ (.head _)
    constructor
    · rcases List.mem_cons.mp h1 with e | e
      · rw [e]; rcases cc with rfl | rfl <;> simp
      · exact .tail _ (.tail _ e)
    · intro x hx
      rcases List.mem_cons.mp hx with hx | hx
      · omega
      · rcases List.mem_cons.mp hx with hx | hx
        · omega
        · exact h2 x (.tail _ hx)
theorem p_min : Prim1 g tMin fun v => call (.builtin "min") [v] := by
  intro A l s O a t u Q E hA hp ra e k
  unfold tMin at e
  split at e
  · rename_i ts
    split at e
    · rename_i b r hi
      cases e
      obtain ⟨la, vs, rfl, _, p, hl, rr⟩ := rep_list.mp ra
      have ia := ints_are rr hi
      have il : s.heap.IsList la vs.toArray := PlainList_is p
      obtain ⟨xs, hx⟩ := ia.allInts.items
      have hlen : vs.length = (b :: r).length := ia.length.symm ▸ rfl
      have hsz : 0 < xs.size := by have := congrArg Array.size hx; simp [intItems] at this; rw [← this, hlen]; simp
      rw [hx] at il
      have hnums : (xs.toList.map (·.1)) = b :: r := by
        have h1 := ia.numsOf
        have h2 := nums_intItems xs
        rw [← hx] at h2
        rw [← h2]; exact h1
      refine min_intList hA.1 il hsz fun v h' tk hv hk => ?_
      obtain ⟨tt, rfl⟩ := intItems_at hv
      obtain ⟨h1, h2⟩ := argBest_lt (numAt xs) (xs.size - 1)
      refine k _ h' tk (rep_int.mpr ⟨tt, ?_⟩) hk
      congr 1
      have m1 : numAt xs (argBest (fun i j => decide (numAt xs i < numAt xs j)) (xs.size - 1)) ∈ b :: r := by
        rw [numAt_eq, hnums]; exact getD_mem (by rw [← hnums, List.length_map, Array.length_toList]; omega)
      have m2 : ∀ a ∈ b :: r, numAt xs (argBest (fun i j => decide (numAt xs i < numAt xs j)) (xs.size - 1)) ≤ a := fun a ha => by
        rw [← hnums] at ha
        obtain ⟨j, hj, rfl⟩ := mem_getD ha
        rw [List.length_map, Array.length_toList] at hj
        rw [← numAt_eq]; exact h2 j (by omega)
      obtain ⟨q1, q2⟩ := minL_spec r b
      have := q2 _ m1
      have := m2 _ q1
      omega
    · cases e
  · cases e
theorem fold_step (l : List Int) : ∀ (acc : List Int), l.foldl stepD acc = l.foldl (PyProof.Rows.step_dedup) acc := by
  induction l with
  | nil => intro _; rfl
  | cons a l ih => intro acc; exact ih _
theorem p_set : Prim1 g tSet fun v => call (.type "set") [v] := by
  intro A l s O a t u Q E hA hp ra e k
  unfold tSet at e
  split at e
  · rename_i ts
    split at e
    · rename_i ns hi
      split at e
      · rename_i hlen
        cases e
        obtain ⟨la, vs, rfl, _, p, hl, rr⟩ := rep_list.mp ra
        have ia := ints_are rr hi
        refine call_set_list hA.1 (PlainList_is p) (ns := ns) (by simpa using ia) (by rw [List.size_toArray, ia.length]; unfold scanBound; omega) fun h' tk hS hk => ?_
        obtain ⟨o, ho, so⟩ := hS.objOf
        have e1 : firstMet (fun i => ns.getD i 0) vs.toArray.size = ns.foldl stepD [] := by
          rw [fold_step]
          unfold firstMet
          congr 1
          rw [List.size_toArray, ia.length]
          apply List.ext_getElem
          · simp
          · intro i h1 h2
            simp [List.getD, h2]
        rw [e1] at so
        have kk : ∀ c o, s.heap.get? c = some o → h'.get? c = some o := fun c o e => hk c o (Heap.lt_size e) e
        refine k _ h' tk ?_ kk
        unfold Rep
        refine ⟨_, o, _, rfl, fresh_notin hp, ho, so, ?_⟩
        have := firstMet_length_le (fun i => ns.getD i 0) vs.toArray.size
        rw [e1, List.size_toArray, ia.length] at this
        omega
      · cases e
    · cases e
  · cases e
theorem p_repr : Prim1 g tRepr fun v => call (.builtin "repr") [v] := by
  intro A l s O a t u Q E hA hp ra e k
  unfold tRepr at e
  split at e
  · cases e
    have := rep_bool.mp ra; subst this
    exact PySem.P.repr_of_bool (k _ s.heap _ (rep_str.mpr ⟨⟨_, by congr 1⟩, by simp [szL]⟩) fun _ _ e => e)
  · cases e
theorem p_range : Prim1 g tRange1 fun v => call (.type "range") [v] := by
  intro A l s O a t u Q E hA hp ra e k
  unfold tRange1 at e
  split at e
  · split at e
    · rename_i hf
      cases e
      obtain ⟨tt, rfl⟩ := rep_int.mp ra
      refine call_range_1 (k _ _ _ ?_ fun c o e => Heap.get?_push_of_some _ e)
      unfold Rep
      exact ⟨rfl, hf.1, _, _, _, _, rfl, fresh_notin hp, Heap.get?_push_size _ rfl⟩
    · cases e
  · cases e
end Mine
end

section
open PySem PySem.W PyProof.Rows PySem.Calls PySem.Spec PyProof.V PySem.SeqAt
set_option maxRecDepth 10000
set_option linter.unusedVariables false
namespace Mine
variable {g : Gd} {l : Nat} {nm : Nms}

theorem small_iff {i : Int} (h : small i = true) : -1073741824 < i ∧ i < 1073741824 := of_decide_eq_true h
theorem reps_list (c : List Nat) : ∀ (k : Nat) (acc : List Nat), ((List.replicate k c.toArray).foldl (· ++ ·) acc.toArray) = (acc ++ List.flatten (List.replicate k c)).toArray
  | 0, acc => by simp
  | k + 1, acc => by
    rw [List.replicate_succ, List.foldl_cons, List.replicate_succ, List.flatten_cons, ← List.append_assoc, ← reps_list c k (acc ++ c)]
    simp
theorem p_mul : Prim2 g tMul (binaryOp .Mult) := by
  intro A l s O a b t u v Q E hA hp ra rb e k
  unfold tMul at e
  split at e
  · split at e
    · rename_i h
      cases e
      obtain ⟨ta, rfl⟩ := rep_int.mp ra; obtain ⟨tb, rfl⟩ := rep_int.mp rb
      have h := Bool.and_eq_true_iff.mp h
      have := small_iff h.1
      exact PyProof.Rows.mul_int (k _ _ _ (rep_int.mpr ⟨_, rfl⟩) fun _ _ e => e) (IntMulOk.of_left (intBits_le_64 (by omega) (by omega)))
    · cases e
  · rename_i st n
    split at e
    · rename_i h
      cases e
      obtain ⟨⟨ta, rfl⟩, _⟩ := rep_str.mp ra; obtain ⟨tb, rfl⟩ := rep_int.mp rb
      refine PySem.SB.mul (mulOk_of 64 64 (by rw [str_len]; exact h.2.2) (by omega) (by omega) (by decide) (by decide)) fun t' tk => ?_
      have e1 : Txt.mul ⟨st.toArray⟩ n = ⟨(List.flatten (List.replicate n.toNat st)).toArray⟩ := by
        unfold Txt.mul
        rw [str_len]
        split
        · have : n.toNat = 0 := by omega
          rw [this]; rfl
        · split
          · rename_i h1 h2
            simp only [Bool.or_eq_true, beq_iff_eq] at h2
            rcases h2 with h2 | h2
            · subst h2; simp
            · have : st = [] := List.length_eq_zero_iff.mp h2
              subst this; simp
          · have := reps_list st n.toNat []
            simp at this
            simp [this]
      rw [e1]
      refine k _ s.heap tk (rep_str.mpr ⟨⟨_, rfl⟩, ?_⟩) fun _ _ e => e
      have h2 := h.2.2
      have h3 : n.toNat ≤ 64 := by omega
      have : (List.flatten (List.replicate n.toNat st)).length = n.toNat * st.length := by simp
      rw [this]
      exact Nat.le_trans (Nat.mul_le_mul h3 h2) (by decide)
    · cases e
  · cases e
theorem p_fdiv : Prim2 g tFdiv (binaryOp .FloorDiv) := by
  intro A l s O a b t u v Q E hA hp ra rb e k
  unfold tFdiv at e
  split at e
  · split at e
    · cases e
    · rename_i h
      cases e
      obtain ⟨ta, rfl⟩ := rep_int.mp ra; obtain ⟨tb, rfl⟩ := rep_int.mp rb
      have h0 : _ ≠ (0 : Int) := fun q => h (.inl q)
      have h1 := fun q => h (.inr q)
      rename_i x y
      have h2 : (small x && small y) = true := by
        cases hs : (small x && small y) with
        | true => rfl
        | false => exact absurd (by rw [hs]; rfl) h1
      have h2 := Bool.and_eq_true_iff.mp h2
      have hx := small_iff h2.1
      have hy := small_iff h2.2
      exact PyProof.Rows.floordiv_int h0 (k _ _ _ (rep_int.mpr ⟨_, rfl⟩) fun _ _ e => e) (.inl (PyProof.noPylong_small (by omega)))
  · cases e

/-! isinstance(x, str) -/
theorem e_isstr {a : Expr} {f : X} {np np2 pos : Pos} (G : GOK g) (b : Bi g "isinstance" (.builtin "isinstance")) (b2 : Bi g "str" (.type "str"))
    (hn : nm.lookup (PySem.Str.ofString "isinstance") = some .globalImplicit) (hn2 : nm.lookup (PySem.Str.ofString "str") = some .globalImplicit) (ns : NS a) (h : SemE g l nm a f) :
    SemE g l nm (.Call (.Name "isinstance" np) [a, .Name "str" np2] [] pos) (x1 tIsStr f) := by
  intro env r O d d' t A s Q E F hA I e k
  unfold x1 at e
  split at e
  · rename_i u d1 e1
    split at e
    · rename_i c e2
      cases e
      refine wpAny_Call_ofName (load_bi G F I.base hn b ?_)
      have ns2 : starEach [a, .Name "str" np2] env = [(false, eval a env), (false, eval (.Name "str" np2) env)] := by rw [ns]; rfl
      refine callWith_of (P := fun h => ∀ b o, g.base.get? b = some o → h.get? b = some o) (by rw [ns2]; rfl) kept_bi ?_
      rw [ns2]
      refine evalArgs_plain (spliced_cons ?_)
      refine h env r O d d' u A s _ E F hA I e1 fun v h1 tk1 r1 k1 dk1 => spliced_cons ?_
      have I1 := I.keep' k1 dk1
      show wpAny _ _ (eval (.Name "str" np2) env) _ _ _
      refine load_bi G F I1.base hn2 b2 (wpAny_pure ⟨I1.base, ?_⟩)
      show wpAny _ _ (call (.builtin "isinstance") [v, .type "str"]) _ _ _
      unfold tIsStr at e2
      split at e2
      · cases e2
        obtain ⟨⟨tt, rfl⟩, _⟩ := rep_str.mp r1
        exact PySem.IsiPair.str_str (k _ h1 tk1 (rep_bool.mpr rfl) k1 dk1)
      · cases e2
        obtain ⟨tt, rfl⟩ := rep_int.mp r1
        exact PySem.IsiPair.int_str (k _ h1 _ (rep_bool.mpr rfl) k1 dk1)
      · cases e2
    · cases e
  · cases e

theorem e_range2 {a b : Expr} {fa fb : X} {np pos : Pos} (G : GOK g) (bi : Bi g "range" (.type "range")) (hn : nm.lookup (PySem.Str.ofString "range") = some .globalImplicit) (na : NS a) (nb : NS b) (ha : SemE g l nm a fa) (hb : SemE g l nm b fb) :
    SemE g l nm (.Call (.Name "range" np) [a, b] [] pos) (x2 tRange2 fa fb) := by
  intro env r O d d' t A s Q E F hA I e k
  unfold x2 at e
  split at e
  · rename_i u d1 e1
    split at e
    · rename_i v d2 e2
      split at e
      · rename_i c e3
        cases e
        refine wpAny_Call_ofName (load_bi G F I.base hn bi ?_)
        refine callWith_sem (.cons na ha (.cons nb hb .nil)) kept_ty env r O d d' [u, v] A s pos Q E F hA I (by simp [xs, e1, e2]) fun vs h' tk rs k1 dk1 => ?_
        have I1 := I.keep' k1 dk1
        unfold Reps at rs
        obtain ⟨v1, ws, rfl, r1, rs⟩ := rs
        unfold Reps at rs
        obtain ⟨v2, ws, rfl, r2, rs⟩ := rs
        unfold Reps at rs
        subst rs
        unfold tRange2 at e3
        split at e3
        · split at e3
          · rename_i hf
            cases e3
            obtain ⟨t1, rfl⟩ := rep_int.mp r1; obtain ⟨t2, rfl⟩ := rep_int.mp r2
            have kp : ∀ (ob : Obj) c o, h'.get? c = some o → (h'.push ob).get? c = some o := fun ob c o e => Heap.get?_push_of_some _ e
            refine call_range_2 (k _ _ _ ?_ (k1.trans (Keep.of (kp _))) (dk1.keep I.dO (kp _)))
            unfold Rep
            exact ⟨hf.1, hf.2.1, _, _, _, _, rfl, fresh_notin I1.pres, Heap.get?_push_size _ rfl⟩
          · cases e3
        · cases e3
      · cases e
    · cases e
  · cases e

/-! methods of texts -/
theorem join_eq (sep : List Nat) : ∀ (ys : List (List Nat)), Txt.join ⟨sep.toArray⟩ (ys.map fun s => (⟨s.toArray⟩ : PySem.Str)) = ⟨(List.flatten (ys.intersperse sep)).toArray⟩
  | [] => by rfl
  | [y] => by
    show Builtin.Str.glued _ _ = _
    rw [StrLaws.glued_eq_join]
    simp [PySem.Str.join]
  | y :: z :: r => by
    have ih := join_eq sep (z :: r)
    show Builtin.Str.glued _ _ = _
    have ih' : Builtin.Str.glued ⟨sep.toArray⟩ ((z :: r).map fun s => (⟨s.toArray⟩ : PySem.Str)) = ⟨(List.flatten ((z :: r).intersperse sep)).toArray⟩ := ih
    rw [StrLaws.glued_eq_join] at ih' ⊢
    simp only [List.map_cons] at ih' ⊢
    rw [PySem.Str.join]
    · rw [ih', str_app, str_app]
      congr 1
      simp [List.intersperse]
    · simp
theorem sum_le {L : List (List Nat)} (h : L.all (fun s => decide (s.length ≤ 500)) = true) : (L.map List.length).sum ≤ 500 * L.length := by
  induction L with
  | nil => simp
  | cons a L ih =>
    simp only [List.all_cons, Bool.and_eq_true, decide_eq_true_eq] at h
    have := ih h.2
    simp only [List.map_cons, List.sum_cons, List.length_cons]
    omega
theorem flat_len (sep : List Nat) : ∀ (L : List (List Nat)), (List.flatten (L.intersperse sep)).length ≤ (L.map List.length).sum + L.length * sep.length
  | [] => by simp
  | [y] => by simp
  | y :: z :: r => by
    have ih := flat_len sep (z :: r)
    simp only [List.intersperse, List.flatten_cons, List.length_append, List.map_cons, List.sum_cons, List.length_cons] at ih ⊢
    have : (r.length + 1 + 1) * sep.length = (r.length + 1) * sep.length + sep.length := Nat.succ_mul _ _
    omega
theorem few1 {a : Expr} {env : Env} {pos : Pos} (ns : NS a) : ((backTo pos (starEach [a] env)).all (fun x => !x.1) && (backToKw pos (keywordEach [] env)).all (fun x => x.1.isSome)
      && decide (([a] : List Expr).length + ([] : List Keyword).length + (if ([] : List Keyword).isEmpty then 0 else 1) < 30)) = true := by
  rw [ns]; rfl
theorem e_join {o a : Expr} {fo fa : X} {apos pos : Pos} (hline : (apos.endLine == pos.line) = true) (hbase : ∀ env, attributeBase o "join" env (eval o env) = eval o env) (na : NS a) (ho : SemE g l nm o fo) (ha : SemE g l nm a fa) :
    SemE g l nm (.Call (.Attribute o "join" apos) [a] [] pos) (x2 tJoin fo fa) := by
  intro env r O d d' t A s Q E F hA I e k
  unfold x2 at e
  split at e
  · rename_i u d1 e1
    split at e
    · rename_i v d2 e2
      split at e
      · rename_i c e3
        cases e
        unfold tJoin at e3
        split at e3
        · rename_i sep ts
          split at e3
          · rename_i L hL
            split at e3
            · rename_i hz
              cases e3
              refine wpAny_Call_method (hbase env) (few1 na) hline PySem.F.plainAttrs_str PySem.F.slot_str_join PySem.F.type_str_join ?_
              refine ho env r O d d1 _ A s _ E F hA I e1 fun v1 h1 tk1 r1 k1 dk1 => ?_
              obtain ⟨⟨t1, rfl⟩, _⟩ := rep_str.mp r1
              refine ⟨typeIs_str _ _ _, fun a e => (nomatch e), ?_⟩
              have I1 := I.keep' k1 dk1
              refine callWith_sem (.cons na ha .nil) kept_bi env r O d1 d' _ A _ pos Q E F hA I1 (by unfold xs; rw [e2]; rfl) fun vs h2 tk2 rs k2 dk2 => ?_
              unfold Reps at rs
              obtain ⟨v2, ws, rfl, r2, rs⟩ := rs
              unfold Reps at rs
              subst rs
              obtain ⟨la, vs, rfl, _, p, hl, rr⟩ := rep_list.mp r2
              have sa := strs_are rr hL
              have e5 : (List.map (fun x => x.length) (L.map fun s => (⟨s.toArray⟩ : PySem.Str))) = L.map List.length := by simp [str_len, Function.comp_def]
              have s1 := sum_le hz.2.2
              have s2 : L.length * sep.length ≤ 1000 * 64 := Nat.mul_le_mul hz.2.1 hz.1
              refine join_list (PlainList_is p) (by simpa using sa) ?_ fun t' tk => ?_
              · rw [e5, str_len, List.length_map]; omega
              · rw [join_eq]
                refine k _ h2 tk (rep_str.mpr ⟨⟨_, rfl⟩, ?_⟩) (k1.trans k2) dk2
                have := flat_len sep L
                unfold szL; omega
            · cases e3
          · cases e3
        · cases e3
      · cases e
    · cases e
  · cases e
theorem few0 {env : Env} {pos : Pos} : ((backTo pos (starEach [] env)).all (fun x => !x.1) && (backToKw pos (keywordEach [] env)).all (fun x => x.1.isSome)
      && decide (([] : List Expr).length + ([] : List Keyword).length + (if ([] : List Keyword).isEmpty then 0 else 1) < 30)) = true := rfl
theorem ascii_iff {s : List Nat} (h : ascii s = true) : ∀ c ∈ (⟨s.toArray⟩ : PySem.Str).cps.toList, c < 128 := by
  simp only [ascii, List.all_eq_true, decide_eq_true_eq] at h
  simpa using h
theorem notTooLong {n : Nat} (h : n ≤ 1000) : Builtin.Str.tooLong n = false := by
  have h1 : (1000 : Nat) ≤ sizeLine := by decide
  unfold Builtin.Str.tooLong
  exact decide_eq_false (by omega)
theorem e_upper {o : Expr} {fo : X} {apos pos : Pos} (hline : (apos.endLine == pos.line) = true) (hbase : ∀ env, attributeBase o "upper" env (eval o env) = eval o env) (ho : SemE g l nm o fo) :
    SemE g l nm (.Call (.Attribute o "upper" apos) [] [] pos) (x1 tUpper fo) := by
  intro env r O d d' t A s Q E F hA I e k
  unfold x1 at e
  split at e
  · rename_i u d1 e1
    split at e
    · rename_i c e3
      cases e
      unfold tUpper at e3
      split at e3
      · rename_i st
        split at e3
        · rename_i hz
          cases e3
          refine wpAny_Call_method (hbase env) few0 hline PySem.F.plainAttrs_str PySem.F.slot_str_upper PySem.F.type_str_upper ?_
          refine ho env r O d d' _ A s _ E F hA I e1 fun v1 h1 tk1 r1 k1 dk1 => ?_
          obtain ⟨⟨t1, rfl⟩, _⟩ := rep_str.mp r1
          refine ⟨typeIs_str _ _ _, fun a e => (nomatch e), ?_⟩
          have I1 := I.keep' k1 dk1
          refine callWith_sem (nm := nm) .nil kept_bi env r O d' d' [] A _ pos Q E F hA I1 rfl fun vs h2 tk2 rs k2 dk2 => ?_
          unfold Reps at rs
          subst rs
          have e5 : Txt.upper ⟨st.toArray⟩ = ⟨(st.map Mine.up1).toArray⟩ := by
            rw [upper_ascii (ascii_iff hz.1)]; simp [Mine.up1, PyProof.Rows.up1]
          refine PySem.SC.upper ?_ ?_
          · rw [e5, str_len, List.length_map]; exact notTooLong hz.2
          · rw [e5]
            exact k _ h2 _ (rep_str.mpr ⟨⟨_, rfl⟩, by rw [List.length_map]; exact Nat.le_trans hz.2 (by decide)⟩) (k1.trans k2) dk2
        · cases e3
      · cases e3
    · cases e
  · cases e
theorem e_lower {o : Expr} {fo : X} {apos pos : Pos} (hline : (apos.endLine == pos.line) = true) (hbase : ∀ env, attributeBase o "lower" env (eval o env) = eval o env) (ho : SemE g l nm o fo) :
    SemE g l nm (.Call (.Attribute o "lower" apos) [] [] pos) (x1 tLower fo) := by
  intro env r O d d' t A s Q E F hA I e k
  unfold x1 at e
  split at e
  · rename_i u d1 e1
    split at e
    · rename_i c e3
      cases e
      unfold tLower at e3
      split at e3
      · rename_i st
        split at e3
        · rename_i hz
          cases e3
          refine wpAny_Call_method (hbase env) few0 hline PySem.F.plainAttrs_str PySem.F.slot_str_lower PySem.F.type_str_lower ?_
          refine ho env r O d d' _ A s _ E F hA I e1 fun v1 h1 tk1 r1 k1 dk1 => ?_
          obtain ⟨⟨t1, rfl⟩, _⟩ := rep_str.mp r1
          refine ⟨typeIs_str _ _ _, fun a e => (nomatch e), ?_⟩
          have I1 := I.keep' k1 dk1
          refine callWith_sem (nm := nm) .nil kept_bi env r O d' d' [] A _ pos Q E F hA I1 rfl fun vs h2 tk2 rs k2 dk2 => ?_
          unfold Reps at rs
          subst rs
          have e5 : Txt.lower ⟨st.toArray⟩ = ⟨(st.map Mine.lo1).toArray⟩ := by
            rw [lower_ascii (ascii_iff hz.1)]; simp [Mine.lo1, PyProof.Rows.lo1]
          refine PySem.SC.lower ?_ ?_
          · rw [e5, str_len, List.length_map]; exact notTooLong hz.2
          · rw [e5]
            exact k _ h2 _ (rep_str.mpr ⟨⟨_, rfl⟩, by rw [List.length_map]; exact Nat.le_trans hz.2 (by decide)⟩) (k1.trans k2) dk2
        · cases e3
      · cases e3
    · cases e
  · cases e
end Mine
end

section
open PySem PySem.W PyProof.Rows PySem.Calls PySem.Spec PyProof.V PySem.SeqAt
set_option maxRecDepth 10000
set_option linter.unusedVariables false
namespace Mine
variable {g : Gd} {l : Nat} {nm : Nms}

theorem SemEs.len {es : List Expr} {fs : List X} (h : SemEs g l nm es fs) : fs.length = es.length := by
  induction h with
  | nil => rfl
  | cons _ _ _ ih => simp [ih]
theorem xs_len : ∀ {fs : List X} {r : Rho} {d d' : Dk} {ts : List T}, xs fs r d = some (ts, d') → ts.length = fs.length
  | [], r, d, d', ts, e => by cases e; rfl
  | f :: fs, r, d, d', ts, e => by
    unfold xs at e
    split at e
    · split at e
      · rename_i as d2 e2
        cases e
        simp [xs_len e2]
      · cases e
    · cases e
theorem e_list {es : List Expr} {fs : List X} {pos : Pos} (h : SemEs g l nm es fs) (hl : es.length ≤ 100) : SemE g l nm (.List es pos) (xList fs) := by
  intro env r O d d' t A s Q E F hA I e k
  unfold xList at e
  split at e
  · rename_i as d1 e1
    cases e
    refine wpAny_List_spliced (args_sem h env r O d d' as A s pos _ E F hA I e1 fun vs h' tk rs k1 dk1 => ?_)
    have I1 := I.keep' k1 dk1
    have hz : vs.length ≤ 100 := by rw [rs.length, xs_len e1, h.len]; exact hl
    have kp : ∀ c o, h'.get? c = some o → (h'.push { cls := .type "list", data := .seq vs.toArray }).get? c = some o := fun c o e => Heap.get?_push_of_some _ e
    refine ⟨Nat.le_trans hz (by decide), ?_⟩
    exact k _ _ tk (rep_list.mpr ⟨_, vs, rfl, fresh_notin I1.pres, ⟨0, Heap.get?_push_size _ rfl⟩, Nat.le_trans hz (by decide), rs.conv fun c o hc e => ⟨kp c o e, hc⟩⟩) (k1.trans (Keep.of kp)) (dk1.keep I.dO kp)
  · cases e
theorem e_tup {es : List Expr} {fs : List X} {pos : Pos} {z} (h : SemEs g l nm es fs) (hl : es.length ≤ 100) : SemE g l nm (.Tuple es z pos) (xTup fs) := by
  intro env r O d d' t A s Q E F hA I e k
  unfold xTup at e
  split at e
  · rename_i as d1 e1
    cases e
    refine wpAny_Tuple_spliced (args_sem h env r O d d' as A s pos _ E F hA I e1 fun vs h' tk rs k1 dk1 => ?_)
    have I1 := I.keep' k1 dk1
    have hz : vs.length ≤ 100 := by rw [rs.length, xs_len e1, h.len]; exact hl
    have kp : ∀ c o, h'.get? c = some o → (h'.push { cls := .type "tuple", data := .seq vs.toArray }).get? c = some o := fun c o e => Heap.get?_push_of_some _ e
    refine ⟨Nat.le_trans hz (by decide), ?_⟩
    exact k _ _ tk (rep_tup.mpr ⟨_, vs, rfl, fresh_notin I1.pres, ⟨_, Heap.get?_push_size _ rfl, rfl, 0, rfl⟩, Nat.le_trans hz (by decide), rs.conv fun c o hc e => ⟨kp c o e, hc⟩⟩) (k1.trans (Keep.of kp)) (dk1.keep I.dO kp)
  · cases e

/-! the fields of the two classes -/
noncomputable def AttrF (g : Gd) (C : Addr) (name : PySem.Str) : Prop := plainGet g.K C name = true ∧ hasDictIn g.K C = true ∧ ∃ attr, findIn g.K (.ref C) name = some attr ∧ noGet g.K attr = true
structure ClsF (g : Gd) : Prop where
  places : AttrF g g.CF "places"
  text : AttrF g g.CM "text"
  point : AttrF g g.CM "point"
  nobool : findIn g.K (.ref g.CF) "__bool__" = some none
  nolen : findIn g.K (.ref g.CF) "__len__" = some none
noncomputable def At.str : At → PySem.Str
  | .places => "places" | .text => "text" | .point => "point"
theorem Inv.toFr {env : Env} {r : Rho} {O : List Addr} {d : Dk} {h : Heap} (I : Inv g env r O d h) : ∃ m, Fr g.base env.locals h m := let ⟨m, hn⟩ := I.fr.ns; ⟨m, hn, I.base, I.baseL⟩
theorem inst_at {h : Heap} {x dx C : Addr} {es : List DictEntry} {n : Nat} (h1 : h.get? x = some (instObj C dx)) (h2 : h.get? dx = some (dictOf es n)) : InstAt h x (instObj C dx) C (some (dictOf es n)) := ⟨h1, rfl, rfl, h2⟩

theorem e_attr {a : Expr} {f : X} {pos : Pos} (q : At) {name : PySem.Str} (hname : name = q.str) (G : GOK g) (C : ClsF g) (hbase : ∀ env, attributeBase a name env (eval a env) = eval a env) (ha : SemE g l nm a f) : SemE g l nm (.Attribute a name pos) (x1 (tAttr q) f) := by
  subst hname
  intro env r O d d' t A s Q E F hA I e k
  unfold x1 at e
  split at e
  · rename_i u d1 e1
    split at e
    · rename_i c e2
      cases e
      show wpAny _ _ (attributeBase a q.str env (eval a env) >>= fun o => standAt pos.atName >>= fun _ => holding [o] (getAttr o q.str true) >>= fun r => letTemporaryGo a o r >>= fun _ => pure r) _ _ _
      rw [hbase]
      refine wpAny_bind (ha env r O d d' u A s _ E F hA I e1 fun v h1 tk1 r1 k1 dk1 => wpAny_bind (wpAny_standAt (wpAny_bind (wpAny_holding ?_))))
      have I1 := I.keep' k1 dk1
      obtain ⟨m, Fm⟩ := I1.toFr
      have fin : ∀ (z : Value), Rep g h1 O t z → ∀ tk, wpAny (model g.prog g.w) A (letTemporaryGo a v z >>= fun _ => pure z) Q E { s with heap := h1, toks := tk } := fun z rz tk => wpAny_bind (wpAny_letTemporaryGo (wpAny_pure (k z h1 tk rz k1 dk1)))
      unfold tAttr at e2
      split at e2
      · cases e2
        unfold Rep at r1
        obtain ⟨x, dx, es, n, pv, rfl, _, _, q1, q2, q3, q4, rp⟩ := r1
        obtain ⟨p1, p2, attr, p3, p4⟩ := C.places
        exact get_own Fm G.K (inst_at q1 q2) p1 p2 p3 p4 q3 q4 (fin pv rp _)
      · cases e2
        unfold Rep at r1
        obtain ⟨x, dx, es, n, tv, pv, rfl, _, _, q1, q2, q3, q3', q4, q4', rt, rp⟩ := r1
        obtain ⟨p1, p2, attr, p3, p4⟩ := C.text
        exact get_own Fm G.K (inst_at q1 q2) p1 p2 p3 p4 q3 q4 (fin tv rt _)
      · cases e2
        unfold Rep at r1
        obtain ⟨x, dx, es, n, tv, pv, rfl, _, _, q1, q2, q3, q3', q4, q4', rt, rp⟩ := r1
        obtain ⟨p1, p2, attr, p3, p4⟩ := C.point
        exact get_own Fm G.K (inst_at q1 q2) p1 p2 p3 p4 q3' q4' (fin pv rp _)
      · cases e2
    · cases e
  · cases e

/-! a value as a test -/
theorem b_of {a : Expr} {f : X} (G : GOK g) (C : ClsF g) (ha : SemE g l nm a f) (he : ∀ env whole, isTrue a env whole = (do let v ← whole; standAt a.pos; holding [v] (truthy v)) := by intro _ _; rfl) : SemB g l nm a (bOf f) := by
  intro env r O d d' t A s Q E F hA I e k
  unfold bOf at e
  split at e
  · rename_i u d1 e1
    split at e
    · rename_i c e2
      cases e
      refine wpAny_isTrue_value (ha env r O d d' u A s _ E F hA I e1 fun v h1 tk1 r1 k1 dk1 => ?_) (he _ _)
      have I1 := I.keep' k1 dk1
      unfold tTruth at e2
      split at e2
      · cases e2
        have := rep_bool.mp r1; subst this
        exact wpAny_truthy_bool (k h1 tk1 k1 dk1)
      · cases e2
        have := rep_none.mp r1; subst this
        exact truthy_none (k h1 tk1 k1 dk1)
      · cases e2
        unfold Rep at r1
        obtain ⟨x, dx, es, n, pv, rfl, _, _, q1, q2, q3, q4, rp⟩ := r1
        obtain ⟨m, Fm⟩ := I1.toFr
        exact truthy_K0 Fm G.K (inst_at q1 q2) C.nobool C.nolen (k h1 tk1 k1 dk1)
      · cases e2
    · cases e
  · cases e

/-! deck[0], deck[1] -/
theorem e_deck0 {x : N} {n : PySem.Str} {np cp pos : Pos} {z} (e : n = x.str) : SemE g l nm (.Subscript (.Name n np) (.Constant (.int 0) z cp) pos) (xDeck0 x) := by
  subst e
  intro env r O d d' t A s Q E F hA I e k
  unfold xDeck0 at e
  split at e
  · rename_i hr
    cases e
    obtain ⟨v, V, rv⟩ := I.vals x _ hr
    unfold Rep at rv
    subst rv
    obtain ⟨C, tk, vs, pd, hC, pc, hl, rs⟩ := I.deck
    refine sub_open (load_var F V (nodebug x) (wpAny_Constant_int ?_))
    refine tail_any (ops := [.ref g.D, .int 0 s.toks]) (T := "list") ?_ slot_list_getitem.lookup ?_ rfl
    · exact (PlainList_is pd).typeIs
    · refine wpAny_getItem_list (x := .ref C) (PlainList_is pd) (by decide) (by decide) rfl ?_
      exact k _ s.heap _ (rep_list.mpr ⟨C, vs, rfl, hC, pc, hl, rs⟩) Keep.refl I.deck
  · cases e
theorem e_deck1 {x : N} {n : PySem.Str} {np cp pos : Pos} {z} (e : n = x.str) : SemE g l nm (.Subscript (.Name n np) (.Constant (.int 1) z cp) pos) (xDeck1 x) := by
  subst e
  intro env r O d d' t A s Q E F hA I e k
  unfold xDeck1 at e
  split at e
  · rename_i hr
    cases e
    obtain ⟨v, V, rv⟩ := I.vals x _ hr
    unfold Rep at rv
    subst rv
    obtain ⟨C, tk, vs, pd, hC, pc, hl, rs⟩ := I.deck
    refine sub_open (load_var F V (nodebug x) (wpAny_Constant_int ?_))
    refine tail_any (ops := [.ref g.D, .int 1 s.toks]) (T := "list") ?_ slot_list_getitem.lookup ?_ rfl
    · exact (PlainList_is pd).typeIs
    · refine wpAny_getItem_list (x := .int d.n tk) (PlainList_is pd) (by decide) (by decide) rfl ?_
      exact k _ s.heap _ (rep_int.mpr ⟨_, rfl⟩) Keep.refl I.deck
  · cases e
end Mine
end

section
open PySem PySem.W PyProof.Rows PySem.Calls PySem.Spec PyProof.V PySem.SeqAt
set_option maxRecDepth 10000
set_option linter.unusedVariables false
namespace Mine
variable {g : Gd} {l : Nat} {nm : Nms}

/-! what is iterated -/
theorem src_iter {A : Around} {s : Shared} {O : List Addr} {a : T} {v : Value} {items : List T} {Q : Value → Shared → Prop} {E : Value → Shared → Prop}
    (hp : ∀ x ∈ O, ∃ o, s.heap.get? x = some o) (ra : Rep g s.heap O a v) (hi : tItems a = some items) (hl : items.length ≤ szL)
    (k : ∀ (I : Addr) (h₂ : Heap) (tk : Nat) (fp : List Addr) (P : Nat → Value → Prop) (St : Nat → Heap → Prop), s.heap.get? I = none → (∀ b o, s.heap.get? b = some o → h₂.get? b = some o) →
      (∀ A' : Around, A'.handled = none → Walks g.prog g.w A' I fp [I] items.length P St) → St 0 h₂ → (∀ b ∈ fp, b = I ∨ (b ∉ O ∧ ∃ o, s.heap.get? b = some o)) → (∀ i h, St i h → ∃ o, h.get? I = some o) →
      (∀ i z t, items[i]? = some t → P i z → Rep g s.heap O t z) → Q (.ref I) { s with heap := h₂, toks := tk }) :
    wpAny (model g.prog g.w) A (pyIter v) Q E s := by
  have fresh : s.heap.get? s.heap.objs.size = none := by
    cases e : s.heap.get? s.heap.objs.size with
    | none => rfl
    | some o => exact absurd (Heap.lt_size e) (Nat.lt_irrefl _)
  have kp : ∀ (ob : Obj) c o, s.heap.get? c = some o → (s.heap.push ob).get? c = some o := fun ob c o e => Heap.get?_push_of_some _ e
  unfold tItems at hi
  split at hi
  · cases hi
    obtain ⟨la, vs, rfl, hla, p, hlen, rs⟩ := rep_list.mp ra
    have hne : la ≠ s.heap.objs.size := by rintro rfl; obtain ⟨n, p⟩ := p; rw [fresh] at p; cases p
    refine wpAny_pyIter_list (PlainList_is p) ?_
    refine k s.heap.objs.size _ s.toks [s.heap.objs.size, la] (fun i v => vs.toArray[i]? = some v) (fun i h => h.IsListIter s.heap.objs.size la i ∧ h.IsList la vs.toArray) fresh (kp _) (fun A' hA' => ?_) ⟨⟨_, Heap.get?_push_size _ rfl, rfl, rfl⟩, ?_⟩ ?_ (fun i h q => by obtain ⟨⟨o, ho, _⟩, _⟩ := q; exact ⟨o, ho⟩) ?_
    · have := Walks.list (prog := g.prog) (w := g.w) hA' s.heap.objs.size la hne vs.toArray
      have e : vs.toArray.size = items.length := by simp [rs.length]
      rwa [e] at this
    · obtain ⟨n, p⟩ := p; exact ⟨_, kp _ _ _ p, rfl, n, rfl⟩
    · intro b hb
      simp at hb
      rcases hb with rfl | rfl
      · exact .inl rfl
      · obtain ⟨n, p⟩ := p; exact .inr ⟨hla, _, p⟩
    · intro i z t ht hz
      obtain ⟨v, hv, rv⟩ := rs.get ht
      simp only [List.getElem?_toArray] at hz
      rw [hv] at hz; cases hz; exact rv
  · rename_i st
    cases hi
    obtain ⟨⟨ta, rfl⟩, hlen⟩ := rep_str.mp ra
    have items : ∀ i z t, (st.map fun c => T.str [c])[i]? = some t → SignAt ⟨st.toArray⟩ i z → Rep g s.heap O t z := by
      intro i z t ht hz
      obtain ⟨c, u, hc, rfl⟩ := hz
      simp at hc
      rw [List.getElem?_map, hc] at ht
      cases ht
      exact rep_str.mpr ⟨⟨_, rfl⟩, by simp [szL]⟩
    cases ha : (⟨st.toArray⟩ : PySem.Str).cps.all (· < 128) with
    | true =>
      refine wpAny_pyIter_ascii ha ?_
      refine k s.heap.objs.size _ s.toks [s.heap.objs.size] (SignAt ⟨st.toArray⟩) (fun i h => h.IsStrIter s.heap.objs.size "str_ascii_iterator" ⟨st.toArray⟩ ta i) fresh (kp _) (fun A' hA' => ?_) ⟨_, Heap.get?_push_size _ rfl, rfl, rfl⟩ (fun b hb => .inl (by simpa using hb)) (fun i h q => by obtain ⟨o, ho, _⟩ := q; exact ⟨o, ho⟩) items
      have := Walks.strAscii (prog := g.prog) (w := g.w) hA' s.heap.objs.size ⟨st.toArray⟩ ta
      simpa using this
    | false =>
      refine wpAny_pyIter_wide ha ?_
      refine k s.heap.objs.size _ s.toks [s.heap.objs.size] (SignAt ⟨st.toArray⟩) (fun i h => h.IsStrIter s.heap.objs.size "str_iterator" ⟨st.toArray⟩ ta i) fresh (kp _) (fun A' hA' => ?_) ⟨_, Heap.get?_push_size _ rfl, rfl, rfl⟩ (fun b hb => .inl (by simpa using hb)) (fun i h q => by obtain ⟨o, ho, _⟩ := q; exact ⟨o, ho⟩) items
      have := Walks.strWide (prog := g.prog) (w := g.w) hA' s.heap.objs.size ⟨st.toArray⟩ ta
      simpa using this
  · rename_i a b
    cases hi
    unfold Rep at ra
    obtain ⟨f1, f2, ra, t1, t2, t3, rfl, _, hr⟩ := ra
    have f1 := fitI_iff f1
    have f2 := fitI_iff f2
    refine wpAny_pyIter_range hr (small_one (by omega) (by omega) (by omega) (by omega)) ?_
    have e1 : Builtin.Range.rangeSize a b 1 = ((b - a).toNat : Int) := by
      rw [rangeSize_one]; split <;> omega
    refine k s.heap.objs.size _ s.toks [s.heap.objs.size] (fun i v => ∃ t, v = .int (a + i * 1) t) (fun i h => IsRangeIter h s.heap.objs.size (a + (i : Nat) * 1) (((b - a).toNat : Int) - (i : Nat)) 1) fresh (kp _) (fun A' hA' => ?_) ?_ (fun b hb => .inl (by simpa using hb)) (fun i h q => ⟨_, q⟩) ?_
    · have := Walks.range (prog := g.prog) (w := g.w) hA' s.heap.objs.size a 1 (b - a).toNat
      simpa using this
    · show (s.heap.push _).get? _ = _
      rw [Heap.get?_push_size _ rfl, e1]; simp
    · intro i z t ht hz
      obtain ⟨tt, rfl⟩ := hz
      rw [List.getElem?_map] at ht
      obtain ⟨j, hj, rfl⟩ := Option.map_eq_some_iff.mp ht
      have : j = i := by
        rw [List.getElem?_range] at hj
        · cases hj; rfl
        · by_cases h : i < (b - a).toNat
          · exact h
          · rw [List.getElem?_eq_none (by simpa using h)] at hj; cases hj
      subst this
      exact rep_int.mpr ⟨tt, by rw [Int.mul_one]⟩
  · cases hi
end Mine
end

section
open PySem PySem.W PyProof.Rows PySem.Calls PySem.Spec PyProof.V PySem.SeqAt
set_option maxRecDepth 10000
set_option linter.unusedVariables false
namespace Mine
variable {g : Gd} {l : Nat} {nm : Nms}

/-! the scope of a comprehension -/
noncomputable def compOK (nm : Nms) (sc : Scope) (x : N) (fv : List N) : Bool :=
  sc.kind == .function && sc.names.all (fun p => p.2 != .cell) && sc.names.lookup x.str == some .local &&
  sc.names.all (fun p => p.2 != .local || sc.names.lookup p.1 == some .local) &&
  fv.all (fun y => sc.names.lookup y.str == some .free && nm.lookup y.str == some .cell) &&
  sc.names.all (fun p => p.2 != .free || (nm.lookup p.1 == some .cell && sc.names.lookup p.1 == some .free))
structure CompF (nm : Nms) (sc : Scope) (x : N) (fv : List N) : Prop where
  kind : sc.kind = .function
  nocell : ∀ p ∈ sc.names, p.2 ≠ .cell
  hx : sc.names.lookup x.str = some .local
  locals : ∀ p ∈ sc.names, p.2 = .local → sc.names.lookup p.1 = some .local
  free : ∀ y ∈ fv, sc.names.lookup y.str = some .free ∧ nm.lookup y.str = some .cell
  allfree : ∀ p ∈ sc.names, p.2 = .free → nm.lookup p.1 = some .cell
theorem compF_of {sc : Scope} {x : N} {fv : List N} (h : compOK nm sc x fv = true) : CompF nm sc x fv := by
  unfold compOK at h
  simp only [Bool.and_eq_true, beq_iff_eq, List.all_eq_true, bne_iff_ne, ne_eq, Bool.or_eq_true, Prod.forall] at h
  obtain ⟨⟨⟨⟨⟨h1, h2⟩, h3⟩, h4⟩, h5⟩, h6⟩ := h
  refine ⟨h1, fun p hp => h2 p.1 p.2 hp, h3, fun p hp e => ?_, fun y hy => h5 y hy, fun p hp e => ?_⟩
  · exact (h4 p.1 p.2 hp).resolve_left (fun n => n e)
  · exact ((h6 p.1 p.2 hp).resolve_left (fun n => n e)).1

noncomputable def frees (env : Env) : List (PySem.Str × NameKind) → List (PySem.Str × Addr) → List (PySem.Str × Addr)
  | [], acc => acc
  | (n, k) :: r, acc => frees env r (if k = .free then (n, (env.cells.lookup n).getD 0) :: acc else acc)
theorem closure_eq {env : Env} : ∀ (names : List (PySem.Str × NameKind)) (acc : List (PySem.Str × Addr)), (∀ p ∈ names, p.2 = .free → ∃ c, env.cells.lookup p.1 = some c) →
    (forIn names acc (fun (x : PySem.Str × NameKind) (cs : List (PySem.Str × Addr)) => if (x.2 == NameKind.free) = true then (do let a ← cellOf env x.1; pure (ForInStep.yield ((x.1, a) :: cs))) else pure (ForInStep.yield cs)) : Sem (List (PySem.Str × Addr))) = pure (frees env names acc)
  | [], acc, _ => rfl
  | (n, k) :: r, acc, h => by
    rw [List.forIn_cons]
    have hr : ∀ p ∈ r, p.2 = .free → ∃ c, env.cells.lookup p.1 = some c := fun p hp => h p (.tail _ hp)
    unfold frees
    by_cases hk : k = .free
    · subst hk
      obtain ⟨c, hc⟩ := h _ (.head _) rfl
      have e1 : cellOf env n = pure c := by unfold cellOf; rw [hc]
      rw [if_pos rfl]
      simp only [beq_self_eq_true, if_true, e1]
      have hc' : env.cells.lookup n = some c := hc
      rw [hc']
      exact closure_eq r _ hr
    · rw [if_neg hk, if_neg (by simpa using hk)]
      exact closure_eq r _ hr
theorem closureFor_eq {sc : Scope} {env : Env} (h : ∀ p ∈ sc.names, p.2 = .free → ∃ c, env.cells.lookup p.1 = some c) : closureFor sc env = pure (frees env sc.names []) := by
  unfold closureFor
  have := closure_eq (env := env) sc.names [] h
  have e : (forIn sc.names [] (fun (x : PySem.Str × NameKind) (cs : List (PySem.Str × Addr)) => if (x.2 == NameKind.free) = true then (do let a ← cellOf env x.1; pure (ForInStep.yield ((x.1, a) :: cs))) else pure (ForInStep.yield cs)) : Sem (List (PySem.Str × Addr))) =
      (forIn sc.names [] fun x r => match x with
        | (name, kind) => if (kind == NameKind.free) = true then (do let __do_lift ← cellOf env name; pure (ForInStep.yield ((name, __do_lift) :: r))) else pure (ForInStep.yield r)) := by
    congr 1
  first
    | (rw [← e] ; rw [this]; rfl)
    | (simp only [this]; rfl)
    | (show (_ >>= _) = _; rw [show (forIn sc.names [] _ : Sem _) = pure (frees env sc.names []) from this]; rfl)
theorem frees_look {env : Env} : ∀ (names : List (PySem.Str × NameKind)) (acc : List (PySem.Str × Addr)), (∀ p ∈ names, p.2 = .free → ∃ c, env.cells.lookup p.1 = some c) →
    (∀ n c, acc.lookup n = some c → env.cells.lookup n = some c) → ∀ n c, (frees env names acc).lookup n = some c → env.cells.lookup n = some c
  | [], acc, _, ha => ha
  | (n, k) :: r, acc, h, ha => by
    unfold frees
    refine frees_look r _ (fun p hp => h p (.tail _ hp)) ?_
    by_cases hk : k = .free
    · rw [if_pos hk]
      intro n' c' e
      rw [List.lookup_cons] at e
      by_cases hn : n' = n
      · subst hn
        obtain ⟨c, hc⟩ := h _ (.head _) hk
        simp [hc] at e
        rw [hc, e]
      · rw [show (n' == n) = false from beq_eq_false_iff_ne.mpr hn] at e
        exact ha _ _ e
    · rw [if_neg hk]; exact ha
theorem frees_has {env : Env} : ∀ (names : List (PySem.Str × NameKind)) (acc : List (PySem.Str × Addr)) (n : PySem.Str), (names.lookup n = some .free ∨ ∃ c, acc.lookup n = some c) → ∃ c, (frees env names acc).lookup n = some c
  | [], acc, n, h => by
    rcases h with h | h
    · cases h
    · exact h
  | (m, k) :: r, acc, n, h => by
    unfold frees
    refine frees_has r _ n ?_
    by_cases hn : n = m
    · subst hn
      rcases h with h | ⟨c, h⟩
      · rw [List.lookup_cons, beq_self_eq_true] at h
        cases h
        right
        rw [if_pos rfl]
        exact ⟨_, by rw [List.lookup_cons, beq_self_eq_true]⟩
      · right
        by_cases hk : k = .free
        · rw [if_pos hk]; exact ⟨_, by rw [List.lookup_cons, beq_self_eq_true]⟩
        · rw [if_neg hk]; exact ⟨c, h⟩
    · have hb : (n == m) = false := beq_eq_false_iff_ne.mpr hn
      rcases h with h | ⟨c, h⟩
      · left; rw [List.lookup_cons, hb] at h; exact h
      · right
        by_cases hk : k = .free
        · rw [if_pos hk]; exact ⟨c, by rw [List.lookup_cons, hb]; exact h⟩
        · rw [if_neg hk]; exact ⟨c, h⟩
theorem relabel_keep {env : Env} : ∀ {names : List (PySem.Str × NameKind)} {x : PySem.Str} {k : NameKind}, k ≠ .free → names.lookup x = some k →
    (names.map fun (n, k) => if (k == NameKind.free && env.scope.kind == .function && env.kindOf n == some .cell) then (n, NameKind.cell) else (n, k)).lookup x = some k
  | [], _, _, _, h => by simp at h
  | (n, k) :: r, x, k', hk, h => by
    show List.lookup x ((if (k == NameKind.free && env.scope.kind == .function && env.kindOf n == some .cell) = true then (n, NameKind.cell) else (n, k)) :: _) = _
    cases hx : x == n with
    | true =>
      rw [List.lookup_cons, hx] at h
      cases h
      have : (k == NameKind.free) = false := beq_eq_false_iff_ne.mpr hk
      simp only [this, Bool.false_and, Bool.false_eq_true, if_false, List.lookup_cons, hx]
    | false =>
      rw [List.lookup_cons, hx] at h
      have ih := relabel_keep (env := env) hk h
      split
      · rw [List.lookup_cons, hx]; exact ih
      · rw [List.lookup_cons, hx]; exact ih
theorem relabel_free {env : Env} (hf : env.scope.kind = .function) : ∀ {names : List (PySem.Str × NameKind)} {x : PySem.Str}, names.lookup x = some .free → env.kindOf x = some .cell →
    (names.map fun (n, k) => if (k == NameKind.free && env.scope.kind == .function && env.kindOf n == some .cell) then (n, NameKind.cell) else (n, k)).lookup x = some .cell
  | [], _, h, _ => by simp at h
  | (n, k) :: r, x, h, hc => by
    show List.lookup x ((if (k == NameKind.free && env.scope.kind == .function && env.kindOf n == some .cell) = true then (n, NameKind.cell) else (n, k)) :: _) = _
    cases hx : x == n with
    | true =>
      rw [List.lookup_cons, hx] at h
      cases h
      have e : n = x := (beq_iff_eq.mp hx).symm
      subst e
      simp [hf, hc, List.lookup_cons]
    | false =>
      rw [List.lookup_cons, hx] at h
      have ih := relabel_free hf h hc
      split
      · rw [List.lookup_cons, hx]; exact ih
      · rw [List.lookup_cons, hx]; exact ih

theorem comp_envF {env : Env} {sc : Scope} {x : N} {fv : List N} {C : Addr} (F : EnvF nm env) (c : CompF nm sc x fv) : EnvF sc.names (compEnvC sc (frees env sc.names []) C env) where
  kind := c.kind
  globals := F.globals
  builtins := F.builtins
  names := fun y k h hk => relabel_keep hk h
  cells := fun y h => absurd rfl (c.nocell _ (mem_of_lookup h))

theorem inner_inv {env : Env} {sc : Scope} {x : N} {fv : List N} {C acc I : Addr} {r : Rho} {O : List Addr} {d d1 : Dk} {H h : Heap} {t : T} {v : Value} {m : PySem.Str → Option Value}
    (F : EnvF nm env) (c : CompF nm sc x fv) (J : Inv g env r O d H) (hI : H.get? I = none) (hacc : H.get? acc = none) (hC : H.get? C = none) (kk : ∀ b o, b ≠ g.D → H.get? b = some o → h.get? b = some o)
    (dk : DeckAt g h (C :: acc :: I :: O) d1) (pI : ∃ o, h.get? I = some o) (pacc : ∃ o, h.get? acc = some o) (hn : h.Ns C m) (hm : m x.str = some v) (rv : Rep g h (C :: acc :: I :: O) t v) (hCl : g.base.objs.size ≤ C) :
    Inv g (compEnvC sc (frees env sc.names []) C env) (inner fv x t r) (C :: acc :: I :: O) d1 h := by
  have cells : ∀ p ∈ sc.names, p.2 = .free → ∃ c, env.cells.lookup p.1 = some c := fun p hp e => F.cells _ (c.allfree p hp e)
  have look : ∀ n a, (frees env sc.names []).lookup n = some a → env.cells.lookup n = some a := frees_look _ _ cells fun n c e => by cases e
  have inH : ∀ a ∈ O, ∃ o, H.get? a = some o := J.pres
  have ne : ∀ a, (∃ o, H.get? a = some o) → a ≠ C ∧ a ≠ acc ∧ a ≠ I := fun a ⟨o, ho⟩ => ⟨(by rintro rfl; rw [hC] at ho; cases ho), (by rintro rfl; rw [hacc] at ho; cases ho), (by rintro rfl; rw [hI] at ho; cases ho)⟩
  have tr : ∀ b o, b ∉ O → H.get? b = some o → h.get? b = some o ∧ b ∉ C :: acc :: I :: O := fun b o hb e => by
    have n := ne b ⟨o, e⟩
    refine ⟨kk b o (fun q => hb (q ▸ J.dO)) e, ?_⟩
    simp [n.1, n.2.1, n.2.2, hb]
  have hD : ∃ o, H.get? g.D = some o := J.deck.ex
  obtain ⟨oC, esC, epC, hgC, hrC⟩ := id hn
  refine ⟨⟨⟨m, hn⟩, fun y a e => ?_, fun y z a e e' => J.fr.apart y z a (look _ _ e) (look _ _ e'), fun y a e => ?_⟩, fun b o e => ?_, J.baseD, hCl, dk, ?_, fun a ha => ?_, fun a ha => ?_, fun y u e => ?_, fun y u e => ?_, fun a ha => ?_⟩
  · obtain ⟨w, o, ho, hd⟩ := J.fr.cell y a (look _ _ e)
    exact ⟨w, o, kk a o (J.slot a (.inr ⟨y, look _ _ e⟩)).2 ho, hd⟩
  · obtain ⟨w, o, ho, hd⟩ := J.fr.cell y a (look _ _ e)
    exact (ne a ⟨o, ho⟩).1
  · exact kk b o (fun q => by have := Heap.lt_size e; rw [q] at this; exact absurd J.baseD (Nat.not_le.mpr this)) (J.base b o e)
  · simp [J.dO]
  · simp only [List.mem_cons] at ha
    rcases ha with rfl | rfl | rfl | ha
    · exact ⟨_, hgC⟩
    · exact pacc
    · exact pI
    · by_cases q : a = g.D
      · rw [q]; exact dk.ex
      · obtain ⟨o, ho⟩ := inH a ha; exact ⟨o, kk a o q ho⟩
  · rcases ha with rfl | ⟨y, e⟩
    · exact ⟨by simp [compEnvC], by have := ne g.D hD; exact fun q => this.1 q.symm⟩
    · have s := J.slot a (.inr ⟨y, look _ _ e⟩)
      exact ⟨by simp [s.1], s.2⟩
  · unfold inner at e
    by_cases hy : y = x
    · subst hy
      rw [if_pos rfl] at e
      cases e
      exact ⟨v, .inl ⟨lookup_relabel_local c.hx, m, hn, hm⟩, rv⟩
    · rw [if_neg hy] at e
      split at e
      · rename_i hf
        have hf := c.free y (by simpa using hf)
        split at e
        · rename_i t' hr
          cases e
          obtain ⟨w, V, rw'⟩ := J.vals y u hr
          have hk : env.kindOf y.str = some .cell := F.names _ _ hf.2 (by decide)
          refine ⟨w, ?_, rw'.conv tr⟩
          rcases V with ⟨q, _⟩ | ⟨_, a, ha, o, ho, hd⟩
          · rw [hk] at q; cases q
          · obtain ⟨a', ha'⟩ := frees_has (env := env) sc.names [] y.str (.inl hf.1)
            have := look _ _ ha'
            rw [ha] at this; cases this
            refine .inr ⟨relabel_free F.kind hf.1 hk, a, ha', o, kk a o (J.slot a (.inr ⟨_, ha⟩)).2 ho, hd⟩
        · cases e
      · cases e
  · exfalso
    unfold inner at e
    split at e
    · cases e
    · split at e
      · split at e <;> cases e
      · cases e
  · have fr : ∀ b, H.get? b = none → g.base.get? b = none := fun b hb => by
      cases e : g.base.get? b with
      | none => rfl
      | some o => rw [J.base b o e] at hb; cases hb
    simp only [List.mem_cons] at ha
    rcases ha with rfl | rfl | rfl | ha
    · exact fr _ hC
    · exact fr _ hacc
    · exact fr _ hI
    · exact J.ob a ha
end Mine
end

section
open PySem PySem.W PyProof.Rows PySem.Calls PySem.Spec PyProof.V PySem.SeqAt
set_option maxRecDepth 10000
set_option linter.unusedVariables false
namespace Mine
variable {g : Gd} {l : Nat} {nm : Nms}

noncomputable def SemIf (g : Gd) (l : Nat) (nm : Nms) : List Expr → B → Prop
  | [], c => c = bAll []
  | [e], c => SemB g l nm e c
  | _, _ => False
theorem tests_sem {ifs : List Expr} {c : B} (h : SemIf g l nm ifs c) {env : Env} {r : Rho} {O : List Addr} {d d' : Dk} {t : Bool} {A : Around} {s : Shared} {Q : Bool → Shared → Prop} {E : Value → Shared → Prop}
    (F : EnvF nm env) (hA : AOK A l) (I : Inv g env r O d s.heap) (e : c r d = some (t, d'))
    (k : ∀ h' tk, Keep g s.heap h' → DeckAt g h' O d' → Q t { s with heap := h', toks := tk }) :
    wpAny (model g.prog g.w) A (forIn ifs true fun c r => if r = true then do let ok ← isTrue c env (eval c env); pure (ForInStep.yield ok) else pure (ForInStep.yield r)) Q E s := by
  match ifs, h with
  | [], h =>
    have h' : c = bAll [] := h
    subst h'; cases e
    exact wpAny_tests_nil (k s.heap s.toks Keep.refl I.deck)
  | [e1], h => exact wpAny_tests_one (h env r O d d' t A s Q E F hA I e k)

theorem ltA {h : Heap} {a : Addr} {o : Obj} {n : Nat} (e : h.get? a = some o) (q : h.objs.size = n) : @LT.lt Nat instLTNat a n := q ▸ Heap.lt_size e
theorem comp_core {env : Env} {sc : Scope} {x : N} {fv : List N} {ifs : List Expr} {cnd : B} {elt iter : Expr} {felt : X} {r : Rho} {O : List Addr} {d1 d2 : Dk} {A : Around} {s : Shared} {a : T} {v : Value} {items as : List T}
    {px pos : Pos} {E : Value → Shared → Prop} {RR : Value → Addr → Result → Shared → Prop}
    (F : EnvF nm env) (c : CompF nm sc x fv) (hif : SemIf g l sc.names ifs cnd) (helt : SemE g l sc.names elt felt) (hA : AOK A l) (J : Inv g env r O d1 s.heap) (ra : Rep g s.heap O a v) (hi : tItems a = some items) (hl : items.length ≤ szL)
    (hgo : compGo fv x cnd felt r items d1 = some (as, d2))
    (hRR : ∀ acc C h' tk m' (ys : List Value), s.heap.get? acc = none → s.heap.get? C = none → acc ≠ C → h'.Ns C m' → h'.PlainList acc ys.toArray → ys.length ≤ szL → Reps g h' (C :: acc :: O) as ys → (∀ b o, b ≠ g.D → s.heap.get? b = some o → h'.get? b = some o) →
      DeckAt g h' (C :: acc :: O) d2 → RR (.ref acc) C (.ok .next) { s with heap := h', toks := tk }) :
    wpAny (model g.prog g.w) A (pyIter v) (fun it s₂ => wpAny (model g.prog g.w) A (newList []) (fun acc s₃ => wpAny (model g.prog g.w) A (newFunctionEnv sc env.globals (frees env sc.names []) [] env.qual none .none (some env)) (fun cenv s₄ =>
      codeAny (model g.prog g.w) A (.compStart (.ListComp elt [⟨.Name x.str px, iter, ifs, 0⟩] sc pos) 0 it acc { cenv with scope := relabel sc env }) (RR acc cenv.locals) s₄) E s₃) E s₂) E s := by
  refine src_iter J.pres ra hi hl fun I h₂ tk₂ fp P St hI k2 W st hfp pS hP => ?_
  have pI := pS _ _ st
  refine wpAny_newObj_type (wpAny_newFunctionEnv c.nocell (by intro y hy; simp at hy) (fun h₁ hns₁ hsb₁ => ?_) c.kind)
  dsimp only at hns₁ hsb₁ ⊢
  generalize hH2 : h₂.push { cls := .type "list", dict := none, data := .seq ([] : List Value).toArray } = H2 at hns₁ hsb₁ ⊢
  have hC : H2.objs.size = h₂.objs.size + 1 := by rw [← hH2, Heap.size_push]
  generalize hacc : h₂.objs.size = acc at hC ⊢
  generalize hCC : H2.objs.size = C at hC hns₁ hsb₁ ⊢
  have fresh2 : ∀ b, acc ≤ b → h₂.get? b = none := fun b hb => by
    cases e : h₂.get? b with
    | none => rfl
    | some o' => have h1 := ltA e hacc; have h2 : @LE.le Nat instLENat acc b := hb; omega
  have fr1 : ∀ b, acc ≤ b → s.heap.get? b = none := fun b hb => by
    cases e : s.heap.get? b with
    | none => rfl
    | some o' => have := k2 b o' e; rw [fresh2 b hb] at this; cases this
  have facc := fr1 acc (Nat.le_refl _)
  have hC' : @Eq Nat C (acc + 1) := hC
  have fC := fr1 C (by rw [hC']; exact Nat.le_succ _)
  have hneAC : acc ≠ C := fun q => by have q' : @Eq Nat acc C := q; omega
  have hneI : I ≠ acc ∧ I ≠ C := by
    obtain ⟨o, ho⟩ := pI
    have h1 := ltA ho hacc
    have h2 : @Eq Nat C (acc + 1) := hC
    exact ⟨fun q => by have q' : @Eq Nat I acc := q; omega, fun q => by have q' : @Eq Nat I C := q; omega⟩
  have ch1 : ∀ b o, b ≠ C → h₂.get? b = some o → h₁.get? b = some o := fun b o hb e => hsb₁.extBut b o hb (Heap.get?_push_of_some _ (hH2 ▸ Heap.get?_push_of_some _ e))
  have hacc₁ : h₁.PlainList acc #[] := ⟨0, hsb₁.extBut _ _ hneAC (Heap.get?_push_of_some _ (by rw [← hH2, ← hacc]; exact Heap.get?_push_size _ rfl))⟩
  have IO : I ∉ O := fun q => by obtain ⟨o, ho⟩ := J.pres _ q; rw [hI] at ho; cases ho
  have DI : g.D ≠ I := fun q => IO (q ▸ J.dO)
  have Dex := J.deck.ex
  have DC : g.D ≠ C := by rintro q; obtain ⟨o, ho⟩ := Dex; rw [q, fC] at ho; cases ho
  have Dacc : g.D ≠ acc := by rintro q; obtain ⟨o, ho⟩ := Dex; rw [q, facc] at ho; cases ho
  have hfp2 : ∀ b ∈ fp, b ≠ C ∧ b ≠ acc ∧ b ≠ g.D := fun b hb => by
    rcases hfp b hb with rfl | ⟨hO, o, ho⟩
    · exact ⟨hneI.2, hneI.1, fun q => DI q.symm⟩
    · exact ⟨(by rintro rfl; rw [fC] at ho; cases ho), (by rintro rfl; rw [facc] at ho; cases ho), fun q => hO (q ▸ J.dO)⟩
  have W := W A hA.1
  have st₁ : St 0 h₁ := W.frame _ _ _ st fun b hb o e => ch1 b o (hfp2 b hb).1 e
  have hCl : g.base.objs.size ≤ C := by
    have h1 : @LE.le Nat instLENat g.base.objs.size env.locals := J.baseL
    obtain ⟨m, oL, es, ep, hL, _⟩ := J.fr.ns
    have h2 := ltA (k2 _ _ hL) hacc
    have h3 : @Eq Nat C (acc + 1) := hC
    have : @LE.le Nat instLENat g.base.objs.size C := by omega
    exact this
  have notO : ∀ b o, s.heap.get? b = some o → b ≠ C ∧ b ≠ acc ∧ b ≠ I := fun b o e => ⟨(by rintro rfl; rw [fC] at e; cases e), (by rintro rfl; rw [facc] at e; cases e), (by rintro rfl; rw [hI] at e; cases e)⟩
  have tr : ∀ {h : Heap}, (∀ b o, b ≠ g.D → s.heap.get? b = some o → h.get? b = some o) → ∀ b o, b ∉ O → s.heap.get? b = some o → h.get? b = some o ∧ b ∉ C :: acc :: I :: O := fun kk b o hb e => by
    have n := notO b o e
    exact ⟨kk b o (fun q => hb (q ▸ J.dO)) e, by simp [n.1, n.2.1, n.2.2, hb]⟩
  have fin : ∀ s₂ : Shared, s₂ = { s with heap := h₁, toks := tk₂ + ([] : List (PySem.Str × Value)).length } →
      codeAny (model g.prog g.w) A (.compLoop (.ListComp elt [⟨.Name x.str px, iter, ifs, 0⟩] sc pos) 0 (.ref I) (.ref acc) (compEnvC sc (frees env sc.names []) C env)) (RR (.ref acc) C) s₂ := by
    rintro s₂ rfl
    refine codeAny_compLoop_tests
      (fun n s' => ∃ (i : Nat) (h : Heap) (tk : Nat) (d : Dk) (outs : List T) (ys : List Value) (m : PySem.Str → Option Value) (rest : List T), s' = { s with heap := h, toks := tk } ∧ n = items.length + 1 - i ∧ i ≤ items.length ∧ St i h ∧ h.PlainList acc ys.toArray ∧
        Reps g h (C :: acc :: I :: O) outs ys ∧ outs.length ≤ i ∧ h.Ns C m ∧ (∀ b o, b ≠ g.D → s.heap.get? b = some o → h.get? b = some o) ∧ DeckAt g h (C :: acc :: I :: O) d ∧ compGo fv x cnd felt r (items.drop i) d = some (rest, d2) ∧ as = outs ++ rest ∧ (∃ o, h.get? I = some o))
      ?_ (items.length + 1) ?_
    · rintro n s' ⟨i, H, tk, d, outs, ys, m, rest, rfl, rfl, hle, st, hpl, ro, hol, hn, kk, dk, hg, has, pI'⟩
      have chI : ∀ {h' : Heap}, (∀ b o, b ∉ [I] → H.get? b = some o → h'.get? b = some o) → (∀ b o, b ≠ I → H.get? b = some o → h'.get? b = some o) := fun k b o hb e => k b o (by simpa using hb) e
      by_cases hlt : i < items.length
      · have ht : items[i]? = some items[i] := List.getElem?_eq_getElem hlt
        have hdrop : items.drop i = items[i] :: items.drop (i + 1) := List.drop_eq_getElem_cons hlt
        rw [hdrop] at hg
        refine W.item i _ _ _ hlt st fun z h1 tk1 hz st1 k1 => ?_
        have k1 := chI k1
        obtain ⟨mC, hnC⟩ : ∃ m', h1.Ns C m' := ⟨m, hn.at' fun o e => k1 _ o (Ne.symm hneI.2) e⟩
        refine wpAny_assign_Name (wpAny_storeName_local (lookup_relabel_local c.hx) (env := compEnvC sc (frees env sc.names []) C env) hnC (fun h3 hn3 hs3 => ?_) (by show (sc.kind == .class || (sc.kind == .module && _)) = false; rw [c.kind]; rfl))
        have hs3' : Heap.SameBut C h1 h3 := hs3
        obtain ⟨m3, hn3, hm3⟩ : ∃ m3, h3.Ns C m3 ∧ m3 x.str = some z := ⟨_, hn3, by simp⟩
        have c3 : ∀ b o, b ≠ C → b ≠ I → H.get? b = some o → h3.get? b = some o := fun b o n1 n2 e => hs3'.extBut b o n1 (k1 b o n2 e)
        have kk3 : ∀ b o, b ≠ g.D → s.heap.get? b = some o → h3.get? b = some o := fun b o hb e => c3 b o (notO b o e).1 (notO b o e).2.2 (kk b o hb e)
        have cv3 : ∀ b o, b ∉ C :: acc :: I :: O → H.get? b = some o → h3.get? b = some o ∧ b ∉ C :: acc :: I :: O := fun b o hb e => ⟨c3 b o (fun q => hb (by simp [q])) (fun q => hb (by simp [q])) e, hb⟩
        have dk3 : DeckAt g h3 (C :: acc :: I :: O) d := dk.conv (fun o e => c3 _ o DC DI e) cv3
        have ro3 := ro.conv cv3
        have hpl3 : h3.PlainList acc ys.toArray := by obtain ⟨nn, p⟩ := hpl; exact ⟨nn, c3 _ _ hneAC (Ne.symm hneI.1) p⟩
        have st3 : St (i + 1) h3 := W.frame _ _ _ st1 fun b hb o e => hs3'.extBut b o (hfp2 b hb).1 e
        have pI3 : ∃ o, h3.get? I = some o := by
          obtain ⟨o, ho⟩ := pS _ _ st1; exact ⟨o, hs3'.extBut _ _ hneI.2 ho⟩
        have rz : Rep g h3 (C :: acc :: I :: O) items[i] z := (hP i z _ ht hz).conv (tr kk3)
        have J3 : Inv g (compEnvC sc (frees env sc.names []) C env) (inner fv x items[i] r) (C :: acc :: I :: O) d h3 :=
          inner_inv F c (J := J) hI facc fC kk3 dk3 pI3 (by obtain ⟨nn, p⟩ := hpl3; exact ⟨_, p⟩) hn3 hm3 rz hCl
        have F3 := comp_envF (C := C) F c
        unfold compGo at hg
        split at hg
        · rename_i d4 e4
          split at hg
          · rename_i y d5 e5
            split at hg
            · rename_i as' d6 e6
              cases hg
              refine tests_sem hif F3 hA J3 e4 fun h4 tk4 k4 dk4 => ?_
              rw [if_pos rfl]
              have J4 := J3.keep' k4 dk4
              refine helt _ _ _ d4 d5 y A _ _ _ F3 hA J4 e5 fun u h5 tk5 r5 k5 dk5 => ?_
              have k45 : Keep g h3 h5 := k4.trans k5
              have cv5 : ∀ b o, b ∉ C :: acc :: I :: O → h3.get? b = some o → h5.get? b = some o ∧ b ∉ C :: acc :: I :: O := fun b o hb e => ⟨k45 b o (fun q => hb (by simp [q, J.dO])) e, hb⟩
              have hpl5 : h5.PlainList acc ys.toArray := by obtain ⟨nn, p⟩ := hpl3; exact ⟨nn, k45 _ _ (Ne.symm Dacc) p⟩
              have hys : ys.length ≤ szL := by rw [ro.length]; omega
              refine wpAny_list_append_plain (hsz := by rw [List.size_toArray]; exact Nat.le_trans hys szL_line) hpl5 fun h6 hpl6 hs6 => ?_
              have cv6 : ∀ b o, b ∉ C :: acc :: I :: O → h5.get? b = some o → h6.get? b = some o ∧ b ∉ C :: acc :: I :: O := fun b o hb e => ⟨hs6.extBut b o (fun q => hb (by simp [q])) e, hb⟩
              refine ⟨items.length + 1 - (i + 1), by omega, i + 1, h6, _, d5, outs ++ [y], ys ++ [u], m3, as', rfl, rfl, hlt, ?_, by simpa using hpl6, ?_, by simp; omega, ?_, fun b o hb e => ?_, ?_, e6, by rw [has]; simp, ?_⟩
              · exact W.frame _ _ _ st3 fun b hb o e => hs6.extBut b o (hfp2 b hb).2.1 (k45 b o (hfp2 b hb).2.2 e)
              · exact ((ro3.conv cv5).append (.cons r5 .nil)).conv cv6
              · exact (hn3.at' fun o e => k45 _ o (Ne.symm DC) e).sameBut hs6 (Ne.symm hneAC)
              · exact hs6.extBut b o (notO b o e).2.1 (k45 b o hb (kk3 b o hb e))
              · exact dk5.conv (fun o e => hs6.extBut _ _ Dacc e) cv6
              · obtain ⟨o, ho⟩ := pI3; exact ⟨o, hs6.extBut _ _ hneI.1 (k45 _ _ (Ne.symm DI) ho)⟩
            · cases hg
          · cases hg
        · rename_i d4 e4
          refine tests_sem hif F3 hA J3 e4 fun h4 tk4 k4 dk4 => ?_
          rw [if_neg (by decide)]
          have cv4 : ∀ b o, b ∉ C :: acc :: I :: O → h3.get? b = some o → h4.get? b = some o ∧ b ∉ C :: acc :: I :: O := fun b o hb e => ⟨k4 b o (fun q => hb (by simp [q, J.dO])) e, hb⟩
          refine ⟨items.length + 1 - (i + 1), by omega, i + 1, h4, tk4, d4, outs, ys, m3, rest, rfl, rfl, hlt, ?_, ?_, ro3.conv cv4, by omega, hn3.at' fun o e => k4 _ o (Ne.symm DC) e, fun b o hb e => k4 b o hb (kk3 b o hb e), dk4, hg, has, ?_⟩
          · exact W.frame _ _ _ st3 fun b hb o e => k4 b o (hfp2 b hb).2.2 e
          · obtain ⟨nn, p⟩ := hpl3; exact ⟨nn, k4 _ _ (Ne.symm Dacc) p⟩
          · obtain ⟨o, ho⟩ := pI3; exact ⟨o, k4 _ _ (Ne.symm DI) ho⟩
        · cases hg
      · have hin : i = items.length := by omega
        subst hin
        rw [List.drop_length] at hg
        cases hg
        refine W.done _ _ _ st fun h1 tk1 k1 => ?_
        have k1 := chI k1
        have cv1 : ∀ b o, b ∉ C :: acc :: I :: O → H.get? b = some o → h1.get? b = some o ∧ b ∉ C :: acc :: O := fun b o hb e => ⟨k1 b o (fun q => hb (by simp [q])) e, fun q => hb (by simp at q ⊢; rcases q with q | q | q <;> simp [q])⟩
        obtain ⟨nn, p⟩ := hpl
        subst has
        refine hRR acc C h1 tk1 m ys facc fC hneAC (hn.at' fun o e => k1 _ o (Ne.symm hneI.2) e) ⟨nn, k1 _ _ (Ne.symm hneI.1) p⟩ (by rw [ro.length]; omega) (by rw [List.append_nil]; exact ro.conv cv1) (fun b o hb e => k1 b o (notO b o e).2.2 (kk b o hb e)) (dk.conv (fun o e => k1 _ o DI e) cv1)
    · refine ⟨0, h₁, _, d1, [], [], (fun _ => none), as, rfl, by omega, Nat.zero_le _, st₁, hacc₁, .nil, Nat.le_refl _, hns₁, fun b o hb e => ch1 b o (notO b o e).1 (k2 b o e), ?_, by simpa using hgo, rfl, ?_⟩
      · exact J.deck.conv (fun o e => ch1 _ o DC (k2 _ o e)) (tr fun b o hb e => ch1 b o (notO b o e).1 (k2 b o e))
      · obtain ⟨o, ho⟩ := pI; exact ⟨o, ch1 _ _ hneI.2 ho⟩
  exact codeAny_compStart_list (fin _ rfl) (W.self 0 _ _ _ st₁ (fin _ rfl))
end Mine
end

section
open PySem PySem.W PyProof.Rows PySem.Calls PySem.Spec PyProof.V PySem.SeqAt
set_option maxRecDepth 10000
set_option linter.unusedVariables false
namespace Mine
variable {g : Gd} {l : Nat} {nm : Nms}

theorem comp_sem {env : Env} {sc : Scope} {x : N} {fv : List N} {ifs : List Expr} {cnd : B} {elt iter : Expr} {felt fit : X} {r : Rho} {O : List Addr} {d d' : Dk} {A : Around} {s : Shared} {t : T} {px pos pos' : Pos}
    {Q : Value → Shared → Prop} {E : Value → Shared → Prop} {use : Option (Value → Sem Unit)}
    (F : EnvF nm env) (c : CompF nm sc x fv) (hit : SemE g l nm iter fit) (hif : SemIf g l sc.names ifs cnd) (helt : SemE g l sc.names elt felt) (hA : AOK A l) (J : Inv g env r O d s.heap)
    (hs : ∀ x, foldedSetIterable iter env x = pure x) (hf : xComp fv felt x fit cnd r d = some (t, d'))
    (k : ∀ acc C h' tk, s.heap.get? acc = none → s.heap.get? C = none → acc ≠ C → (∃ m, h'.Ns C m) → (∃ vs : List Value, h'.PlainList acc vs.toArray) → Rep g h' (C :: O) t (.ref acc) → Keep g s.heap h' → DeckAt g h' (C :: O) d' →
      compPost (model g.prog g.w) A E use Q (.ref acc) C (.ok .next) { s with heap := h', toks := tk }) :
    wpAny (model g.prog g.w) A (comprehension (.ListComp elt [⟨.Name x.str px, iter, ifs, 0⟩] sc pos) sc env pos' (newList []) false (eval iter env) use) Q E s := by
  have cells : ∀ p ∈ sc.names, p.2 = .free → ∃ c, env.cells.lookup p.1 = some c := fun p hp e => F.cells _ (c.allfree p hp e)
  unfold xComp at hf
  split at hf
  · rename_i a d1 e1
    split at hf
    · rename_i items ei
      split at hf
      · rename_i hl
        split at hf
        · rename_i as d2 eg
          cases hf
          refine wpAny_comprehension_free rfl hs (closureFor_eq cells) c.kind c.locals (hit env r O d d1 a A s _ E F hA J e1 fun v h1 tk1 rv k1 dk1 => ?_)
          have J1 := J.keep' k1 dk1
          refine comp_core F c hif helt hA J1 rv ei hl eg (RR := fun acc C => compPost (model g.prog g.w) A E use Q acc C) ?_
          intro acc C h' tk m' ys facc fC hne hn hpl hlen rs kk dk
          have up : ∀ b, h1.get? b = none → s.heap.get? b = none := fun b hb => by
            cases e : s.heap.get? b with
            | none => rfl
            | some o =>
              by_cases q : b = g.D
              · obtain ⟨o', ho'⟩ := dk1.ex; rw [← q, hb] at ho'; cases ho'
              · rw [k1 b o q e] at hb; cases hb
          have nacc : acc ∉ O := fun q => by obtain ⟨o, ho⟩ := J1.pres _ q; rw [facc] at ho; cases ho
          have cv : ∀ b o, b ∉ C :: acc :: O → h'.get? b = some o → h'.get? b = some o ∧ b ∉ C :: O := fun b o hb e => ⟨e, fun q => hb (by simp at q ⊢; rcases q with q | q <;> simp [q])⟩
          exact k acc C h' tk (up _ facc) (up _ fC) hne ⟨m', hn⟩ ⟨ys, hpl⟩ (rep_list.mpr ⟨acc, ys, rfl, by simp [hne, nacc], hpl, hlen, rs.conv cv⟩)
            (fun b o hb e => kk b o hb (k1 b o hb e)) (dk.conv (fun o e => e) cv)
        · cases hf
      · cases hf
    · cases hf
  · cases hf

theorem e_comp {elt iter : Expr} {x : N} {px : Pos} {ifs : List Expr} {sc : Scope} {pos : Pos} {fv : List N} {felt fit : X} {cnd : B}
    (c : compOK nm sc x fv = true) (hit : SemE g l nm iter fit) (hif : SemIf g l sc.names ifs cnd) (helt : SemE g l sc.names elt felt) (hs : ∀ env x, foldedSetIterable iter env x = pure x) :
    SemE g l nm (.ListComp elt [⟨.Name x.str px, iter, ifs, 0⟩] sc pos) (xComp fv felt x fit cnd) := by
  intro env r O d d' t A s Q E F hA J hf k
  rw [eval_ListComp]
  refine comp_sem F (compF_of c) hit hif helt hA J (hs env) hf ?_
  intro acc C h' tk facc fC hne hn hpl rt kk dk
  obtain ⟨m, hn⟩ := hn
  refine ⟨m, hn, fun h'' hs'' => ?_⟩
  have cv : ∀ b o, b ∉ C :: O → h'.get? b = some o → h''.get? b = some o ∧ b ∉ O := fun b o hb e => ⟨hs''.extBut b o (fun q => hb (by simp [q])) e, fun q => hb (by simp [q])⟩
  have nC : ∀ b o, s.heap.get? b = some o → b ≠ C := fun b o e => by rintro rfl; rw [fC] at e; cases e
  have DC : g.D ≠ C := by obtain ⟨o, ho⟩ := J.deck.ex; exact nC _ _ ho
  exact k _ h'' tk (rt.conv cv) (fun b o hb e => hs''.extBut b o (nC b o e) (kk b o hb e)) (dk.conv (fun o e => hs''.extBut _ _ DC e) cv)
end Mine
end

section
open PySem PySem.W PyProof.Rows PySem.Calls PySem.Spec PyProof.V PySem.SeqAt
set_option maxRecDepth 100000
set_option linter.unusedVariables false
namespace Mine
variable {g : Gd} {l : Nat} {nm : Nms}
noncomputable def N.back (s : PySem.Str) : Option N := [N.code, .sign, .text, .is_folding, .item, .pattern, .found, .point, .at_, .style, .candidate, .start, .end_, .wanted, .places, .waiting, .seen,
  .width, .index, .last, .further, .spot, .own, .candidates, .styles, .size, .texts, .fits, .place, .some_, .parted, .own_point, .head, .rests,
  .is_parted, .tail, .deck, .many, .nth, .one, .other, .most, .has_lead, .first, .rows, .row, .own_place, .begin_, .lain, .due, .reply,
  .later_reply, .self_, .script, .cell].find? fun x => x.str == s
theorem N.back_str (x : N) : N.back x.str = some x := by cases x <;> decide +kernel
theorem N.str_inj {x y : N} (h : x.str = y.str) : x = y := by
  have := N.back_str x
  rw [h, N.back_str] at this
  exact (Option.some.inj this).symm

/-! a frame's state -/
structure SI (g : Gd) (env : Env) (Pr : List Addr) (r : Rho) (O : List Addr) (d : Dk) (h : Heap) : Prop where
  inv : Inv g env r O d h
  pr : ∀ a ∈ Pr, a ∈ O ∧ a ≠ g.D ∧ ¬ Slot env a
  ow : ∃ ow : N → Addr, ∀ x t, r x = some (.own t) → VarAt env h x.str (.ref (ow x)) ∧ ow x ∈ O ∧ ow x ≠ g.D ∧ OwnRep g h O t (ow x) ∧ ow x ∉ Pr ∧ ¬ Slot env (ow x) ∧ ∀ y u, r y = some (.own u) → ow y = ow x → y = x

noncomputable def Grow (h : Heap) (O O' : List Addr) : Prop := ∀ a ∈ O', a ∈ O ∨ h.get? a = none
noncomputable def Kp (Pr O : List Addr) (h h' : Heap) : Prop := ∀ b o, (b ∉ O ∨ b ∈ Pr) → h.get? b = some o → h'.get? b = some o
theorem Grow.refl {h O} : Grow h O O := fun a h => .inl h
theorem Kp.refl {Pr O : List Addr} {h} : Kp Pr O h h := fun _ _ _ e => e
theorem Kp.trans {Pr O O1 : List Addr} {h h1 h2 : Heap} (k : Kp Pr O h h1) (gr : Grow h O O1) (k' : Kp Pr O1 h1 h2) : Kp Pr O h h2 := fun b o q e => by
  refine k' b o ?_ (k b o q e)
  rcases q with q | q
  · exact .inl fun q' => by
      rcases gr b q' with q' | q'
      · exact q q'
      · rw [e] at q'; cases q'
  · exact .inr q
theorem Grow.trans {Pr O O1 O2 : List Addr} {h h1 : Heap} (gr : Grow h O O1) (k : Kp Pr O h h1) (gr' : Grow h1 O1 O2) : Grow h O O2 := fun a ha => by
  rcases gr' a ha with q | q
  · exact gr a q
  · by_cases hO : a ∈ O
    · exact .inl hO
    · cases e : h.get? a with
      | none => exact .inr rfl
      | some o => rw [k a o (.inl hO) e] at q; cases q

theorem SI.keep {env : Env} {Pr : List Addr} {r : Rho} {O : List Addr} {d d' : Dk} {h h' : Heap} (S : SI g env Pr r O d h) (k : Keep g h h') (dk : DeckAt g h' O d') : SI g env Pr r O d' h' where
  inv := S.inv.keep' k dk
  pr := S.pr
  ow := by
    obtain ⟨ow, H⟩ := S.ow
    refine ⟨ow, fun x t e => ?_⟩
    obtain ⟨h1, h2, h3, h4, h5⟩ := H x t e
    exact ⟨h1.keep fun a s o e => k a o (S.inv.slot a s).2 e, h2, h3, h4.conv (fun o e => k _ o h3 e) (fun b o hb e => ⟨k b o (fun q => hb (q ▸ S.inv.dO)) e, hb⟩), h5⟩
theorem SI.kp {env : Env} {Pr : List Addr} {r : Rho} {O : List Addr} {d : Dk} {h h' : Heap} (S : SI g env Pr r O d h) (k : Keep g h h') : Kp Pr O h h' := fun b o q e => k b o (by
  rintro rfl
  rcases q with q | q
  · exact q S.inv.dO
  · exact (S.pr _ q).2.1 rfl) e

/-- one more object that is the frame's -/
theorem SI.ext {env : Env} {Pr : List Addr} {r : Rho} {O : List Addr} {d d' : Dk} {h h' : Heap} {C : Addr} (S : SI g env Pr r O d h) (k : Keep g h h') (dk : DeckAt g h' (C :: O) d') (fC : h.get? C = none) (pC : ∃ o, h'.get? C = some o) :
    SI g env (C :: Pr) r (C :: O) d' h' := by
  have ne : ∀ b o, h.get? b = some o → b ≠ C := fun b o e => by rintro rfl; rw [fC] at e; cases e
  have CO : C ∉ O := fun q => by obtain ⟨o, ho⟩ := S.inv.pres _ q; exact ne _ _ ho rfl
  have tr : ∀ b o, b ∉ O → h.get? b = some o → h'.get? b = some o ∧ b ∉ C :: O := fun b o hb e => ⟨k b o (fun q => hb (q ▸ S.inv.dO)) e, by simp [ne b o e, hb]⟩
  have J := S.inv.keep' (d' := d') k (dk.conv (fun o e => e) fun b o hb e => ⟨e, fun q => hb (by simp [q])⟩)
  refine ⟨⟨J.fr, J.base, J.baseD, J.baseL, dk, by simp [J.dO], fun a ha => ?_, fun a s => ⟨by simp [(J.slot a s).1], (J.slot a s).2⟩, fun x t e => ?_, fun x t e => ?_, fun a ha => ?_⟩, fun a ha => ?_, ?_⟩
  · simp only [List.mem_cons] at ha
    rcases ha with rfl | ha
    · exact pC
    · exact J.pres a ha
  · obtain ⟨v, hv, rv⟩ := S.inv.vals x t e
    exact ⟨v, hv.keep fun a s o e => k a o (S.inv.slot a s).2 e, rv.conv tr⟩
  · obtain ⟨a, hv, ha, hD, ra⟩ := S.inv.owns x t e
    exact ⟨a, hv.keep fun a s o e => k a o (S.inv.slot a s).2 e, by simp [ha], hD, ra.conv (fun o e => k _ o hD e) tr⟩
  · simp only [List.mem_cons] at ha
    rcases ha with rfl | ha
    · cases e : g.base.get? a with
      | none => rfl
      | some o => rw [S.inv.base a o e] at fC; cases fC
    · exact J.ob a ha
  · simp only [List.mem_cons] at ha
    rcases ha with rfl | ha
    · refine ⟨by simp, ?_, fun s => CO (S.inv.slot _ s).1⟩
      rintro rfl
      exact CO S.inv.dO
    · have := S.pr a ha
      exact ⟨by simp [this.1], this.2⟩
  · obtain ⟨ow, H⟩ := S.ow
    refine ⟨ow, fun x t e => ?_⟩
    obtain ⟨h1, h2, h3, h4, h5, h6⟩ := H x t e
    refine ⟨h1.keep fun a s o e => k a o (S.inv.slot a s).2 e, by simp [h2], h3, h4.conv (fun o e => k _ o h3 e) tr, ?_, h6⟩
    simp only [List.mem_cons, not_or]
    exact ⟨by rintro q; exact CO (q ▸ h2), h5⟩
theorem SI.mod {env : Env} {Pr : List Addr} {r : Rho} {O : List Addr} {d : Dk} {h h' : Heap} {C : Addr} (S : SI g env Pr r O d h) (hC : C ∈ Pr) (k : ∀ b o, b ≠ C → h.get? b = some o → h'.get? b = some o) (pC : ∃ o, h'.get? C = some o) :
    SI g env Pr r O d h' := by
  have P := S.pr _ hC
  have tr : ∀ b o, b ∉ O → h.get? b = some o → h'.get? b = some o ∧ b ∉ O := fun b o hb e => ⟨k b o (by rintro rfl; exact hb P.1) e, hb⟩
  have ks : ∀ a, Slot env a → ∀ o, h.get? a = some o → h'.get? a = some o := fun a s o e => k a o (by rintro rfl; exact P.2.2 s) e
  obtain ⟨ow, H⟩ := S.ow
  have H' : ∀ x t, r x = some (.own t) → VarAt env h' x.str (.ref (ow x)) ∧ ow x ∈ O ∧ ow x ≠ g.D ∧ OwnRep g h' O t (ow x) ∧ ow x ∉ Pr ∧ ¬ Slot env (ow x) ∧ ∀ y u, r y = some (.own u) → ow y = ow x → y = x := fun x t e => by
    obtain ⟨h1, h2, h3, h4, h5, h6⟩ := H x t e
    exact ⟨h1.keep ks, h2, h3, h4.conv (fun o e => k _ o (by rintro q; exact h5 (q ▸ hC)) e) tr, h5, h6⟩
  refine ⟨⟨S.inv.fr.keep ks, fun b o e => k b o ?_ (S.inv.base b o e), S.inv.baseD, S.inv.baseL, S.inv.deck.conv (fun o e => k _ o (Ne.symm P.2.1) e) tr, S.inv.dO, fun a ha => ?_, S.inv.slot, fun x t e => ?_, fun x t e => ?_, S.inv.ob⟩, S.pr, ow, H'⟩
  · rintro rfl; rw [S.inv.ob _ P.1] at e; cases e
  · by_cases q : a = C
    · rw [q]; exact pC
    · obtain ⟨o, ho⟩ := S.inv.pres a ha; exact ⟨o, k a o q ho⟩
  · obtain ⟨v, hv, rv⟩ := S.inv.vals x t e
    exact ⟨v, hv.keep ks, rv.conv tr⟩
  · obtain ⟨h1, h2, h3, h4, h5, h6⟩ := H' x t e
    exact ⟨_, h1, h2, h3, h4⟩
/-- let go of an object -/
theorem SI.drop {env : Env} {Pr : List Addr} {r : Rho} {O : List Addr} {d : Dk} {h h' : Heap} {C : Addr} (S : SI g env (C :: Pr) r (C :: O) d h) (hC : C ∉ O) (hP : ∀ a ∈ Pr, a ∈ O) (k : ∀ b o, b ≠ C → h.get? b = some o → h'.get? b = some o) :
    SI g env Pr r O d h' := by
  have P := S.pr C (by simp)
  have mem : ∀ b, b ∈ C :: O → b ≠ C → b ∈ O := fun b hb n => by simp only [List.mem_cons] at hb; exact hb.resolve_left n
  have tr : ∀ b o, b ∉ C :: O → h.get? b = some o → h'.get? b = some o ∧ b ∉ O := fun b o hb e => ⟨k b o (by rintro rfl; exact hb (by simp)) e, fun q => hb (by simp [q])⟩
  have ks : ∀ a, Slot env a → ∀ o, h.get? a = some o → h'.get? a = some o := fun a s o e => k a o (by rintro rfl; exact P.2.2 s) e
  obtain ⟨ow, H⟩ := S.ow
  have H' : ∀ x t, r x = some (.own t) → VarAt env h' x.str (.ref (ow x)) ∧ ow x ∈ O ∧ ow x ≠ g.D ∧ OwnRep g h' O t (ow x) ∧ ow x ∉ Pr ∧ ¬ Slot env (ow x) ∧ ∀ y u, r y = some (.own u) → ow y = ow x → y = x := fun x t e => by
    obtain ⟨h1, h2, h3, h4, h5, h6⟩ := H x t e
    simp only [List.mem_cons, not_or] at h5
    exact ⟨h1.keep ks, mem _ h2 h5.1, h3, h4.conv (fun o e => k _ o h5.1 e) tr, h5.2, h6⟩
  refine ⟨⟨S.inv.fr.keep ks, fun b o e => k b o ?_ (S.inv.base b o e), S.inv.baseD, S.inv.baseL, S.inv.deck.conv (fun o e => k _ o (Ne.symm P.2.1) e) tr, mem _ S.inv.dO (Ne.symm P.2.1), fun a ha => ?_, fun a s => ⟨mem _ (S.inv.slot a s).1 (by rintro rfl; exact P.2.2 s), (S.inv.slot a s).2⟩, fun x t e => ?_, fun x t e => ?_, fun a ha => S.inv.ob a (by simp [ha])⟩, fun a ha => ⟨hP a ha, (S.pr a (by simp [ha])).2⟩, ow, H'⟩
  · rintro rfl; rw [S.inv.ob _ P.1] at e; cases e
  · obtain ⟨o, ho⟩ := S.inv.pres a (by simp [ha]); exact ⟨o, k a o (by rintro rfl; exact hC ha) ho⟩
  · obtain ⟨v, hv, rv⟩ := S.inv.vals x t e
    exact ⟨v, hv.keep ks, rv.conv tr⟩
  · obtain ⟨h1, h2, h3, h4, h5, h6⟩ := H' x t e
    exact ⟨_, h1, h2, h3, h4⟩
theorem SI.drop' {env : Env} {Pr : List Addr} {r : Rho} {O : List Addr} {d : Dk} {h h' : Heap} {C : Addr} (S : SI g env (C :: Pr) r O d h) (hP : C ∉ Pr) (k : ∀ b o, b ≠ C → h.get? b = some o → h'.get? b = some o) :
    ∃ O', (∀ a ∈ O', a ∈ O) ∧ SI g env Pr r O' d h' := by
  have P := S.pr C (by simp)
  have mem : ∀ b, b ∈ O.filter (fun b => decide (b ≠ C)) ↔ b ∈ O ∧ b ≠ C := fun b => by simp
  have tr : ∀ b o, b ∉ O → h.get? b = some o → h'.get? b = some o ∧ b ∉ O.filter (fun b => decide (b ≠ C)) := fun b o hb e => ⟨k b o (by rintro rfl; exact hb P.1) e, fun q => hb ((mem b).mp q).1⟩
  have ks : ∀ a, Slot env a → ∀ o, h.get? a = some o → h'.get? a = some o := fun a s o e => k a o (by rintro rfl; exact P.2.2 s) e
  obtain ⟨ow, H⟩ := S.ow
  have H' : ∀ x t, r x = some (.own t) → VarAt env h' x.str (.ref (ow x)) ∧ ow x ∈ O.filter (fun b => decide (b ≠ C)) ∧ ow x ≠ g.D ∧ OwnRep g h' (O.filter (fun b => decide (b ≠ C))) t (ow x) ∧ ow x ∉ Pr ∧ ¬ Slot env (ow x) ∧ ∀ y u, r y = some (.own u) → ow y = ow x → y = x := fun x t e => by
    obtain ⟨h1, h2, h3, h4, h5, h6⟩ := H x t e
    simp only [List.mem_cons, not_or] at h5
    exact ⟨h1.keep ks, (mem _).mpr ⟨h2, h5.1⟩, h3, h4.conv (fun o e => k _ o h5.1 e) tr, h5.2, h6⟩
  refine ⟨_, fun a ha => ((mem a).mp ha).1, ⟨S.inv.fr.keep ks, fun b o e => k b o ?_ (S.inv.base b o e), S.inv.baseD, S.inv.baseL, S.inv.deck.conv (fun o e => k _ o (Ne.symm P.2.1) e) tr, (mem _).mpr ⟨S.inv.dO, Ne.symm P.2.1⟩, fun a ha => ?_, fun a s => ⟨(mem _).mpr ⟨(S.inv.slot a s).1, by rintro rfl; exact P.2.2 s⟩, (S.inv.slot a s).2⟩, fun x t e => ?_, fun x t e => ?_, fun a ha => S.inv.ob a ((mem a).mp ha).1⟩, fun a ha => ⟨(mem _).mpr ⟨(S.pr a (by simp [ha])).1, by rintro rfl; exact hP ha⟩, (S.pr a (by simp [ha])).2⟩, ow, H'⟩
  · rintro rfl; rw [S.inv.ob _ P.1] at e; cases e
  · obtain ⟨m1, m2⟩ := (mem a).mp ha
    obtain ⟨o, ho⟩ := S.inv.pres a m1; exact ⟨o, k a o m2 ho⟩
  · obtain ⟨v, hv, rv⟩ := S.inv.vals x t e
    exact ⟨v, hv.keep ks, rv.conv tr⟩
  · obtain ⟨h1, h2, h3, h4, h5, h6⟩ := H' x t e
    exact ⟨_, h1, h2, h3, h4⟩
end Mine
end

section
open PySem PySem.W PyProof.Rows PySem.Calls PySem.Spec PyProof.V PySem.SeqAt
set_option maxRecDepth 100000
set_option linter.unusedVariables false
namespace Mine
variable {g : Gd} {l : Nat} {nm : Nms}

noncomputable def lcOK (nm : Nms) (x : N) : Bool := nm.lookup x.str == some .local || nm.lookup x.str == some .cell
theorem store_core {env : Env} {x : N} {v : Value} {M : Model} {A : Around} {s : Shared} {Q : Unit → Shared → Prop} {E : Value → Shared → Prop} (F : EnvF nm env) (hx : lcOK nm x = true) (fr : FrOK env s.heap)
    (k : ∀ h' tk c, Slot env c → (∀ b o, b ≠ c → s.heap.get? b = some o → h'.get? b = some o) → (∃ o, h'.get? c = some o) → FrOK env h' → VarAt env h' x.str v → (∀ y u, y ≠ x.str → VarAt env s.heap y u → VarAt env h' y u) → Q () { s with heap := h', toks := tk }) :
    wpAny M A (storeName env x.str v) Q E s := by
  unfold lcOK at hx
  simp only [Bool.or_eq_true, beq_iff_eq] at hx
  rcases hx with hx | hx
  · have hk : env.kindOf x.str = some .local := F.names _ _ hx (by decide)
    obtain ⟨m, hn⟩ := fr.ns
    refine wpAny_storeName_local hk hn (fun h' hn' hs' => ?_) (by rw [F.kind]; rfl)
    have e : ∀ b o, b ≠ env.locals → s.heap.get? b = some o → h'.get? b = some o := fun b o hb e => hs'.extBut b o hb e
    refine k h' _ env.locals (.inl rfl) e (by obtain ⟨o, _, _, ho, _⟩ := hn'; exact ⟨o, ho⟩) ⟨⟨_, hn'⟩, fun y c hc => ?_, fr.apart, fr.off⟩ (.inl ⟨hk, _, hn', by simp⟩) fun y u hy V => ?_
    · obtain ⟨w, o, ho, hd⟩ := fr.cell y c hc
      exact ⟨w, o, e c o (fr.off y c hc) ho, hd⟩
    · rcases V with ⟨a, m', hn2, e2⟩ | ⟨a, c, hc, o, ho, hd⟩
      · obtain ⟨m3, hn3⟩ : ∃ m3, h'.Ns env.locals m3 ∧ ∀ z, z ≠ x.str → m3 z = m z := ⟨_, hn', fun z hz => by simp [hz]⟩
        refine .inl ⟨a, m3, hn3.1, ?_⟩
        rw [hn3.2 y hy]
        rw [hn.eq_nsMap, ← hn2.eq_nsMap]; exact e2
      · exact .inr ⟨a, c, hc, o, e c o (fr.off y c hc) ho, hd⟩
  · have hk : env.kindOf x.str = some .cell := F.names _ _ hx (by decide)
    obtain ⟨c, hc⟩ := F.cells _ hx
    obtain ⟨v₀, hv⟩ := fr.cell _ c hc
    refine wpAny_storeName_cell F.kind hk hc hv fun h' hc' hs' => ?_
    have e : ∀ b o, b ≠ c → s.heap.get? b = some o → h'.get? b = some o := fun b o hb e => hs'.extBut b o hb e
    obtain ⟨m, hn⟩ := fr.ns
    refine k h' s.toks c (.inr ⟨_, hc⟩) e (by obtain ⟨o, ho, _⟩ := hc'; exact ⟨o, ho⟩) ⟨⟨m, hn.at' fun o ho => e _ o (Ne.symm (fr.off _ c hc)) ho⟩, fun y c' hc2 => ?_, fr.apart, fr.off⟩ (.inr ⟨hk, c, hc, hc'⟩) fun y u hy V => ?_
    · by_cases q : c' = c
      · subst q; exact ⟨_, hc'⟩
      · obtain ⟨w, o, ho, hd⟩ := fr.cell y c' hc2
        exact ⟨w, o, e c' o q ho, hd⟩
    · rcases V with ⟨a, m', hn2, e2⟩ | ⟨a, c', hc2, o, ho, hd⟩
      · exact .inl ⟨a, m', hn2.at' fun o ho => e _ o (Ne.symm (fr.off _ c hc)) ho, e2⟩
      · refine .inr ⟨a, c', hc2, o, e c' o ?_ ho, hd⟩
        rintro rfl
        exact hy (fr.apart _ _ _ hc2 hc)

/-- x = v -/
theorem store_val {env : Env} {x : N} {v : Value} {t : T} {Pr : List Addr} {r : Rho} {O : List Addr} {d : Dk} {M : Model} {A : Around} {s : Shared} {Q : Unit → Shared → Prop} {E : Value → Shared → Prop} (F : EnvF nm env) (hx : lcOK nm x = true)
    (S : SI g env Pr r O d s.heap) (rv : Rep g s.heap O t v)
    (k : ∀ h' tk c, c ∈ O → Slot env c → (∀ b o, b ≠ c → s.heap.get? b = some o → h'.get? b = some o) → SI g env Pr (upd r x (.val t)) O d h' → Q () { s with heap := h', toks := tk }) :
    wpAny M A (storeName env x.str v) Q E s := by
  refine store_core F hx S.inv.fr fun h' tk c sc kk pc fr' V' Vo => ?_
  have cO := (S.inv.slot c sc).1
  have tr : ∀ b o, b ∉ O → s.heap.get? b = some o → h'.get? b = some o ∧ b ∉ O := fun b o hb e => ⟨kk b o (by rintro rfl; exact hb cO) e, hb⟩
  obtain ⟨ow, H⟩ := S.ow
  have H' : ∀ y t', upd r x (.val t) y = some (.own t') → VarAt env h' y.str (.ref (ow y)) ∧ ow y ∈ O ∧ ow y ≠ g.D ∧ OwnRep g h' O t' (ow y) ∧ ow y ∉ Pr ∧ ¬ Slot env (ow y) ∧ ∀ z u, upd r x (.val t) z = some (.own u) → ow z = ow y → z = y := fun y t' e => by
    by_cases q : y = x
    · subst q; rw [upd_same] at e; cases e
    · rw [upd_ne _ _ q] at e
      obtain ⟨h1, h2, h3, h4, h5, h6, h7⟩ := H y t' e
      refine ⟨Vo _ _ (fun q' => q (N.str_inj q')) h1, h2, h3, h4.conv (fun o e => kk _ o (by rintro q; exact h6 (q ▸ sc)) e) tr, h5, h6, fun z u e' e2 => ?_⟩
      by_cases q : z = x
      · subst q; rw [upd_same] at e'; cases e'
      · rw [upd_ne _ _ q] at e'; exact h7 z u e' e2
  refine k h' tk c cO sc kk ⟨⟨fr', fun b o e => kk b o (by rintro rfl; rw [S.inv.ob _ cO] at e; cases e) (S.inv.base b o e), S.inv.baseD, S.inv.baseL, S.inv.deck.conv (fun o e => kk _ o (by rintro q; exact (S.inv.slot c sc).2 q.symm) e) tr, S.inv.dO, fun a ha => ?_, S.inv.slot, fun y t' e => ?_, fun y t' e => ?_, S.inv.ob⟩, S.pr, ow, H'⟩
  · by_cases q : a = c
    · rw [q]; exact pc
    · obtain ⟨o, ho⟩ := S.inv.pres a ha; exact ⟨o, kk a o q ho⟩
  · by_cases q : y = x
    · subst q; rw [upd_same] at e; cases e
      exact ⟨v, V', rv.conv tr⟩
    · rw [upd_ne _ _ q] at e
      obtain ⟨w, hw, rw'⟩ := S.inv.vals y t' e
      exact ⟨w, Vo _ _ (fun q' => q (N.str_inj q')) hw, rw'.conv tr⟩
  · obtain ⟨h1, h2, h3, h4, _⟩ := H' y t' e
    exact ⟨_, h1, h2, h3, h4⟩

/-- x = a list of one's own -/
theorem store_own {env : Env} {x : N} {a : Addr} {t : T} {Pr : List Addr} {r : Rho} {O : List Addr} {d : Dk} {M : Model} {A : Around} {s : Shared} {Q : Unit → Shared → Prop} {E : Value → Shared → Prop} (F : EnvF nm env) (hx : lcOK nm x = true)
    (S : SI g env (a :: Pr) r O d s.heap) (ha : a ∉ Pr) (rv : OwnRep g s.heap O t a)
    (k : ∀ h' tk c, c ∈ O → Slot env c → (∀ b o, b ≠ c → s.heap.get? b = some o → h'.get? b = some o) → SI g env Pr (upd r x (.own t)) O d h' → Q () { s with heap := h', toks := tk }) :
    wpAny M A (storeName env x.str (.ref a)) Q E s := by
  refine store_core F hx S.inv.fr fun h' tk c sc kk pc fr' V' Vo => ?_
  have cO := (S.inv.slot c sc).1
  have P := S.pr a (by simp)
  have tr : ∀ b o, b ∉ O → s.heap.get? b = some o → h'.get? b = some o ∧ b ∉ O := fun b o hb e => ⟨kk b o (by rintro rfl; exact hb cO) e, hb⟩
  obtain ⟨ow, H⟩ := S.ow
  have na : ∀ y t', r y = some (.own t') → ow y ≠ a := fun y t' e q => (H y t' e).2.2.2.2.1 (by simp [q])
  have H' : ∀ y t', upd r x (.own t) y = some (.own t') → VarAt env h' y.str (.ref (if y = x then a else ow y)) ∧ (if y = x then a else ow y) ∈ O ∧ (if y = x then a else ow y) ≠ g.D ∧ OwnRep g h' O t' (if y = x then a else ow y) ∧ (if y = x then a else ow y) ∉ Pr ∧
      ¬ Slot env (if y = x then a else ow y) ∧ ∀ z u, upd r x (.own t) z = some (.own u) → (if z = x then a else ow z) = (if y = x then a else ow y) → z = y := fun y t' e => by
    by_cases q : y = x
    · subst q; rw [upd_same] at e; cases e
      simp only [if_true]
      refine ⟨V', P.1, P.2.1, rv.conv (fun o e => kk _ o (by rintro q; exact P.2.2 (q ▸ sc)) e) tr, ha, P.2.2, fun z u e' e2 => ?_⟩
      by_cases q : z = y
      · exact q
      · rw [upd_ne _ _ q] at e'
        rw [if_neg q] at e2
        exact absurd e2 (na z u e')
    · rw [upd_ne _ _ q] at e
      obtain ⟨h1, h2, h3, h4, h5, h6, h7⟩ := H y t' e
      simp only [if_neg q]
      refine ⟨Vo _ _ (fun q' => q (N.str_inj q')) h1, h2, h3, h4.conv (fun o e => kk _ o (by rintro q; exact h6 (q ▸ sc)) e) tr, fun q => h5 (by simp [q]), h6, fun z u e' e2 => ?_⟩
      by_cases q2 : z = x
      · subst q2; rw [if_pos rfl] at e2; exact absurd e2.symm (na y t' e)
      · rw [upd_ne _ _ q2] at e'; rw [if_neg q2] at e2; exact h7 z u e' e2
  refine k h' tk c cO sc kk ⟨⟨fr', fun b o e => kk b o (by rintro rfl; rw [S.inv.ob _ cO] at e; cases e) (S.inv.base b o e), S.inv.baseD, S.inv.baseL, S.inv.deck.conv (fun o e => kk _ o (by rintro q; exact (S.inv.slot c sc).2 q.symm) e) tr, S.inv.dO, fun a ha => ?_, S.inv.slot, fun y t' e => ?_, fun y t' e => ?_, S.inv.ob⟩, fun b hb => S.pr b (by simp [hb]), _, H'⟩
  · by_cases q : a = c
    · rw [q]; exact pc
    · obtain ⟨o, ho⟩ := S.inv.pres a ha; exact ⟨o, kk a o q ho⟩
  · by_cases q : y = x
    · subst q; rw [upd_same] at e; cases e
    · rw [upd_ne _ _ q] at e
      obtain ⟨w, hw, rw'⟩ := S.inv.vals y t' e
      exact ⟨w, Vo _ _ (fun q' => q (N.str_inj q')) hw, rw'.conv tr⟩
  · obtain ⟨h1, h2, h3, h4, _⟩ := H' y t' e
    exact ⟨_, h1, h2, h3, h4⟩

theorem SI.sub {env : Env} {Pr Pr' : List Addr} {r : Rho} {O : List Addr} {d : Dk} {h : Heap} (S : SI g env Pr r O d h) (k : ∀ a ∈ Pr', a ∈ Pr) : SI g env Pr' r O d h where
  inv := S.inv
  pr := fun a ha => S.pr a (k a ha)
  ow := by
    obtain ⟨ow, H⟩ := S.ow
    refine ⟨ow, fun x t e => ?_⟩
    obtain ⟨h1, h2, h3, h4, h5, h6⟩ := H x t e
    exact ⟨h1, h2, h3, h4, fun q => h5 (k _ q), h6⟩

/-! what is shown of a statement -/
noncomputable def FlRep (g : Gd) (h : Heap) (Pr : List Addr) : Fl → Flow → Prop
  | .next, f => f = .next
  | .cont, f => f = .cont
  | .ret t, f => ∃ v, f = .ret v ∧ Rep g h (g.D :: Pr) t v
noncomputable def SemM (g : Gd) (l : Nat) (nm : Nms) (m : Env → Sem Flow) (f : SX) : Prop :=
  ∀ (env : Env) (Pr : List Addr) (r r' : Rho) (O : List Addr) (d d' : Dk) (fl : Fl) (A : Around) (s : Shared) (Q : Flow → Shared → Prop) (E : Value → Shared → Prop),
    EnvF nm env → AOK A l → SI g env Pr r O d s.heap → f r d = some (fl, r', d') →
    (∀ fv h' tk O', FlRep g h' Pr fl fv → SI g env Pr r' O' d' h' → Kp Pr O s.heap h' → Grow s.heap O O' → Q fv { s with heap := h', toks := tk }) → wpAny (model g.prog g.w) A (m env) Q E s
noncomputable abbrev SemS (g : Gd) (l : Nat) (nm : Nms) (st : Stmt) (f : SX) : Prop := SemM g l nm (exec st) f
noncomputable abbrev SemSs (g : Gd) (l : Nat) (nm : Nms) (sts : List Stmt) (f : SX) : Prop := SemM g l nm (execs sts) f

theorem s_nil : SemSs g l nm [] (seqs []) := by
  intro env Pr r r' O d d' fl A s Q E F hA S e k
  cases e
  exact wpAny_execs_nil (k _ s.heap s.toks O rfl S Kp.refl Grow.refl)
theorem s_cons {st : Stmt} {sts : List Stmt} {f : SX} {fs : List SX} (h1 : SemS g l nm st f) (h2 : SemSs g l nm sts (seqs fs)) : SemSs g l nm (st :: sts) (seqs (f :: fs)) := by
  intro env Pr r r' O d d' fl A s Q E F hA S e k
  unfold seqs at e
  refine wpAny_execs_cons ?_
  split at e
  · rename_i r1 d1 e1
    refine h1 env Pr r r1 O d d1 .next A s _ E F hA S e1 fun fv h' tk O' hf S' kp gr => ?_
    have hf' : fv = .next := hf
    subst hf'
    refine h2 env Pr r1 r' O' d1 d' fl A _ Q E F hA S' e fun fv h2 tk2 O2 hf2 S2 kp2 gr2 => ?_
    exact k fv h2 tk2 O2 hf2 S2 (kp.trans gr kp2) (gr.trans kp gr2)
  · rename_i hne
    refine h1 env Pr r r' O d d' fl A s _ E F hA S e fun fv h' tk O' hf S' kp gr => ?_
    cases fl with
    | next => exact absurd e (fun q => hne _ _ q)
    | cont =>
      have hf' : fv = .cont := hf
      subst hf'
      exact k _ h' tk O' hf S' kp gr
    | ret t =>
      obtain ⟨v, rfl, rv⟩ := hf
      exact k _ h' tk O' ⟨v, rfl, rv⟩ S' kp gr
theorem s_one {st : Stmt} {f : SX} (h1 : SemS g l nm st f) : SemSs g l nm [st] (seqs [f]) := s_cons h1 s_nil
theorem s_if {c : Expr} {a b : List Stmt} {pos : Pos} {fc : B} {fa fb : SX} (hc : SemB g l nm c fc) (ha : SemSs g l nm a fa) (hb : SemSs g l nm b fb) : SemS g l nm (.If c a b pos) (sIf fc fa fb) := by
  intro env Pr r r' O d d' fl A s Q E F hA S e k
  unfold sIf at e
  refine wpAny_If ?_
  split at e
  · rename_i d1 e1
    refine hc env r O d d1 true A s _ E F hA S.inv e1 fun h1 tk k1 dk1 => ?_
    rw [if_pos rfl]
    exact ha env Pr r r' O d1 d' fl A _ Q E F hA (S.keep k1 dk1) e fun fv h2 tk2 O2 hf2 S2 kp2 gr2 => k fv h2 tk2 O2 hf2 S2 ((S.kp k1).trans Grow.refl kp2) (Grow.refl.trans (S.kp k1) gr2)
  · rename_i d1 e1
    refine hc env r O d d1 false A s _ E F hA S.inv e1 fun h1 tk k1 dk1 => ?_
    rw [if_neg (by decide)]
    exact hb env Pr r r' O d1 d' fl A _ Q E F hA (S.keep k1 dk1) e fun fv h2 tk2 O2 hf2 S2 kp2 gr2 => k fv h2 tk2 O2 hf2 S2 ((S.kp k1).trans Grow.refl kp2) (Grow.refl.trans (S.kp k1) gr2)
  · cases e
theorem s_cont {pos : Pos} : SemS g l nm (.Continue pos) sCont := by
  intro env Pr r r' O d d' fl A s Q E F hA S e k
  cases e
  exact wpAny_Continue (k _ s.heap s.toks O rfl S Kp.refl Grow.refl)
theorem SI.off {env : Env} {Pr : List Addr} {r : Rho} {O : List Addr} {d : Dk} {h : Heap} (S : SI g env Pr r O d h) {t : T} {v : Value} (x : Rep g h O t v) : Rep g h (g.D :: Pr) t v :=
  x.conv fun b o hb e => ⟨e, fun q => hb (by
    simp only [List.mem_cons] at q
    rcases q with rfl | q
    · exact S.inv.dO
    · exact (S.pr b q).1)⟩
theorem s_ret {a : Expr} {pos : Pos} {f : X} (ha : SemE g l nm a f) : SemS g l nm (.Return (some a) pos) (sRet f) := by
  intro env Pr r r' O d d' fl A s Q E F hA S e k
  unfold sRet at e
  split at e
  · rename_i t d1 e1
    cases e
    refine wpAny_Return_some (ha env r O d d' t A s _ E F hA S.inv e1 fun v h1 tk rv k1 dk1 => ?_)
    have S1 := S.keep k1 dk1
    exact k _ h1 tk O ⟨v, rfl, S1.off rv⟩ S1 (S.kp k1) Grow.refl
  · cases e
theorem s_retvar {x : N} {n : PySem.Str} {np pos : Pos} (e : n = x.str) : SemS g l nm (.Return (some (.Name n np)) pos) (sRetVar x) := by
  subst e
  intro env Pr r r' O d d' fl A s Q E F hA S e k
  unfold sRetVar at e
  split at e
  · rename_i t' hr
    cases e
    obtain ⟨v, V, rv⟩ := S.inv.vals x _ hr
    exact wpAny_Return_some (load_var F V (nodebug x) (k _ s.heap s.toks O ⟨v, rfl, S.off rv⟩ S Kp.refl Grow.refl))
  · rename_i xs hr
    cases e
    obtain ⟨ow, H⟩ := S.ow
    obtain ⟨h1, h2, h3, h4, h5, h6, _⟩ := H x _ hr
    refine wpAny_Return_some (load_var F h1 (nodebug x) (k _ s.heap s.toks O ⟨_, rfl, ?_⟩ S Kp.refl Grow.refl))
    obtain ⟨vs, hp, hl, rs⟩ := h4
    refine rep_list.mpr ⟨_, vs, rfl, by simp [h3, h5], hp, hl, rs.conv fun b o hb e => ⟨e, fun q => hb ?_⟩⟩
    simp only [List.mem_cons] at q
    rcases q with rfl | q
    · exact S.inv.dO
    · exact (S.pr b q).1
  · cases e

/-- x = e -/
theorem asg_post {env : Env} {Pr : List Addr} {r : Rho} {O : List Addr} {d : Dk} {h h1 h2 : Heap} {c : Addr} (S : SI g env Pr r O d h) (k1 : Keep g h h1) (cO : c ∈ O) (sc : Slot env c) (kk : ∀ b o, b ≠ c → h1.get? b = some o → h2.get? b = some o) : Kp Pr O h h2 := fun b o q e => by
  refine kk b o ?_ (S.kp k1 b o q e)
  rintro rfl
  rcases q with q | q
  · exact q cO
  · exact (S.pr _ q).2.2 sc
theorem s_asg {x : N} {n : PySem.Str} {np pos : Pos} {a : Expr} {f : X} (e : n = x.str) (hx : lcOK nm x = true) (ha : SemE g l nm a f) (hs : ∀ env, swapsWith a (some (.Name n np)) pos.line env = pure false) :
    SemS g l nm (.Assign [.Name n np] a pos) (sAsg x f) := by
  subst e
  intro env Pr r r' O d d' fl A s Q E F hA S e k
  unfold sAsg at e
  split at e
  · rename_i t d1 e1
    cases e
    refine wpAny_Assign_Name (ha env r O d d' t A s _ E F hA S.inv e1 fun v h1 tk rv k1 dk1 => ?_) (hs env)
    have S1 := S.keep k1 dk1
    refine store_val F hx S1 rv fun h2 tk2 c cO sc kk S2 => ?_
    exact k _ h2 tk2 O rfl S2 (asg_post S k1 cO sc kk) Grow.refl
  · cases e
end Mine
end

section
open PySem PySem.W PyProof.Rows PySem.Calls PySem.Spec PyProof.V PySem.SeqAt
set_option maxRecDepth 100000
set_option linter.unusedVariables false
namespace Mine
variable {g : Gd} {l : Nat} {nm : Nms}

theorem SI.frz {env : Env} {Pr : List Addr} {r : Rho} {O : List Addr} {d : Dk} {h : Heap} (S : SI g env Pr r O d h) (x : N) : ∃ O', SI g env Pr (frz r x) O' d h ∧ ∀ a ∈ O', a ∈ O := by
  unfold Mine.frz
  split
  · rename_i xs hr
    obtain ⟨ow, H⟩ := S.ow
    obtain ⟨h1, h2, h3, ⟨vs, hp, hl, rs⟩, h5, h6, h7⟩ := H x _ hr
    generalize hax : ow x = a at *
    have mem : ∀ b, b ∈ O.filter (fun b => decide (b ≠ a)) ↔ b ∈ O ∧ b ≠ a := fun b => by simp
    have tr : ∀ b o, b ∉ O → h.get? b = some o → h.get? b = some o ∧ b ∉ O.filter (fun b => decide (b ≠ a)) := fun b o hb e => ⟨e, fun q => hb ((mem b).mp q).1⟩
    have H' : ∀ y t', upd r x (.val (.list xs)) y = some (.own t') → VarAt env h y.str (.ref (ow y)) ∧ ow y ∈ O.filter (fun b => decide (b ≠ a)) ∧ ow y ≠ g.D ∧ OwnRep g h (O.filter (fun b => decide (b ≠ a))) t' (ow y) ∧ ow y ∉ Pr ∧ ¬ Slot env (ow y) ∧
        ∀ z u, upd r x (.val (.list xs)) z = some (.own u) → ow z = ow y → z = y := fun y t' e => by
      by_cases q : y = x
      · subst q; rw [upd_same] at e; cases e
      · rw [upd_ne _ _ q] at e
        obtain ⟨g1, g2, g3, g4, g5, g6, g7⟩ := H y t' e
        refine ⟨g1, (mem _).mpr ⟨g2, fun q' => q (h7 y _ e q')⟩, g3, g4.conv (fun o e => e) tr, g5, g6, fun z u e' e2 => ?_⟩
        by_cases q : z = x
        · subst q; rw [upd_same] at e'; cases e'
        · rw [upd_ne _ _ q] at e'; exact g7 z u e' e2
    refine ⟨O.filter (fun b => decide (b ≠ a)), ⟨⟨S.inv.fr, S.inv.base, S.inv.baseD, S.inv.baseL, S.inv.deck.conv (fun o e => e) tr, (mem _).mpr ⟨S.inv.dO, Ne.symm h3⟩, fun b hb => S.inv.pres b ((mem _).mp hb).1, fun b hb => ⟨(mem _).mpr ⟨(S.inv.slot b hb).1, by rintro rfl; exact h6 hb⟩, (S.inv.slot b hb).2⟩, fun y t' e => ?_, fun y t' e => ?_, fun b hb => S.inv.ob b ((mem _).mp hb).1⟩, fun b hb => ⟨(mem _).mpr ⟨(S.pr b hb).1, by rintro rfl; exact h5 hb⟩, (S.pr b hb).2⟩, ow, H'⟩, fun b hb => ((mem _).mp hb).1⟩
    · by_cases q : y = x
      · subst q; rw [upd_same] at e; cases e
        exact ⟨_, h1, rep_list.mpr ⟨a, vs, rfl, fun q => ((mem _).mp q).2 rfl, hp, hl, rs.conv tr⟩⟩
      · rw [upd_ne _ _ q] at e
        obtain ⟨w, hw, rw'⟩ := S.inv.vals y t' e
        exact ⟨w, hw, rw'.conv tr⟩
    · obtain ⟨h1, h2, h3, h4, _⟩ := H' y t' e
      exact ⟨_, h1, h2, h3, h4⟩
  · exact ⟨O, S, fun a h => h⟩
theorem s_frz {m : Env → Sem Flow} {f : SX} (x : N) (hm : SemM g l nm m f) : SemM g l nm m (sFrz x f) := by
  intro env Pr r r' O d d' fl A s Q E F hA S e k
  obtain ⟨O', S', hO⟩ := S.frz x
  refine hm env Pr _ r' O' d d' fl A s Q E F hA S' e fun fv h2 tk2 O2 hf2 S2 kp2 gr2 => k fv h2 tk2 O2 hf2 S2 (fun b o q e => kp2 b o (q.imp (fun q q' => q (hO b q')) id) e) fun a ha => (gr2 a ha).imp (hO a) id

/-! x = [.. for ..] -/
theorem s_acomp {x y : N} {n : PySem.Str} {np px pos spos : Pos} {elt iter : Expr} {ifs : List Expr} {sc : Scope} {fv : List N} {felt fit : X} {cnd : B} (e : n = y.str) (hy : lcOK nm y = true)
    (c : compOK nm sc x fv = true) (hit : SemE g l nm iter fit) (hif : SemIf g l sc.names ifs cnd) (helt : SemE g l sc.names elt felt) (hs : ∀ env x, foldedSetIterable iter env x = pure x) :
    SemS g l nm (.Assign [.Name n np] (.ListComp elt [⟨.Name x.str px, iter, ifs, 0⟩] sc pos) spos) (sAsg y (xComp fv felt x fit cnd)) := by
  subst e
  intro env Pr r r' O d d' fl A s Q E F hA S e k
  have sw : ∃ b, swapsWith (.ListComp elt [⟨.Name x.str px, iter, ifs, 0⟩] sc pos) (some (.Name y.str np)) spos.line env = pure b := ⟨_, rfl⟩
  obtain ⟨b, sw⟩ := sw
  unfold sAsg at e
  split at e
  · rename_i t d1 e1
    cases e
    cases b with
    | false =>
      refine wpAny_Assign_Name (e_comp c hit hif helt hs env r O d d' t A s _ E F hA S.inv e1 fun v h1 tk rv k1 dk1 => ?_) sw
      refine store_val F hy (S.keep k1 dk1) rv fun h2 tk2 c cO sc kk S2 => ?_
      exact k _ h2 tk2 O rfl S2 (asg_post S k1 cO sc kk) Grow.refl
    | true =>
      rw [exec_Assign_Name_used _ _ _ _ sw]
      refine wpAny_bind (wpAny_standAt (wpAny_bind ?_))
      show wpAny _ A (do let _ ← comprehension (.ListComp elt [⟨.Name x.str px, iter, ifs, 0⟩] sc pos) sc env _ (newList []) false (eval iter env) (some (assign (.Name y.str np) env))) _ _ s
      refine wpAny_bind (wpAny_mono (comp_sem (use := some (assign (.Name y.str np) env)) (Q := fun _ s' => Q .next s') F (compF_of c) hit hif helt hA S.inv (hs env) e1 ?_) (fun _ s' hq => wpAny_pure (wpAny_pure hq)) fun _ _ e => e)
      intro acc C h' tk facc fC hne hn hpl rt kk dk
      obtain ⟨m, hn⟩ := hn
      have pC : ∃ o, h'.get? C = some o := by obtain ⟨o, _, _, ho, _⟩ := hn; exact ⟨o, ho⟩
      have S1 := S.ext kk dk fC pC
      have nC : ∀ b o, s.heap.get? b = some o → b ≠ C := fun b o e => by rintro rfl; rw [fC] at e; cases e
      show wpAny _ A (assign (.Name y.str np) env (.ref acc)) _ _ _
      refine wpAny_assign_Name (store_val F hy S1 rt fun h2 tk2 c cO sc kk2 S2 => ?_)
      have cC : c ≠ C := by rintro rfl; exact (S1.pr c (by simp)).2.2 sc
      refine ⟨m, hn.at' fun o ho => kk2 _ o (Ne.symm cC) ho, fun h3 hs3 => ?_⟩
      have k3 : ∀ b o, b ≠ C → h2.get? b = some o → h3.get? b = some o := fun b o hb e => hs3.extBut b o hb e
      have CO : C ∉ O := fun q => by obtain ⟨o, ho⟩ := S.inv.pres _ q; exact nC _ _ ho rfl
      have S3 := S2.drop CO (fun a ha => (S.pr a ha).1) k3
      refine k _ h3 tk2 O rfl S3 ?_ Grow.refl
      intro b o q e
      exact k3 b o (nC b o e) (asg_post S kk (S.inv.slot c sc).1 sc kk2 b o q e)
  · cases e

/-! x = [..], the name's own -/
theorem s_own {x : N} {n : PySem.Str} {np pos p2 : Pos} {es : List Expr} {fs : List X} (e : n = x.str) (hx : lcOK nm x = true) (h : SemEs g l nm es fs) (hl : es.length ≤ 100) :
    SemS g l nm (.Assign [.Name n np] (.List es p2) pos) (sOwn x fs) := by
  subst e
  intro env Pr r r' O d d' fl A s Q E F hA S e k
  unfold sOwn at e
  split at e
  · rename_i as d1 e1
    cases e
    refine wpAny_Assign_Name ?_
    refine wpAny_List_spliced (args_sem h env r O d d' as A s p2 _ E F hA S.inv e1 fun vs h' tk rs k1 dk1 => ?_)
    have I1 := S.inv.keep' k1 dk1
    have hz : vs.length ≤ 100 := by rw [rs.length, xs_len e1, h.len]; exact hl
    have kp : ∀ c o, h'.get? c = some o → (h'.push { cls := .type "list", data := .seq vs.toArray }).get? c = some o := fun c o e => Heap.get?_push_of_some _ e
    refine ⟨Nat.le_trans hz (by decide), ?_⟩
    have fr : h'.get? h'.objs.size = none := by
      cases e : h'.get? h'.objs.size with
      | none => rfl
      | some o => exact absurd (Heap.lt_size e) (Nat.lt_irrefl _)
    have ne : ∀ b o, h'.get? b = some o → b ≠ h'.objs.size := fun b o e => by rintro rfl; rw [fr] at e; cases e
    have tr : ∀ b o, b ∉ O → h'.get? b = some o → (h'.push { cls := .type "list", data := .seq vs.toArray }).get? b = some o ∧ b ∉ h'.objs.size :: O := fun b o hb e => ⟨kp b o e, by simp only [List.mem_cons, not_or]; exact ⟨ne b o e, hb⟩⟩
    have S1 := S.keep k1 dk1
    have S2 := S1.ext (Keep.of kp) (dk1.conv (fun o e => kp _ o e) tr) fr ⟨_, Heap.get?_push_size _ rfl⟩
    have fs : s.heap.get? h'.objs.size = none := by
      cases e : s.heap.get? h'.objs.size with
      | none => rfl
      | some o =>
        by_cases q : h'.objs.size = g.D
        · obtain ⟨o', ho'⟩ := dk1.ex; exact absurd rfl (q ▸ ne _ _ ho')
        · rw [k1 _ o q e] at fr; cases fr
    have nP : h'.objs.size ∉ Pr := fun q => by obtain ⟨o, ho⟩ := S1.inv.pres _ (S1.pr _ q).1; exact ne _ _ ho rfl
    refine store_own F hx S2 nP (t := .list as) ⟨vs, ⟨0, Heap.get?_push_size _ rfl⟩, Nat.le_trans hz (by decide), rs.conv tr⟩ fun h2 tk2 c cO sc kk S3 => ?_
    refine k _ h2 tk2 _ rfl S3 (fun b o q e => ?_) fun a ha => ?_
    · exact asg_post S (k1.trans (Keep.of kp)) (S.inv.slot c sc).1 sc kk b o q e
    · simp only [List.mem_cons] at ha
      rcases ha with rfl | ha
      · exact .inr fs
      · exact .inl ha
  · cases e
end Mine
end

section
open PySem PySem.W PyProof.Rows PySem.Calls PySem.Spec PyProof.V PySem.SeqAt
set_option maxRecDepth 100000
set_option linter.unusedVariables false
namespace Mine
variable {g : Gd} {l : Nat} {nm : Nms}

theorem SI.own_of {env : Env} {Pr : List Addr} {r : Rho} {O : List Addr} {d : Dk} {h : Heap} (S : SI g env Pr r O d h) {x : N} {t : T} (hr : r x = some (.own t)) :
    ∃ a, VarAt env h x.str (.ref a) ∧ a ∈ O ∧ a ≠ g.D ∧ a ∉ Pr ∧ ¬ Slot env a ∧ ∀ h1 d1, Keep g h h1 → DeckAt g h1 O d1 → OwnRep g h1 O t a ∧
      ∀ h' t', (∀ b o, b ≠ a → h1.get? b = some o → h'.get? b = some o) → OwnRep g h' O t' a → SI g env Pr (upd r x (.own t')) O d1 h' := by
  obtain ⟨ow, H⟩ := S.ow
  obtain ⟨h1, h2, h3, h4, h5, h6, h7⟩ := H x t hr
  refine ⟨ow x, h1, h2, h3, h5, h6, fun H1 d1 k dk => ?_⟩
  have S1 := S.keep k dk
  refine ⟨h4.conv (fun o e => k _ o h3 e) (fun b o hb e => ⟨k b o (fun q => hb (q ▸ S.inv.dO)) e, hb⟩), fun h' t' kk rv => ?_⟩
  have tr : ∀ b o, b ∉ O → H1.get? b = some o → h'.get? b = some o ∧ b ∉ O := fun b o hb e => ⟨kk b o (by rintro rfl; exact hb h2) e, hb⟩
  have ks0 : ∀ a, Slot env a → ∀ o, h.get? a = some o → H1.get? a = some o := fun a s o e => k a o (S.inv.slot a s).2 e
  have ks : ∀ a, Slot env a → ∀ o, H1.get? a = some o → h'.get? a = some o := fun a s o e => kk a o (by rintro rfl; exact h6 s) e
  have H' : ∀ y t2, upd r x (.own t') y = some (.own t2) → VarAt env h' y.str (.ref (ow y)) ∧ ow y ∈ O ∧ ow y ≠ g.D ∧ OwnRep g h' O t2 (ow y) ∧ ow y ∉ Pr ∧ ¬ Slot env (ow y) ∧ ∀ z u, upd r x (.own t') z = some (.own u) → ow z = ow y → z = y := fun y t2 e => by
    by_cases q : y = x
    · subst q; rw [upd_same] at e; cases e
      refine ⟨(h1.keep ks0).keep ks, h2, h3, rv, h5, h6, fun z u e' e2 => ?_⟩
      by_cases q : z = y
      · exact q
      · rw [upd_ne _ _ q] at e'; exact h7 z u e' e2
    · rw [upd_ne _ _ q] at e
      obtain ⟨g1, g2, g3, g4, g5, g6, g7⟩ := H y t2 e
      have na : ow y ≠ ow x := fun q' => q (h7 y t2 e q')
      refine ⟨(g1.keep ks0).keep ks, g2, g3, (g4.conv (fun o e => k _ o g3 e) (fun b o hb e => ⟨k b o (fun q => hb (q ▸ S.inv.dO)) e, hb⟩)).conv (fun o e => kk _ o na e) tr, g5, g6, fun z u e' e2 => ?_⟩
      by_cases q2 : z = x
      · subst q2; exact absurd e2.symm na
      · rw [upd_ne _ _ q2] at e'; exact g7 z u e' e2
  refine ⟨⟨S1.inv.fr.keep ks, fun b o e => kk b o (by rintro rfl; rw [S.inv.ob _ h2] at e; cases e) (S1.inv.base b o e), S.inv.baseD, S.inv.baseL, dk.conv (fun o e => kk _ o (Ne.symm h3) e) tr, S.inv.dO, fun a ha => ?_, S.inv.slot, fun y t2 e => ?_, fun y t2 e => ?_, S.inv.ob⟩, S.pr, ow, H'⟩
  · by_cases q : a = ow x
    · rw [q]; exact rv.ex
    · obtain ⟨o, ho⟩ := S1.inv.pres a ha; exact ⟨o, kk a o q ho⟩
  · by_cases q : y = x
    · subst q; rw [upd_same] at e; cases e
    · rw [upd_ne _ _ q] at e
      obtain ⟨w, hw, rw'⟩ := S1.inv.vals y t2 e
      exact ⟨w, hw.keep ks, rw'.conv tr⟩
  · obtain ⟨g1, g2, g3, g4, _⟩ := H' y t2 e
    exact ⟨_, g1, g2, g3, g4⟩

theorem own_kp {env : Env} {Pr : List Addr} {r : Rho} {O : List Addr} {d : Dk} {h h1 h2 : Heap} {a : Addr} (S : SI g env Pr r O d h) (k1 : Keep g h h1) (aO : a ∈ O) (aP : a ∉ Pr) (kk : ∀ b o, b ≠ a → h1.get? b = some o → h2.get? b = some o) : Kp Pr O h h2 := fun b o q e => by
  refine kk b o ?_ (S.kp k1 b o q e)
  rintro rfl
  rcases q with q | q
  · exact q aO
  · exact aP q
theorem interactive_fn {env : Env} (F : EnvF nm env) : interactive env = false := by
  unfold interactive; rw [F.kind]; rfl

/-- x.append(e) -/
theorem s_app {x : N} {n : PySem.Str} {np apos pos spos : Pos} {elt : Expr} {f : X} (e : n = x.str) (hn : NS elt) (he : SemE g l nm elt f) (hline : (apos.endLine == pos.line) = true) :
    SemS g l nm (.Expr (.Call (.Attribute (.Name n np) "append" apos) [elt] [] pos) spos) (sApp x f) := by
  subst e
  intro env Pr r r' O d d' fl A s Q E F hA S e k
  unfold sApp at e
  split at e
  · rename_i t d1 e1
    split at e
    · rename_i xs hr
      split at e
      · rename_i hl
        cases e
        obtain ⟨a, V, aO, aD, aP, aS, H⟩ := S.own_of hr
        refine wpAny_Expr ?_ (interactive_fn F) rfl
        refine wpAny_Call_append rfl (by rw [hn]; rfl) hline (by rw [hn]; rfl) (load_var F V (nodebug x) ?_)
        obtain ⟨⟨vs0, ⟨n0, hp0⟩, _⟩, _⟩ := H s.heap d Keep.refl S.inv.deck
        refine ⟨a, vs0.toArray, rfl, ⟨_, n0, hp0, rfl, rfl, rfl⟩, ?_⟩
        refine he env r O d d' t A s _ E F hA S.inv e1 fun v h1 tk rv k1 dk1 => ?_
        obtain ⟨⟨vs, hp, hvl, rs⟩, Hm⟩ := H h1 d' k1 dk1
        have hz := rs.length
        refine wpAny_list_append_plain (hsz := by rw [List.size_toArray]; exact Nat.le_trans hvl szL_line) hp fun h2 hp2 hs2 => ?_
        have tr : ∀ b o, b ∉ O → h1.get? b = some o → h2.get? b = some o ∧ b ∉ O := fun b o hb e => ⟨hs2.extBut b o (by rintro rfl; exact hb aO) e, hb⟩
        refine k .next h2 tk O rfl (Hm h2 _ (fun b o hb e => hs2.extBut b o hb e) ⟨vs ++ [v], by simpa using hp2, by simp; omega, (rs.append (.cons rv .nil)).conv tr⟩) ?_ Grow.refl
        exact own_kp S k1 aO aP fun b o hb e => hs2.extBut b o hb e
      · cases e
    · cases e
  · cases e

/-- x.extend(e) -/
theorem s_ext {x : N} {n : PySem.Str} {np apos pos spos : Pos} {elt : Expr} {f : X} (e : n = x.str) (hn : NS elt) (he : SemE g l nm elt f) (hline : (apos.endLine == pos.line) = true) :
    SemS g l nm (.Expr (.Call (.Attribute (.Name n np) "extend" apos) [elt] [] pos) spos) (sExt x f) := by
  subst e
  intro env Pr r r' O d d' fl A s Q E F hA S e k
  unfold sExt at e
  split at e
  · rename_i m d1 e1
    split at e
    · rename_i xl hr
      split at e
      · rename_i hl
        cases e
        obtain ⟨a, V, aO, aD, aP, aS, H⟩ := S.own_of hr
        refine wpAny_Expr ?_ (interactive_fn F) rfl
        have hes : SemEs g l nm [elt] [f] := .cons hn he .nil
        refine wpAny_Call_method rfl (by rw [hn]; rfl) hline PySem.F.plainAttrs_list PySem.F.slot_list_extend PySem.F.type_list_extend (load_var F V (nodebug x) ?_)
        obtain ⟨⟨vs0, ⟨n0, hp0⟩, _⟩, _⟩ := H s.heap d Keep.refl S.inv.deck
        refine ⟨⟨_, hp0, rfl⟩, fun a' e => by cases e; exact ⟨_, hp0, rfl⟩, ?_⟩
        refine callWith_sem hes kept_bi env r O d d' [.list m] A s pos _ E F hA S.inv (by unfold xs; simp [e1, xs]) fun us h1 tk rus k1 dk1 => ?_
        unfold Reps at rus
        obtain ⟨v, ws, rfl, rv, rws⟩ := rus
        unfold Reps at rws
        subst rws
        obtain ⟨b, vs2, rfl, hbO, ⟨n2, hp2⟩, hl2, rs2⟩ := rep_list.mp rv
        obtain ⟨⟨vs, ⟨n1, hp⟩, hvl, rs⟩, Hm⟩ := H h1 d' k1 dk1
        have hz := rs.length
        have hz2 := rs2.length
        have q1 : szL = 1048576 := rfl
        have q2 : 1048576 ≤ sizeLine := szL_line
        refine call_meets PySem.F.slot_list_extend ⟨_, hp, rfl⟩ PySem.F.entry_list_extend (PySem.F.args_list_extend_2 _ _) (PySem.AutoSeq1.list_extend_list_list_0 a vs.toArray n1 b vs2.toArray n2 (extend_door (by simp; omega)) (by simp; omega) (by simp; omega)) ⟨hp, hp2, ?_⟩
        have hs2 : Heap.SameBut a h1 (h1.update a (Obj.mapSeq fun x => x ++ vs2.toArray)) := Heap.SameBut.update ..
        have hp3 : (h1.update a (Obj.mapSeq fun x => x ++ vs2.toArray)).PlainList a (vs ++ vs2).toArray := ⟨_, by have q := PySem.IsL.update hp (fun x => x ++ vs2.toArray); simpa using q⟩
        have tr : ∀ b o, b ∉ O → h1.get? b = some o → (h1.update a (Obj.mapSeq fun x => x ++ vs2.toArray)).get? b = some o ∧ b ∉ O := fun b o hb e => ⟨hs2.extBut b o (by rintro rfl; exact hb aO) e, hb⟩
        refine k .next _ _ O rfl (Hm _ _ (fun b o hb e => hs2.extBut b o hb e) ⟨vs ++ vs2, hp3, by simp; omega, (rs.append rs2).conv tr⟩) ?_ Grow.refl
        exact own_kp S k1 aO aP fun b o hb e => hs2.extBut b o hb e
      · cases e
    · cases e
  · cases e

/-- x[-1] = e -/
theorem s_setlast {x : N} {n : PySem.Str} {np spos pos : Pos} {a i : Expr} {f : X} (e : n = x.str) (ha : SemE g l nm a f) (hi : SemE g l nm i (x1 tNeg (xC (.int 1)))) (hs : ∀ env, swapsWith a (some (.Subscript (.Name n np) i spos)) pos.line env = pure false) :
    SemS g l nm (.Assign [.Subscript (.Name n np) i spos] a pos) (sSetLast x f) := by
  subst e
  intro env Pr r r' O d d' fl A s Q E F hA S e k
  unfold sSetLast at e
  split at e
  · rename_i t d1 e1
    split at e
    · rename_i xs hr
      split at e
      · cases e
      · rename_i y ys
        cases e
        refine wpAny_Assign_Subscript (ha env r O d d' t A s _ E F hA S.inv e1 fun v h1 tk rv k1 dk1 => ?_) (hs env)
        have S1 := S.keep k1 dk1
        obtain ⟨a, V, aO, aD, aP, aS, H⟩ := S1.own_of hr
        refine load_var F V (nodebug x) ?_
        refine hi env r O d' d' (.int (-1)) A _ _ E F hA S1.inv rfl fun iv h2 tk2 ri k2 dk2 => ?_
        obtain ⟨ti, rfl⟩ := rep_int.mp ri
        obtain ⟨⟨vs, ⟨n1, hp⟩, hvl, rs⟩, Hm⟩ := H h2 d' k2 dk2
        have hz := rs.length
        simp only [List.length_cons] at hz
        refine ki_setBack hp (by decide) (by simp; omega) (by decide) ?_
        have hs2 : Heap.SameBut a h2 (h2.update a (Obj.mapSeq (·.setIfInBounds ((-1 : Int) + vs.toArray.size).toNat v))) := Heap.SameBut.update ..
        have hp3 : (h2.update a (Obj.mapSeq (·.setIfInBounds ((-1 : Int) + vs.toArray.size).toNat v))).PlainList a (vs.dropLast ++ [v]).toArray := ⟨_, by
          have q := PySem.IsL.update hp (fun x => x.setIfInBounds ((-1 : Int) + vs.toArray.size).toNat v)
          have e : vs.toArray.setIfInBounds ((-1 : Int) + vs.toArray.size).toNat v = (vs.dropLast ++ [v]).toArray := by
            have hne : vs ≠ [] := by rintro rfl; simp at hz
            have : vs = vs.dropLast ++ [vs.getLast hne] := (List.dropLast_concat_getLast hne).symm
            have hi : ((-1 : Int) + vs.toArray.size).toNat = vs.dropLast.length := by simp; omega
            rw [hi]
            apply Array.toList_inj.mp
            simp only [Array.toList_setIfInBounds]
            conv => lhs; rw [this]
            simp
          rw [e] at q
          exact q⟩
        have tr : ∀ b o, b ∉ O → h2.get? b = some o → (h2.update a (Obj.mapSeq (·.setIfInBounds ((-1 : Int) + vs.toArray.size).toNat v))).get? b = some o ∧ b ∉ O := fun b o hb e => ⟨hs2.extBut b o (by rintro rfl; exact hb aO) e, hb⟩
        have rsl : Reps g h2 O ((y :: ys).dropLast ++ [t]) (vs.dropLast ++ [v]) := by
          refine Reps.append ?_ (.cons (rv.keep S.inv.dO k2) .nil)
          have hne : vs ≠ [] := by rintro rfl; simp at hz
          have e1 : y :: ys = (y :: ys).dropLast ++ [(y :: ys).getLast (by simp)] := (List.dropLast_concat_getLast _).symm
          rw [e1] at rs
          obtain ⟨v1, v2, ev, r1, r2⟩ := rs.split
          have l2 := r2.length
          have : vs.dropLast = v1 := by
            rw [ev]
            match v2, l2 with
            | [z], _ => simp
          rw [this]; exact r1
        refine k .next _ _ O rfl (Hm _ _ (fun b o hb e => hs2.extBut b o hb e) ⟨vs.dropLast ++ [v], hp3, by simp; omega, rsl.conv tr⟩) ?_ Grow.refl
        exact own_kp S (k1.trans k2) aO aP fun b o hb e => hs2.extBut b o hb e
    · cases e
  · cases e

/-- x[k] = True -/
theorem s_setkey {x : N} {n : PySem.Str} {np spos pos cp : Pos} {z} {i : Expr} {f : X} (e : n = x.str) (hi : SemE g l nm i f) (hs : ∀ env, swapsWith (.Constant (.bool true) z cp) (some (.Subscript (.Name n np) i spos)) pos.line env = pure false) :
    SemS g l nm (.Assign [.Subscript (.Name n np) i spos] (.Constant (.bool true) z cp) pos) (sSetKey x f) := by
  subst e
  intro env Pr r r' O d d' fl A s Q E F hA S e k
  unfold sSetKey at e
  split at e
  · rename_i kk d1 e1
    split at e
    · rename_i ks hr
      split at e
      · rename_i hl
        cases e
        refine wpAny_Assign_Subscript (wpAny_Constant_bool ?_) (hs env)
        obtain ⟨a, V, aO, aD, aP, aS, H⟩ := S.own_of hr
        refine load_var F V (nodebug x) ?_
        refine hi env r O d d' (.int kk) A _ _ E F hA S.inv e1 fun iv h2 tk2 ri k2 dk2 => ?_
        obtain ⟨ti, rfl⟩ := rep_int.mp ri
        obtain ⟨⟨fm, hm, hz, hk⟩, Hm⟩ := H h2 d' k2 dk2
        refine wpAny_setItem_intMap_le hm hz (Nat.le_trans (Nat.le_of_lt hl.1) (by decide)) fun h3 hm3 hz3 hs3 => ?_
        refine k .next _ _ O rfl (Hm _ _ (fun b o hb e => hs3.extBut b o hb e) ⟨_, hm3, by simpa using hz3, fun k' => ?_⟩) ?_ Grow.refl
        · by_cases q : k' = kk
          · subst q; simp
          · have := hk k'
            simp [q, this]
        · exact own_kp S k2 aO aP fun b o hb e => hs3.extBut b o hb e
      · cases e
    · cases e
  · cases e

/-- deck[1] = e -/
theorem s_deck1 {x : N} {n : PySem.Str} {np spos pos cp : Pos} {z} {a : Expr} {f : X} (e : n = x.str) (ha : SemE g l nm a f) (hs : ∀ env, swapsWith a (some (.Subscript (.Name n np) (.Constant (.int 1) z cp) spos)) pos.line env = pure false) :
    SemS g l nm (.Assign [.Subscript (.Name n np) (.Constant (.int 1) z cp) spos] a pos) (sDeck1 x f) := by
  subst e
  intro env Pr r r' O d d' fl A s Q E F hA S e k
  unfold sDeck1 at e
  split at e
  · rename_i i d1 e1
    split at e
    · rename_i hr
      cases e
      refine wpAny_Assign_Subscript (ha env r O d d1 (.int i) A s _ E F hA S.inv e1 fun v h1 tk rv k1 dk1 => ?_) (hs env)
      have S1 := S.keep k1 dk1
      obtain ⟨w, V, rw'⟩ := S1.inv.vals x _ hr
      unfold Rep at rw'
      subst rw'
      obtain ⟨ti, rfl⟩ := rep_int.mp rv
      refine load_var F V (nodebug x) (wpAny_Constant_int ?_)
      obtain ⟨C, tk0, vs, ⟨n1, hp⟩, hC, ⟨n2, hp2⟩, hl, rs⟩ := dk1
      refine ki_setAt hp (by decide) (by decide) (by simp) ?_
      have hs2 : Heap.SameBut g.D h1 (h1.update g.D (Obj.mapSeq (·.setIfInBounds (1 : Int).toNat (.int i ti)))) := Heap.SameBut.update ..
      have CD : C ≠ g.D := fun q => hC (q ▸ S.inv.dO)
      have kk : Keep g h1 (h1.update g.D (Obj.mapSeq (·.setIfInBounds (1 : Int).toNat (.int i ti)))) := fun b o hb e => hs2.extBut b o hb e
      have dk2 : DeckAt g (h1.update g.D (Obj.mapSeq (·.setIfInBounds (1 : Int).toNat (.int i ti)))) O { d1 with n := i } :=
        ⟨C, ti, vs, ⟨_, PySem.IsL.update hp (fun x => x.setIfInBounds (1 : Int).toNat (.int i ti))⟩, hC, ⟨n2, kk _ _ CD hp2⟩, hl, rs.keep S.inv.dO kk⟩
      exact k .next _ _ O rfl (S.keep (k1.trans kk) dk2) (S.kp (k1.trans kk)) Grow.refl
    · cases e
  · cases e
end Mine
end

section
open PySem PySem.W PyProof.Rows PySem.Calls PySem.Spec PyProof.V PySem.SeqAt
set_option maxRecDepth 100000
set_option linter.unusedVariables false
namespace Mine
variable {g : Gd} {l : Nat} {nm : Nms}

theorem s_while {c : Expr} {body : List Stmt} {pos : Pos} {fc : B} {fa : SX} (hc : SemB g l nm c fc) (hb : SemSs g l nm body fa) : SemS g l nm (.While c body [] pos) (sWhile fc fa) := by
  intro env Pr r r' O d d' fl A s Q E F hA S e k
  refine wpAny_While ?_
  refine codeAny_whileLoop (fun n s' => ∃ r1 d1 O1 h tk, s' = { s with heap := h, toks := tk } ∧ SI g env Pr r1 O1 d1 h ∧ Kp Pr O s.heap h ∧ Grow s.heap O O1 ∧ whGo fc fa n r1 d1 = some (fl, r', d')) ?_ 100 ⟨r, d, O, s.heap, s.toks, rfl, S, Kp.refl, Grow.refl, e⟩
  rintro n s' ⟨r1, d1, O1, h, tk, rfl, S1, kp1, gr1, e1⟩
  cases n with
  | zero => cases e1
  | succ n =>
    unfold whGo at e1
    split at e1
    · rename_i d2 e2
      refine hc env r1 O1 d1 d2 true A _ _ _ F hA S1.inv e2 fun h2 tk2 k2 dk2 => ?_
      rw [if_pos rfl]
      have S2 := S1.keep k2 dk2
      have kp2 : Kp Pr O s.heap h2 := kp1.trans gr1 (S1.kp k2)
      have gr2 : Grow s.heap O O1 := gr1
      split at e1
      · rename_i r3 d3 e3
        refine hb env Pr r1 r3 O1 d2 d3 .next A _ _ _ F hA S2 e3 fun fv h3 tk3 O3 hf S3 kp3 gr3 => ?_
        have hf' : fv = .next := hf
        subst hf'
        exact ⟨n, Nat.lt_succ_self n, r3, d3, O3, h3, tk3, rfl, S3, kp2.trans gr2 kp3, gr2.trans kp2 gr3, e1⟩
      · rename_i r3 d3 e3
        refine hb env Pr r1 r3 O1 d2 d3 .cont A _ _ _ F hA S2 e3 fun fv h3 tk3 O3 hf S3 kp3 gr3 => ?_
        have hf' : fv = .cont := hf
        subst hf'
        exact ⟨n, Nat.lt_succ_self n, r3, d3, O3, h3, tk3, rfl, S3, kp2.trans gr2 kp3, gr2.trans kp2 gr3, e1⟩
      · rename_i t r3 d3 e3
        cases e1
        refine hb env Pr r1 r' O1 d2 d' (.ret t) A _ _ _ F hA S2 e3 fun fv h3 tk3 O3 hf S3 kp3 gr3 => ?_
        obtain ⟨v, rfl, rv⟩ := hf
        exact k _ h3 tk3 O3 ⟨v, rfl, rv⟩ S3 (kp2.trans gr2 kp3) (gr2.trans kp2 gr3)
      · cases e1
    · rename_i d2 e2
      cases e1
      refine hc env r' O1 d1 d' false A _ _ _ F hA S1.inv e2 fun h2 tk2 k2 dk2 => ?_
      rw [if_neg (by decide)]
      exact wpAny_execs_nil (k .next h2 tk2 O1 rfl (S1.keep k2 dk2) (kp1.trans gr1 (S1.kp k2)) gr1)
    · cases e1

theorem s_for {x : N} {n : PySem.Str} {np pos : Pos} {iter : Expr} {body : List Stmt} {fit : X} {fb : SX} (e : n = x.str) (hx : lcOK nm x = true) (hit : SemE g l nm iter fit) (hb : SemSs g l nm body fb)
    (hs : ∀ env y, foldedSetIterable iter env y = pure y) : SemS g l nm (.For (.Name n np) iter body [] pos) (sFor x fit fb) := by
  subst e
  intro env Pr r r' O d d' fl A s Q E F hA S e k
  unfold sFor at e
  split at e
  · rename_i a d1 e1
    split at e
    · rename_i items ei
      split at e
      · rename_i hl
        refine wpAny_For ?_ (hs env)
        refine hit env r O d d1 a A s _ E F hA S.inv e1 fun v h1 tk1 rv k1 dk1 => ?_
        have S1 := S.keep k1 dk1
        refine src_iter S1.inv.pres rv ei hl fun I h2 tk2 fp P St hI k2 W st hfp pS hP => ?_
        have W := W A hA.1
        have neI : ∀ b o, h1.get? b = some o → b ≠ I := fun b o e => by rintro rfl; rw [hI] at e; cases e
        have IO : I ∉ O := fun q => by obtain ⟨o, ho⟩ := S1.inv.pres _ q; exact neI _ _ ho rfl
        have S2 : SI g env (I :: Pr) r (I :: O) d1 h2 := S1.ext (Keep.of k2) (dk1.conv (fun o e => k2 _ o e) fun b o hb e => ⟨k2 b o e, by simp only [List.mem_cons, not_or]; exact ⟨neI b o e, hb⟩⟩) hI (pS _ _ st)
        have kp1 : Kp Pr O s.heap h1 := S.kp k1
        have up : ∀ b, h1.get? b = none → b ∉ O → s.heap.get? b = none := fun b hb hO => by
          cases e : s.heap.get? b with
          | none => rfl
          | some o => rw [kp1 b o (.inl hO) e] at hb; cases hb
        have fin : ∀ (fv : Flow) (h : Heap) (tk : Nat) (O1 : List Addr), FlRep g h Pr fl fv → SI g env Pr r' O1 d' h → (∀ b o, b ≠ I → (b ∉ O ∨ b ∈ Pr) → h2.get? b = some o → h.get? b = some o) → (∀ b ∈ O1, b ∈ I :: O ∨ h2.get? b = none) →
            Q fv { s with heap := h, toks := tk } := fun fv h tk O1 hf Sf kf gf => by
          refine k fv h tk O1 hf Sf (fun b o q e => ?_) fun b hb => ?_
          · have e2 := kp1 b o q e
            exact kf b o (neI b o e2) q (k2 b o e2)
          · rcases gf b hb with q | q
            · simp only [List.mem_cons] at q
              rcases q with rfl | q
              · exact .inr (up _ hI IO)
              · exact .inl q
            · by_cases hO : b ∈ O
              · exact .inl hO
              · refine .inr (up b ?_ hO)
                cases e : h1.get? b with
                | none => rfl
                | some o => rw [k2 b o e] at q; cases q
        refine codeAny_forLoop (fun n s' => ∃ i h tk r1 d1 O1, s' = { s with heap := h, toks := tk } ∧ n = items.length + 1 - i ∧ i ≤ items.length ∧ St i h ∧ SI g env (I :: Pr) r1 O1 d1 h ∧
          (∀ b o, b ≠ I → (b ∉ O ∨ b ∈ Pr) → h2.get? b = some o → h.get? b = some o) ∧ (∀ b ∈ O1, b ∈ I :: O ∨ h2.get? b = none) ∧ forGo x fb (items.drop i) r1 d1 = some (fl, r', d')) ?_ (items.length + 1)
          ⟨0, h2, tk2, r, d1, I :: O, rfl, by omega, Nat.zero_le _, st, S2, fun b o _ _ e => e, fun b hb => .inl hb, by simpa using e⟩
        rintro n s' ⟨i, h, tk, r1, d2, O1, rfl, rfl, hle, st1, S3, kf, gf, eg⟩
        have I1 : I ∈ O1 := (S3.pr I (by simp)).1
        have nO1 : ∀ b o, b ∉ O → h1.get? b = some o → b ∉ O1 := fun b o hO e q => by
          rcases gf b q with q | q
          · simp only [List.mem_cons] at q
            rcases q with q | q
            · exact neI b o e q
            · exact hO q
          · rw [k2 b o e] at q; cases q
        by_cases hlt : i < items.length
        · have ht : items[i]? = some items[i] := List.getElem?_eq_getElem hlt
          have hdrop : items.drop i = items[i] :: items.drop (i + 1) := List.drop_eq_getElem_cons hlt
          rw [hdrop] at eg
          refine W.item i _ _ _ hlt st1 fun z h3 tk3 hz st3 k3 => ?_
          have k3 : ∀ b o, b ≠ I → h.get? b = some o → h3.get? b = some o := fun b o hb e => k3 b o (by simpa using hb) e
          have S4 := S3.mod (by simp) k3 (pS _ _ st3)
          have kf3 : ∀ b o, b ≠ I → (b ∉ O ∨ b ∈ Pr) → h2.get? b = some o → h3.get? b = some o := fun b o n q e => k3 b o n (kf b o n q e)
          have rz : Rep g h3 O1 items[i] z := (hP i z _ ht hz).conv fun b o hb e => ⟨kf3 b o (neI b o e) (.inl hb) (k2 b o e), nO1 b o hb e⟩
          refine wpAny_assign_Name (store_val F hx S4 rz fun h4 tk4 c cO sc kk S5 => ?_)
          have cI : c ≠ I := by rintro rfl; exact (S3.pr c (by simp)).2.2 sc
          have kf4 : ∀ b o, b ≠ I → (b ∉ O ∨ b ∈ Pr) → h2.get? b = some o → h4.get? b = some o := fun b o n q e => kk b o (by
            rintro rfl
            rcases q with q | q
            · rcases gf _ cO with q' | q'
              · simp only [List.mem_cons] at q'
                exact q'.elim n q
              · rw [e] at q'; cases q'
            · exact (S3.pr _ (by simp [q])).2.2 sc) (kf3 b o n q e)
          have nc : ∀ b o, b ∉ O → h1.get? b = some o → b ≠ c := fun b o hO e q => nO1 b o hO e (q ▸ cO)
          have st4 : St (i + 1) h4 := W.frame _ _ _ st3 fun b hb o e => kk b o (by
            rcases hfp b hb with rfl | ⟨hO, o', ho'⟩
            · exact Ne.symm cI
            · exact nc b o' hO ho') e
          have step : ∀ (fv : Flow) (r5 : Rho) (d5 : Dk) (h5 : Heap) (tk5 : Nat) (O5 : List Addr), SI g env (I :: Pr) r5 O5 d5 h5 → Kp (I :: Pr) O1 h4 h5 → Grow h4 O1 O5 →
              St (i + 1) h5 ∧ (∀ b o, b ≠ I → (b ∉ O ∨ b ∈ Pr) → h2.get? b = some o → h5.get? b = some o) ∧ (∀ b ∈ O5, b ∈ I :: O ∨ h2.get? b = none) := fun fv r5 d5 h5 tk5 O5 S6 kp5 gr5 => by
            have nO : ∀ b o, b ≠ I → b ∉ O → h2.get? b = some o → b ∉ O1 := fun b o n hO e q => by
              rcases gf b q with q | q
              · simp only [List.mem_cons] at q; exact q.elim n hO
              · rw [e] at q; cases q
            refine ⟨W.frame _ _ _ st4 fun b hb o e => kp5 b o ?_ e, fun b o n q e => kp5 b o ?_ (kf4 b o n q e), fun b hb => ?_⟩
            · rcases hfp b hb with rfl | ⟨hO, o', ho'⟩
              · exact .inr (by simp)
              · exact .inl (nO1 b o' hO ho')
            · exact q.imp (fun q => nO b o n q e) fun q => by simp [q]
            · rcases gr5 b hb with q | q
              · exact gf b q
              · by_cases hO : b ∈ I :: O
                · exact .inl hO
                · refine .inr ?_
                  simp only [List.mem_cons, not_or] at hO
                  cases e : h2.get? b with
                  | none => rfl
                  | some o => rw [kf4 b o hO.1 (.inl hO.2) e] at q; cases q
          unfold forGo at eg
          split at eg
          · rename_i r5 d5 e5
            refine hb env (I :: Pr) _ r5 O1 d2 d5 .next A _ _ _ F hA S5 e5 fun fv h5 tk5 O5 hf S6 kp5 gr5 => ?_
            have hf' : fv = .next := hf
            subst hf'
            obtain ⟨a1, a2, a3⟩ := step .next r5 d5 h5 tk5 O5 S6 kp5 gr5
            exact ⟨items.length + 1 - (i + 1), by omega, i + 1, h5, tk5, r5, d5, O5, rfl, rfl, hlt, a1, S6, a2, a3, eg⟩
          · rename_i r5 d5 e5
            refine hb env (I :: Pr) _ r5 O1 d2 d5 .cont A _ _ _ F hA S5 e5 fun fv h5 tk5 O5 hf S6 kp5 gr5 => ?_
            have hf' : fv = .cont := hf
            subst hf'
            obtain ⟨a1, a2, a3⟩ := step .cont r5 d5 h5 tk5 O5 S6 kp5 gr5
            exact ⟨items.length + 1 - (i + 1), by omega, i + 1, h5, tk5, r5, d5, O5, rfl, rfl, hlt, a1, S6, a2, a3, eg⟩
          · rename_i t r5 d5 e5
            cases eg
            refine hb env (I :: Pr) _ r' O1 d2 d' (.ret t) A _ _ _ F hA S5 e5 fun fv h5 tk5 O5 hf S6 kp5 gr5 => ?_
            obtain ⟨w, rfl, rw'⟩ := hf
            obtain ⟨a1, a2, a3⟩ := step (.ret w) r' d' h5 tk5 O5 S6 kp5 gr5
            exact fin _ h5 tk5 O5 ⟨w, rfl, rw'.conv fun b o hb e => ⟨e, fun q => hb (by simp only [List.mem_cons] at q ⊢; rcases q with q | q <;> simp [q])⟩⟩ (S6.sub fun a ha => by simp [ha]) a2 a3
          · cases eg
        · have hin : i = items.length := by omega
          subst hin
          rw [List.drop_length] at eg
          cases eg
          refine W.done _ _ _ st1 fun h3 tk3 k3 => ?_
          have k3 : ∀ b o, b ≠ I → h.get? b = some o → h3.get? b = some o := fun b o hb e => k3 b o (by simpa using hb) e
          obtain ⟨O2, hO2, S4⟩ := S3.drop' (fun q => IO (S.pr I q).1) k3
          exact wpAny_execs_nil (fin .next h3 tk3 O2 rfl S4 (fun b o n q e => k3 b o n (kf b o n q e)) fun b hb => gf b (hO2 b hb))
      · cases e
    · cases e
  · cases e
end Mine
end

section
open PySem PySem.W PyProof.Rows PySem.Calls PySem.Spec PyProof.V PySem.SeqAt
set_option maxRecDepth 100000
set_option linter.unusedVariables false
namespace Mine
variable {g : Gd} {l : Nat} {nm : Nms}

theorem tr_of {Pr O O' : List Addr} {h h' : Heap} (k : Kp Pr O h h') (gr : Grow h O O') : ∀ b o, b ∉ O → h.get? b = some o → h'.get? b = some o ∧ b ∉ O' := fun b o hb e => ⟨k b o (.inl hb) e, fun q => by
  rcases gr b q with q | q
  · exact hb q
  · rw [e] at q; cases q⟩

/-- values that wait to be stored -/
inductive Pend (g : Gd) (h : Heap) (O : List Addr) : List Ent → List Value → List Addr → Prop
  | nil : Pend g h O [] [] []
  | val {t v es vs as} : Rep g h O t v → Pend g h O es vs as → Pend g h O (.val t :: es) (v :: vs) as
  | own {t a es vs as} : OwnRep g h O t a → Pend g h O es vs as → Pend g h O (.own t :: es) (.ref a :: vs) (a :: as)
theorem Pend.conv {h h' : Heap} {O O' : List Addr} {es : List Ent} {vs : List Value} {as : List Addr} (P : Pend g h O es vs as) (k : ∀ b o, b ∉ O → h.get? b = some o → h'.get? b = some o ∧ b ∉ O') (ka : ∀ a ∈ as, ∀ o, h.get? a = some o → h'.get? a = some o) :
    Pend g h' O' es vs as := by
  induction P with
  | nil => exact .nil
  | val r _ ih => exact .val (r.conv k) (ih ka)
  | own r _ ih => exact .own (r.conv (ka _ (.head _)) k) (ih fun a ha => ka a (.tail _ ha))
theorem Pend.append {h : Heap} {O : List Addr} {es es' : List Ent} {vs vs' : List Value} {as as' : List Addr} (P : Pend g h O es vs as) (P' : Pend g h O es' vs' as') : Pend g h O (es ++ es') (vs ++ vs') (as ++ as') := by
  induction P with
  | nil => exact P'
  | val r _ ih => exact .val r ih
  | own r _ ih => exact .own r ih
theorem Pend.reverse {h : Heap} {O : List Addr} {es : List Ent} {vs : List Value} {as : List Addr} (P : Pend g h O es vs as) : Pend g h O es.reverse vs.reverse as.reverse := by
  induction P with
  | nil => exact .nil
  | val r _ ih =>
    have := ih.append (.val r .nil)
    rw [List.append_nil] at this
    rw [List.reverse_cons, List.reverse_cons]
    exact this
  | own r _ ih =>
    rw [List.reverse_cons, List.reverse_cons, List.reverse_cons]
    exact ih.append (.own r .nil)
theorem Pend.of {h : Heap} {O : List Addr} : ∀ {ts : List T} {vs : List Value}, Reps g h O ts vs → Pend g h O (ts.map .val) vs []
  | [], vs, r => by unfold Reps at r; subst r; exact .nil
  | t :: ts, vs, r => by unfold Reps at r; obtain ⟨v, ws, rfl, r1, r2⟩ := r; exact .val r1 (Pend.of r2)
theorem upds_val : ∀ {r : Rho} {ns : List N} {ts : List T}, upds r ns (ts.map .val) = updv r ns ts
  | r, [], [] => rfl
  | r, [], _ :: _ => rfl
  | r, _ :: _, [] => rfl
  | r, x :: ns, t :: ts => by show upds (upd r x (.val t)) ns (ts.map .val) = updv (upd r x (.val t)) ns ts; exact upds_val

noncomputable def StoreOf (nm : Nms) (env : Env) (x : N) (m : Value → Sem Unit) : Prop := lcOK nm x = true ∧ ∀ (M : Model) (A : Around) (v : Value) (Q : Unit → Shared → Prop) (E : Value → Shared → Prop) (s : Shared), wpAny M A (storeName env x.str v) Q E s → wpAny M A (m v) Q E s
inductive Stores (nm : Nms) (env : Env) : List N → List (Value → Sem Unit) → Prop
  | nil : Stores nm env [] []
  | cons {x m xs ms} : StoreOf nm env x m → Stores nm env xs ms → Stores nm env (x :: xs) (m :: ms)
theorem store_all {env : Env} {xs : List N} {ms : List (Value → Sem Unit)} (hst : Stores nm env xs ms) : ∀ {es : List Ent} {vs : List Value} {as Pr : List Addr} {r r' : Rho} {O : List Addr} {d : Dk} {M : Model} {A : Around} {s : Shared} {Q : Unit → Shared → Prop} {E : Value → Shared → Prop},
    EnvF nm env → Pend g s.heap O es vs as → as.Nodup → (∀ a ∈ as, a ∉ Pr) → SI g env (as ++ Pr) r O d s.heap → upds r xs es = some r' →
    (∀ h' tk, SI g env Pr r' O d h' → Kp Pr O s.heap h' → Q () { s with heap := h', toks := tk }) → wpAny M A (assignInOrder ms vs) Q E s := by
  induction hst with
  | nil =>
    intro es vs as Pr r r' O d M A s Q E F P nd dj S e k
    cases P with
    | nil => cases e; exact assignInOrder_nil (k s.heap s.toks S Kp.refl)
    | val _ _ => cases e
    | own _ _ => cases e
  | cons h1 h2 ih =>
    intro es vs as Pr r r' O d M A s Q E F P nd dj S e k
    cases P with
    | nil => cases e
    | val rv P =>
      refine assignInOrder_cons (h1.2 _ _ _ _ _ _ (store_val F h1.1 S rv fun h2 tk2 c cO sc kk S2 => ?_))
      refine ih F (P.conv (fun b o hb e => ⟨kk b o (by rintro rfl; exact hb cO) e, hb⟩) fun a ha o e => kk a o (by rintro rfl; exact (S.pr a (by simp [ha])).2.2 sc) e) nd dj S2 e fun h3 tk3 S3 k3 => ?_
      exact k h3 tk3 S3 fun b o q e => k3 b o q (kk b o (by
        rintro rfl
        rcases q with q | q
        · exact q cO
        · exact (S.pr _ (by simp [q])).2.2 sc) e)
    | @own t a es vs as rv P =>
      have nd' := List.nodup_cons.mp nd
      refine assignInOrder_cons (h1.2 _ _ _ _ _ _ (store_own F h1.1 S (fun q => (List.mem_append.mp q).elim nd'.1 (dj a (.head _))) rv fun h2 tk2 c cO sc kk S2 => ?_))
      refine ih F (P.conv (fun b o hb e => ⟨kk b o (by rintro rfl; exact hb cO) e, hb⟩) fun a ha o e => kk a o (by rintro rfl; exact (S.pr a (by simp [ha])).2.2 sc) e) nd'.2 (fun a ha => dj a (.tail _ ha)) S2 e fun h3 tk3 S3 k3 => ?_
      exact k h3 tk3 S3 fun b o q e => k3 b o q (kk b o (by
        rintro rfl
        rcases q with q | q
        · exact q cO
        · exact (S.pr _ (by simp [q])).2.2 sc) e)

/-! the right sides -/
inductive SemRs (g : Gd) (l : Nat) (nm : Nms) : List Expr → List Rhs → Prop
  | nil : SemRs g l nm [] []
  | v {e es f fs} : NS e → SemE g l nm e f → SemRs g l nm es fs → SemRs g l nm (e :: es) (.v f :: fs)
  | lst {es' fs' pos es fs} : SemEs g l nm es' fs' → es'.length ≤ 100 → SemRs g l nm es fs → SemRs g l nm (.List es' pos :: es) (.lst fs' :: fs)
  | dic {pos es fs} : SemRs g l nm es fs → SemRs g l nm (.Dict [] [] pos :: es) (.dic :: fs)

theorem new_own {env : Env} {Pr : List Addr} {r : Rho} {O : List Addr} {d : Dk} {h : Heap} (S : SI g env Pr r O d h) (o : Obj) (ho : o.data ≠ .freed) :
    SI g env (h.objs.size :: Pr) r (h.objs.size :: O) d (h.push o) ∧ h.get? h.objs.size = none ∧ h.objs.size ∉ Pr ∧ (∀ b o', b ∉ O → h.get? b = some o' → (h.push o).get? b = some o' ∧ b ∉ h.objs.size :: O) := by
  have kp : ∀ c o', h.get? c = some o' → (h.push o).get? c = some o' := fun c o e => Heap.get?_push_of_some _ e
  have fr : h.get? h.objs.size = none := by
    cases e : h.get? h.objs.size with
    | none => rfl
    | some o => exact absurd (Heap.lt_size e) (Nat.lt_irrefl _)
  have ne : ∀ b o, h.get? b = some o → b ≠ h.objs.size := fun b o e => by rintro rfl; rw [fr] at e; cases e
  have tr : ∀ b o', b ∉ O → h.get? b = some o' → (h.push o).get? b = some o' ∧ b ∉ h.objs.size :: O := fun b o hb e => ⟨kp b o e, by simp only [List.mem_cons, not_or]; exact ⟨ne b o e, hb⟩⟩
  refine ⟨S.ext (Keep.of kp) (S.inv.deck.conv (fun o e => kp _ o e) tr) fr ⟨o, Heap.get?_push_size _ (by cases o with | mk a b c d => cases c <;> first | rfl | exact absurd rfl ho)⟩, fr, fun q => ?_, tr⟩
  obtain ⟨o, ho⟩ := S.inv.pres _ (S.pr _ q).1; exact ne _ _ ho rfl

theorem rhss_cons {f : Rhs} {l : List Rhs} {r : Rho} {d d' : Dk} {ts : List Ent} (e : rhss (f :: l) r d = some (ts, d')) : ∃ a d1 as, rhs1 f r d = some (a, d1) ∧ rhss l r d1 = some (as, d') ∧ ts = a :: as := by
  unfold rhss at e
  cases e1 : rhs1 f r d with
  | none => rw [e1] at e; cases e
  | some p =>
    obtain ⟨a, d1⟩ := p
    rw [e1] at e
    dsimp only at e
    cases e2 : rhss l r d1 with
    | none => rw [e2] at e; cases e
    | some q =>
      obtain ⟨as, d2⟩ := q
      rw [e2] at e
      cases e
      exact ⟨a, d1, as, rfl, e2, rfl⟩
theorem rhs1_v {f : X} {r : Rho} {d d' : Dk} {a : Ent} (e : rhs1 (.v f) r d = some (a, d')) : ∃ t, f r d = some (t, d') ∧ a = .val t := by
  have e : (match f r d with | some (t, d1) => some (Ent.val t, d1) | none => none) = some (a, d') := e
  cases e1 : f r d with
  | none => rw [e1] at e; cases e
  | some p => obtain ⟨t, d1⟩ := p; rw [e1] at e; cases e; exact ⟨t, rfl, rfl⟩
theorem rhs1_lst {f : List X} {r : Rho} {d d' : Dk} {a : Ent} (e : rhs1 (.lst f) r d = some (a, d')) : ∃ t, xs f r d = some (t, d') ∧ a = .own (.list t) := by
  have e : (match xs f r d with | some (t, d1) => some (Ent.own (.list t), d1) | none => none) = some (a, d') := e
  cases e1 : xs f r d with
  | none => rw [e1] at e; cases e
  | some p => obtain ⟨t, d1⟩ := p; rw [e1] at e; cases e; exact ⟨t, rfl, rfl⟩

theorem rs_sem {es : List Expr} {fs : List Rhs} (h : SemRs g l nm es fs) : ∀ (env : Env) (Pr : List Addr) (r : Rho) (O : List Addr) (d d' : Dk) (ts : List Ent) (A : Around) (s : Shared) (pos : Pos) (Q : List Value → Shared → Prop) (E : Value → Shared → Prop),
    EnvF nm env → AOK A l → SI g env Pr r O d s.heap → rhss fs r d = some (ts, d') →
    (∀ vs as h' tk O', Pend g h' O' ts vs as → as.Nodup → (∀ a ∈ as, a ∉ Pr) → SI g env (as ++ Pr) r O' d' h' → Kp Pr O s.heap h' → Grow s.heap O O' → Q vs { s with heap := h', toks := tk }) → wpAny (model g.prog g.w) A (spliced (backTo pos (starEach es env))) Q E s := by
  induction h with
  | nil =>
    intro env Pr r O d d' ts A s pos Q E F hA S e k
    cases e
    exact wpAny_pure (k [] [] s.heap s.toks O .nil .nil (by simp) S Kp.refl Grow.refl)
  | v hn h1 h2 ih =>
    intro env Pr r O d d' ts A s pos Q E F hA S e k
    obtain ⟨a, d1, as, e1, e3, rfl⟩ := rhss_cons e
    obtain ⟨t, e2, rfl⟩ := rhs1_v e1
    · · · rw [hn]
          refine spliced_cons (h1 env r O d d1 t A s _ E F hA S.inv e2 fun v h1 tk rv k1 dk1 => ?_)
          have S1 := S.keep k1 dk1
          refine ih env Pr r O d1 d' as A _ pos _ E F hA S1 e3 fun vs adr h2 tk2 O2 P nd dj S2 kp gr => ?_
          exact k (v :: vs) adr h2 tk2 O2 (.val (rv.conv (tr_of kp gr)) P) nd dj S2 ((S.kp k1).trans Grow.refl kp) (Grow.refl.trans (S.kp k1) gr)
  | lst h1 hl h2 ih =>
    intro env Pr r O d d' ts A s pos Q E F hA S e k
    obtain ⟨a, d1, as, e1, e3, rfl⟩ := rhss_cons e
    obtain ⟨t, e2, rfl⟩ := rhs1_lst e1
    · · · show wpAny (model g.prog g.w) A (spliced ((false, _) :: _)) Q E s
          refine spliced_cons (wpAny_List_spliced (args_sem h1 env r O d d1 t A s _ _ E F hA S.inv e2 fun vs h1' tk rv k1 dk1 => ?_))
          have hz : vs.length ≤ 100 := by rw [rv.length, xs_len e2, h1.len]; exact hl
          refine ⟨Nat.le_trans hz (by decide), ?_⟩
          have S1 := S.keep k1 dk1
          obtain ⟨S2, fr, nP, tr⟩ := new_own S1 { cls := .type "list", data := .seq vs.toArray } (by intro q; cases q)
          have kp1 : Kp Pr O s.heap (h1'.push { cls := .type "list", data := .seq vs.toArray }) := fun b o q e => Heap.get?_push_of_some _ (S.kp k1 b o q e)
          have gr1 : Grow s.heap O (h1'.objs.size :: O) := fun b hb => by
            simp only [List.mem_cons] at hb
            rcases hb with rfl | hb
            · by_cases q : h1'.objs.size ∈ O
              · exact .inl q
              · refine .inr ?_
                cases e : s.heap.get? h1'.objs.size with
                | none => rfl
                | some o => rw [S.kp k1 _ o (.inl q) e] at fr; cases fr
            · exact .inl hb
          refine ih env (h1'.objs.size :: Pr) r _ d1 d' as A _ pos _ E F hA S2 e3 fun ws adr h2 tk2 O2 P nd dj S3 kp gr => ?_
          have P0 : OwnRep g (h1'.push { cls := .type "list", data := .seq vs.toArray }) (h1'.objs.size :: O) (.list t) h1'.objs.size := ⟨vs, ⟨0, Heap.get?_push_size _ rfl⟩, Nat.le_trans hz (by decide), rv.conv tr⟩
          refine k (.ref h1'.objs.size :: ws) (h1'.objs.size :: adr) h2 tk2 O2 (.own (P0.conv (fun o e => kp _ o (.inr (by simp)) e) (tr_of kp gr)) P) ?_ ?_ (S3.sub fun a ha => ?_) ?_ ?_
          · exact List.nodup_cons.mpr ⟨fun q => dj _ q (by simp), nd⟩
          · intro a ha
            rcases List.mem_cons.mp ha with rfl | ha
            · exact nP
            · exact fun q => dj a ha (by simp [q])
          · simp only [List.cons_append, List.mem_cons, List.mem_append] at ha ⊢
            rcases ha with q | q | q <;> simp [q]
          · exact kp1.trans gr1 fun b o q e => kp b o (q.imp id fun q => by simp [q]) e
          · exact gr1.trans kp1 gr
  | dic h2 ih =>
    intro env Pr r O d d' ts A s pos Q E F hA S e k
    obtain ⟨a, d1, as, e1, e3, rfl⟩ := rhss_cons e
    cases e1
    · show wpAny (model g.prog g.w) A (spliced ((false, _) :: _)) Q E s
      refine spliced_cons (wpAny_Dict_empty ?_)
      obtain ⟨S2, fr, nP, tr⟩ := new_own S { cls := .type "dict", data := .dict #[] } (by intro q; cases q)
      have kp1 : Kp Pr O s.heap (s.heap.push { cls := .type "dict", data := .dict #[] }) := fun b o q e => Heap.get?_push_of_some _ e
      have gr1 : Grow s.heap O (s.heap.objs.size :: O) := fun b hb => by
        simp only [List.mem_cons] at hb
        rcases hb with rfl | hb
        · exact .inr fr
        · exact .inl hb
      refine ih env (s.heap.objs.size :: Pr) r _ d d' as A _ pos _ E F hA S2 e3 fun ws adr h2 tk2 O2 P nd dj S3 kp gr => ?_
      have P0 : OwnRep g (s.heap.push { cls := .type "dict", data := .dict #[] }) (s.heap.objs.size :: O) (.dict []) s.heap.objs.size := ⟨_, Heap.IntMap.new _, Heap.DictLe.new _, fun k => rfl⟩
      refine k (.ref s.heap.objs.size :: ws) (s.heap.objs.size :: adr) h2 tk2 O2 (.own (P0.conv (fun o e => kp _ o (.inr (by simp)) e) (tr_of kp gr)) P) ?_ ?_ (S3.sub fun a ha => ?_) ?_ ?_
      · exact List.nodup_cons.mpr ⟨fun q => dj _ q (by simp), nd⟩
      · intro a ha
        rcases List.mem_cons.mp ha with rfl | ha
        · exact nP
        · exact fun q => dj a ha (by simp [q])
      · simp only [List.cons_append, List.mem_cons, List.mem_append] at ha ⊢
        rcases ha with q | q | q <;> simp [q]
      · exact kp1.trans gr1 fun b o q e => kp b o (q.imp id fun q => by simp [q]) e
      · exact gr1.trans kp1 gr
end Mine
end

section
open PySem PySem.W PyProof.Rows PySem.Calls PySem.Spec PyProof.V PySem.SeqAt
set_option maxRecDepth 100000
set_option linter.unusedVariables false
namespace Mine
variable {g : Gd} {l : Nat} {nm : Nms}

/-! targets -/
inductive Tgts (nm : Nms) : List Expr → List N → Prop
  | nil : Tgts nm [] []
  | cons {x n p es xs} : n = N.str x → lcOK nm x = true → Tgts nm es xs → Tgts nm (.Name n p :: es) (x :: xs)
theorem Tgts.stores {es : List Expr} {xs : List N} (h : Tgts nm es xs) (env : Env) : Stores nm env xs ((assignEach es env).map (·.2)) := by
  induction h with
  | nil => exact .nil
  | cons e hx _ ih => subst e; exact .cons ⟨hx, fun M A v Q E s h => wpAny_assign_Name h⟩ ih
theorem Tgts.len {es : List Expr} {xs : List N} (h : Tgts nm es xs) (env : Env) : (assignEach es env).length = xs.length := by
  induction h with
  | nil => rfl
  | cons e hx _ ih => subst e; show List.length (_ :: _) = _; simp [ih]
theorem Tgts.star {es : List Expr} {xs : List N} (h : Tgts nm es xs) (env : Env) : (assignEach es env).findIdx? (·.1) = none := by
  induction h with
  | nil => rfl
  | cons e hx _ ih => subst e; show List.findIdx? _ ((false, _) :: _) = _; simp [List.findIdx?_cons, ih]
theorem Tgts.rev {es : List Expr} {xs : List N} (h : Tgts nm es xs) (env : Env) : Stores nm env xs.reverse ((xs.map N.str).reverse.map fun n => bindName env n) := by
  have all : ∀ x ∈ xs, lcOK nm x = true := by
    induction h with
    | nil => simp
    | cons e hx _ ih =>
      intro x hm
      rcases List.mem_cons.mp hm with rfl | hm
      · exact hx
      · exact ih x hm
  rw [← List.map_reverse, List.map_map]
  have all' : ∀ x ∈ xs.reverse, lcOK nm x = true := fun x hx => all x (List.mem_reverse.mp hx)
  generalize xs.reverse = ys at all'
  induction ys with
  | nil => exact .nil
  | cons y ys ih => exact .cons ⟨all' y (.head _), fun M A v Q E s h => wpAny_bindName h⟩ (ih fun x hx => all' x (.tail _ hx))

theorem Pend.len {h : Heap} {O : List Addr} {es : List Ent} {vs : List Value} {as : List Addr} (P : Pend g h O es vs as) : vs.length = es.length := by
  induction P with
  | nil => rfl
  | val _ _ ih => simp [ih]
  | own _ _ ih => simp [ih]
theorem upds_len : ∀ {r r' : Rho} {ns : List N} {es : List Ent}, upds r ns es = some r' → es.length = ns.length
  | r, r', [], [], _ => rfl
  | r, r', [], _ :: _, e => by cases e
  | r, r', _ :: _, [], e => by cases e
  | r, r', x :: ns, t :: ts, e => by have e : upds (upd r x t) ns ts = some r' := e; simp [upds_len e]
theorem rhss_len : ∀ {fs : List Rhs} {r : Rho} {d d' : Dk} {ts : List Ent}, rhss fs r d = some (ts, d') → ts.length = fs.length
  | [], r, d, d', ts, e => by cases e; rfl
  | f :: fs, r, d, d', ts, e => by
    obtain ⟨a, d1, as, e1, e3, rfl⟩ := rhss_cons e
    simp [rhss_len e3]
theorem SemRs.len {es : List Expr} {fs : List Rhs} (h : SemRs g l nm es fs) : fs.length = es.length := by
  induction h with
  | nil => rfl
  | v _ _ _ ih => simp [ih]
  | lst _ _ _ ih => simp [ih]
  | dic _ ih => simp [ih]
theorem extBut_size {h h' : Heap} (e : Heap.ExtBut h.objs.size h h') : ∀ b o, h.get? b = some o → h'.get? b = some o := fun b o q => e b o (by rintro rfl; exact absurd (Heap.lt_size q) (Nat.lt_irrefl _)) q
theorem SI.deckK {env : Env} {Pr : List Addr} {r : Rho} {O : List Addr} {d : Dk} {h h' : Heap} (S : SI g env Pr r O d h) (k : ∀ b o, h.get? b = some o → h'.get? b = some o) : SI g env Pr r O d h' := S.keep (Keep.of k) (S.inv.deck.keep S.inv.dO k)

/-- a, b = e, f -/
theorem s_multi {ts es : List Expr} {tz ez} {tp ep pos : Pos} {ns : List N} {fs : List Rhs} (ht : Tgts nm ts ns) (h : SemRs g l nm es fs) (hl : es.length ≤ 100)
    (hw : ∀ env, EnvF nm env → swappedStores [.Tuple ts tz tp] (.Tuple es ez ep) env = pure none) :
    SemS g l nm (.Assign [.Tuple ts tz tp] (.Tuple es ez ep) pos) (sMulti ns fs) := by
  intro env Pr r r' O d d' fl A s Q E F hA S e k
  unfold sMulti at e
  split at e
  · rename_i ents d1 e1
    split at e
    · rename_i r1 e2
      cases e
      refine Assign_Tuple ?_ rfl (hw env F)
      refine wpAny_Tuple_spliced (rs_sem h env Pr r O d d' ents A s ep _ E F hA S e1 fun vs as h1 tk O1 P nd dj S1 kp gr => ?_)
      have hz : vs.length ≤ 100 := by rw [P.len, rhss_len e1, h.len]; exact hl
      refine ⟨Nat.le_trans hz (by decide), ?_⟩
      have kp1 : ∀ c o, h1.get? c = some o → (h1.push { cls := .type "tuple", data := .seq vs.toArray }).get? c = some o := fun c o e => Heap.get?_push_of_some _ e
      refine assign_Tuple_tuple hA.1 (items := vs.toArray) ⟨_, Heap.get?_push_size _ rfl, rfl, 0, rfl⟩ (by rw [ht.len, ← upds_len e2, ← P.len]; simp) (ht.star env) fun h2 he2 => ?_
      have k2 : ∀ c o, h1.get? c = some o → h2.get? c = some o := fun c o e => extBut_size he2 c o (kp1 c o e)
      refine store_all (ht.stores env) F (P.conv (fun b o hb e => ⟨k2 b o e, hb⟩) fun a _ o e => k2 a o e) nd dj (S1.deckK k2) e2 fun h3 tk3 S3 kp3 => ?_
      exact k .next h3 tk3 O1 rfl S3 (kp.trans gr fun b o q e => kp3 b o q (k2 b o e)) gr
    · cases e
  · cases e
theorem s_multiR {ts es : List Expr} {tz ez} {tp ep pos : Pos} {ns : List N} {fs : List Rhs} (ht : Tgts nm ts ns) (h : SemRs g l nm es fs) (hl : es.length ≤ 100)
    (hw : ∀ env, EnvF nm env → swappedStores [.Tuple ts tz tp] (.Tuple es ez ep) env = pure (some (ns.map N.str))) :
    SemS g l nm (.Assign [.Tuple ts tz tp] (.Tuple es ez ep) pos) (sMultiR ns fs) := by
  intro env Pr r r' O d d' fl A s Q E F hA S e k
  unfold sMultiR at e
  split at e
  · rename_i ents d1 e1
    split at e
    · rename_i r1 e2
      cases e
      refine Assign_Tuple_swapped ?_ rfl (hw env F)
      refine wpAny_Tuple_spliced (rs_sem h env Pr r O d d' ents A s ep _ E F hA S e1 fun vs as h1 tk O1 P nd dj S1 kp gr => ?_)
      have hz : vs.length ≤ 100 := by rw [P.len, rhss_len e1, h.len]; exact hl
      refine ⟨Nat.le_trans hz (by decide), ?_⟩
      have kp1 : ∀ c o, h1.get? c = some o → (h1.push { cls := .type "tuple", data := .seq vs.toArray }).get? c = some o := fun c o e => Heap.get?_push_of_some _ e
      have hn : (ns.map N.str).length = vs.toArray.size := by have := upds_len e2; simp at this; simp [P.len, this]
      rw [hn]
      refine unpackItems_tuple hA.1 (items := vs.toArray) ⟨_, Heap.get?_push_size _ rfl, rfl, 0, rfl⟩ fun h2 he2 => ?_
      have k2 : ∀ c o, h1.get? c = some o → h2.get? c = some o := fun c o e => extBut_size he2 c o (kp1 c o e)
      have P2 := (P.conv (fun b o hb e => ⟨k2 b o e, hb⟩) fun a _ o e => k2 a o e).reverse
      refine store_all (ht.rev env) F P2 ((List.reverse_perm as).nodup_iff.mpr nd) (fun a ha => dj a (List.mem_reverse.mp ha)) ((S1.deckK k2).sub fun a ha => by simpa using ha) e2 fun h3 tk3 S3 kp3 => ?_
      exact k .next h3 tk3 O1 rfl S3 (kp.trans gr fun b o q e => kp3 b o q (k2 b o e)) gr
    · cases e
  · cases e

/-- a, b = t -/
theorem s_unp {ts : List Expr} {tz} {tp pos : Pos} {ns : List N} {a : Expr} {f : X} (ht : Tgts nm ts ns) (ha : SemE g l nm a f) (hs : ∀ env, swapsWithSole [.Tuple ts tz tp] a pos.line env = pure false) (hw : ∀ env, swappedStores [.Tuple ts tz tp] a env = pure none) :
    SemS g l nm (.Assign [.Tuple ts tz tp] a pos) (sUnp ns f) := by
  intro env Pr r r' O d d' fl A s Q E F hA S e k
  unfold sUnp at e
  split at e
  · rename_i us d1 e1
    split at e
    · rename_i r1 e2
      cases e
      refine Assign_Tuple (ha env r O d d' (.tup us) A s _ E F hA S.inv e1 fun v h1 tk rv k1 dk1 => ?_) (hs env) (hw env)
      have S1 := S.keep k1 dk1
      obtain ⟨ta, vs, rfl, taO, it, hl, rs⟩ := rep_tup.mp rv
      rw [← upds_val] at e2
      have P := Pend.of rs
      refine assign_Tuple_tuple hA.1 it (by rw [ht.len, ← upds_len e2, ← P.len]; simp) (ht.star env) fun h2 he2 => ?_
      have k2 := extBut_size he2
      refine store_all (ht.stores env) F (P.conv (fun b o hb e => ⟨k2 b o e, hb⟩) fun a _ o e => k2 a o e) .nil (by simp) (S1.deckK k2) e2 fun h3 tk3 S3 kp3 => ?_
      exact k .next h3 tk3 O rfl S3 ((S.kp k1).trans Grow.refl fun b o q e => kp3 b o q (k2 b o e)) Grow.refl
    · cases e
  · cases e

/-- a, b = w.pop() -/
theorem s_pop {ts : List Expr} {tz} {tp np apos cpos pos : Pos} {ns : List N} {w : N} {n : PySem.Str} (e : n = w.str) (ht : Tgts nm ts ns) (hline : (apos.endLine == cpos.line) = true) :
    SemS g l nm (.Assign [.Tuple ts tz tp] (.Call (.Attribute (.Name n np) "pop" apos) [] [] cpos) pos) (sPop ns w) := by
  subst e
  intro env Pr r r' O d d' fl A s Q E F hA S e k
  unfold sPop at e
  split at e
  · rename_i xl hr
    split at e
    · rename_i us hlast
      split at e
      · rename_i r1 e2
        cases e
        refine Assign_Tuple ?_ rfl rfl
        obtain ⟨a, V, aO, aD, aP, aS, H⟩ := S.own_of hr
        refine wpAny_Call_method rfl rfl hline PySem.F.plainAttrs_list PySem.F.slot_list_pop PySem.F.type_list_pop (load_var F V (nodebug w) ?_)
        obtain ⟨⟨vs, ⟨n1, hp⟩, hvl, rs⟩, Hm⟩ := H s.heap d Keep.refl S.inv.deck
        refine ⟨⟨_, hp, rfl⟩, fun a' e => by cases e; exact ⟨_, hp, rfl⟩, ?_⟩
        refine callWith_sem (g := g) (l := l) (nm := nm) (es := []) (fs := []) .nil kept_bi env r O d d [] A s cpos _ E F hA S.inv rfl fun vs0 h1 tk rvs k1 dk1 => ?_
        unfold Reps at rvs
        subst rvs
        obtain ⟨⟨vs, ⟨n1, hp⟩, hvl, rs⟩, Hm⟩ := H h1 d k1 dk1
        have exl : xl = xl.dropLast ++ [.tup us] := by
          obtain ⟨hne, q⟩ := List.getLast?_eq_some_iff.mp hlast
          subst q; simp
        rw [exl] at rs
        obtain ⟨v1, v2, rfl, r1', r2'⟩ := rs.split
        unfold Reps at r2'
        obtain ⟨y, v3, rfl, ry, rn⟩ := r2'
        unfold Reps at rn
        subst rn
        refine PyProof.Rows.Copied.pop_at (y := y) hp (by simp) (fun h2 hs2 hp2 => ?_) (by simp at hvl ⊢; have : 1048576 ≤ sizeLine := szL_line; have : szL = 1048576 := rfl; omega)
        have tr : ∀ b o, b ∉ O → h1.get? b = some o → h2.get? b = some o ∧ b ∉ O := fun b o hb e => ⟨hs2.extBut b o (by rintro rfl; exact hb aO) e, hb⟩
        have S2 : SI g env Pr (upd r w (.own (.list xl.dropLast))) O d h2 := Hm h2 _ (fun b o hb e => hs2.extBut b o hb e) ⟨v1, ⟨_, by simpa using hp2⟩, by simp at hvl; omega, r1'.conv tr⟩
        have kp2 : Kp Pr O s.heap h2 := own_kp S k1 aO aP fun b o hb e => hs2.extBut b o hb e
        obtain ⟨ta, vs, rfl, taO, it, hl, rs⟩ := rep_tup.mp (ry.conv tr)
        rw [← upds_val] at e2
        have P := Pend.of rs
        refine assign_Tuple_tuple hA.1 it (by rw [ht.len, ← upds_len e2, ← P.len]; simp) (ht.star env) fun h3 he3 => ?_
        have k3 := extBut_size he3
        refine store_all (ht.stores env) F (P.conv (fun b o hb e => ⟨k3 b o e, hb⟩) fun a _ o e => k3 a o e) .nil (by simp) (S2.deckK k3) e2 fun h4 tk4 S4 kp4 => ?_
        exact k .next h4 tk4 O rfl S4 (kp2.trans Grow.refl fun b o q e => kp4 b o q (k3 b o e)) Grow.refl
      · cases e
    · cases e
  · cases e
end Mine
end

section
open PySem PySem.W PyProof.Rows PySem.Calls PySem.Spec PyProof.V PySem.SeqAt
set_option maxRecDepth 100000
set_option linter.unusedVariables false
namespace Mine
variable {g : Gd} {l : Nat} {nm : Nms}

/-! binding of arguments -/
theorem bindL_not {k : PySem.Str → Option NameKind} {y : PySem.Str} : ∀ {bs : List (PySem.Str × Value)} {m : PySem.Str → Option Value}, (∀ p ∈ bs, p.1 ≠ y) → bindL k bs m y = m y
  | [], m, _ => rfl
  | (n, v) :: r, m, h => by
    unfold bindL
    rw [bindL_not fun p hp => h p (.tail _ hp)]
    have hn : n ≠ y := h _ (.head _)
    split
    · simp [Ne.symm hn]
    · rfl
theorem bindC_not {k : PySem.Str → Option NameKind} {y : PySem.Str} : ∀ {bs : List (PySem.Str × Value)} {m : PySem.Str → Option Value}, (∀ p ∈ bs, p.1 ≠ y) → bindC k bs m y = m y
  | [], m, _ => rfl
  | (n, v) :: r, m, h => by
    unfold bindC
    rw [bindC_not fun p hp => h p (.tail _ hp)]
    have hn : n ≠ y := h _ (.head _)
    split
    · rfl
    · simp [Ne.symm hn]
theorem bind_at {h : Heap} {O : List Addr} {kf : PySem.Str → Option NameKind} : ∀ {ps : List N} {ts : List T} {vs : List Value} {r : Rho} {m cm : PySem.Str → Option Value}, ps.Nodup → Reps g h O ts vs → bindR ps ts = some r → ∀ x t, r x = some (.val t) → ∃ v, x ∈ ps ∧ Rep g h O t v ∧
    (kf x.str = some .local → bindL kf ((ps.map N.str).zip vs) m x.str = some v) ∧ (kf x.str ≠ some .local → bindC kf ((ps.map N.str).zip vs) cm x.str = some v)
  | [], [], vs, r, m, cm, nd, rs, e, x, t, hx => by cases e; cases hx
  | [], _ :: _, vs, r, m, cm, nd, rs, e, x, t, hx => by cases e
  | _ :: _, [], vs, r, m, cm, nd, rs, e, x, t, hx => by cases e
  | p :: ps, u :: ts, vs, r, m, cm, nd, rs, e, x, t, hx => by
    unfold Reps at rs
    obtain ⟨v, ws, rfl, rv, rws⟩ := rs
    have nd' := List.nodup_cons.mp nd
    unfold bindR at e
    obtain ⟨r1, e1, rfl⟩ := Option.map_eq_some_iff.mp e
    show ∃ v', x ∈ p :: ps ∧ Rep g h O t v' ∧ (kf x.str = some .local → bindL kf ((p.str, v) :: (ps.map N.str).zip ws) m x.str = some v') ∧ (kf x.str ≠ some .local → bindC kf ((p.str, v) :: (ps.map N.str).zip ws) cm x.str = some v')
    by_cases q : x = p
    · subst q
      rw [upd_same] at hx; cases hx
      have no : ∀ q ∈ (ps.map N.str).zip ws, q.1 ≠ x.str := fun q hq e => by
        obtain ⟨a, b⟩ := q
        have := (List.of_mem_zip hq).1
        obtain ⟨y, hy, ey⟩ := List.mem_map.mp this
        have : y = x := N.str_inj (ey.trans e)
        exact nd'.1 (this ▸ hy)
      refine ⟨v, by simp, rv, fun hk => ?_, fun hk => ?_⟩
      · unfold bindL; rw [bindL_not no, if_pos hk]; simp
      · unfold bindC; rw [bindC_not no, if_neg hk]; simp
    · rw [upd_ne _ _ q] at hx
      unfold bindL bindC
      obtain ⟨v', h1, h2, h3, h4⟩ := bind_at (h := h) (O := O) (kf := kf) (m := if kf p.str = some .local then fun y => if y = p.str then some v else m y else m) (cm := if kf p.str = some .local then cm else fun y => if y = p.str then some v else cm y) nd'.2 rws e1 x t hx
      exact ⟨v', by simp [h1], h2, h3, h4⟩
theorem bindR_own : ∀ {ps : List N} {ts : List T} {r : Rho}, bindR ps ts = some r → ∀ x t, r x ≠ some (.own t)
  | [], [], r, e, x, t => by cases e; simp
  | [], _ :: _, r, e, x, t => by cases e
  | _ :: _, [], r, e, x, t => by cases e
  | p :: ps, u :: ts, r, e, x, t => by
    unfold bindR at e
    obtain ⟨r1, e1, rfl⟩ := Option.map_eq_some_iff.mp e
    by_cases q : x = p
    · subst q; rw [upd_same]; simp
    · rw [upd_ne _ _ q]; exact bindR_own e1 x t
theorem bindR_len : ∀ {ps : List N} {ts : List T} {r : Rho}, bindR ps ts = some r → ts.length = ps.length
  | [], [], r, e => rfl
  | [], _ :: _, r, e => by cases e
  | _ :: _, [], r, e => by cases e
  | p :: ps, u :: ts, r, e => by
    unfold bindR at e
    obtain ⟨r1, e1, rfl⟩ := Option.map_eq_some_iff.mp e
    simp [bindR_len e1]

/-- the names of a frame are in order -/
noncomputable def nmOK (nm : Nms) (ps : List N) : Bool :=
  nm.all (fun p => nm.lookup p.1 == some p.2) && ps.all (fun x => lcOK nm x) && decide ps.Nodup

theorem fn_envF {fd : FuncData} {L a : Addr} (hk : fd.scope.kind = .function) (hg : fd.globals = mainGlobals) (hb : fd.builtins = builtinsNs) : EnvF fd.scope.names (callEnvC fd L a) where
  kind := hk
  globals := hg
  builtins := hb
  names := fun x k h _ => h
  cells := fun x h => Option.isSome_iff_exists.mp (cellsFrom_some _ _ _ (.inl h))

theorem fn_inv {fd : FuncData} {a : Addr} {s s₁ : Shared} {O : List Addr} {d : Dk} {ps : List N} {ts : List T} {vs : List Value} {r : Rho}
    (hn : nmOK fd.scope.names ps = true)
    (hb : ∀ b o, g.base.get? b = some o → s.heap.get? b = some o) (hD : g.base.objs.size ≤ g.D) (dO : g.D ∈ O) (pres : ∀ a ∈ O, ∃ o, s.heap.get? a = some o) (ob : ∀ a ∈ O, g.base.get? a = none) (dk : DeckAt g s.heap O d) (rs : Reps g s.heap O ts vs)
    (er : bindR ps ts = some r) (hL : g.base.objs.size ≤ s.heap.objs.size)
    (X : InCallC s (callEnvC fd s.heap.objs.size a).locals (bindL (callEnvC fd s.heap.objs.size a).kindOf ((ps.map N.str).zip vs) fun _ => none) (callEnvC fd s.heap.objs.size a).cells
        (bindC (callEnvC fd s.heap.objs.size a).kindOf ((ps.map N.str).zip vs) fun _ => none) s₁) :
    ∃ O₁, SI g (callEnvC fd s.heap.objs.size a) (O.filter fun b => decide (b ≠ g.D)) r O₁ d s₁.heap ∧ (∀ b o, s.heap.get? b = some o → b ∉ O → b ∉ O₁) ∧ (∀ b ∈ O, b ∈ O₁) := by
  unfold nmOK at hn
  simp only [Bool.and_eq_true, List.all_eq_true, decide_eq_true_eq, beq_iff_eq] at hn
  obtain ⟨⟨hn1, hn2⟩, nd⟩ := hn
  generalize hen : callEnvC fd s.heap.objs.size a = env at *
  have keep := X.toInCall.keep
  have fresh : ∀ b, Slot env b → s.heap.get? b = none := fun b hs => by
    cases e : s.heap.get? b with
    | none => rfl
    | some o =>
      have h1 : @LT.lt Nat instLTNat b s.heap.objs.size := Heap.lt_size e
      have h2 : @LE.le Nat instLENat s.heap.objs.size env.locals := X.toInCall.fresh
      rcases hs with rfl | ⟨x, hx⟩
      · omega
      · have h3 : @LT.lt Nat instLTNat env.locals b := X.above x b (mem_of_lookup hx)
        omega
  let O₁ := env.locals :: (env.cells.filterMap fun p => env.cells.lookup p.1) ++ O
  have mem : ∀ b, b ∈ O₁ ↔ (b = env.locals ∨ (∃ x, env.cells.lookup x = some b) ∨ b ∈ O) := fun b => by
    simp only [O₁, List.cons_append, List.mem_cons, List.mem_append, List.mem_filterMap]
    constructor
    · rintro (q | ⟨p, _, q⟩ | q)
      · exact .inl q
      · exact .inr (.inl ⟨_, q⟩)
      · exact .inr (.inr q)
    · rintro (q | ⟨x, q⟩ | q)
      · exact .inl q
      · exact .inr (.inl ⟨(x, b), mem_of_lookup q, q⟩)
      · exact .inr (.inr q)
  have cellAt : ∀ x c, env.cells.lookup x = some c → ∃ v, s₁.heap.IsCell c v ∧ s.heap.get? c = none := fun x c hy => ⟨_, X.cell x c hy, fresh c (.inr ⟨x, hy⟩)⟩
  have frB : ∀ b, s.heap.get? b = none → g.base.get? b = none := fun b e => by
    cases e' : g.base.get? b with
    | none => rfl
    | some o => rw [hb b o e'] at e; cases e
  have nO : ∀ b o, s.heap.get? b = some o → b ∉ O → b ∉ O₁ := fun b o e hO q => by
    rcases (mem b).mp q with rfl | ⟨x, hx⟩ | q
    · rw [fresh _ (.inl rfl)] at e; cases e
    · obtain ⟨v, _, hf⟩ := cellAt x b hx; rw [hf] at e; cases e
    · exact hO q
  have tr : ∀ b o, b ∉ O → s.heap.get? b = some o → s₁.heap.get? b = some o ∧ b ∉ O₁ := fun b o hO e => ⟨keep b o e, nO b o e hO⟩
  refine ⟨O₁, ⟨⟨⟨⟨_, X.toInCall.ns⟩, fun x c e => ⟨_, X.cell x c e⟩, fun x y c e e' => name_of_addr X.apart (mem_of_lookup e) (mem_of_lookup e'), fun x c e => ?_⟩, fun b o e => keep b o (hb b o e), hD, ?_, dk.conv (fun o e => keep _ o e) tr, (mem _).mpr (.inr (.inr dO)), fun b hm => ?_, fun b hs => ?_, fun x t e => ?_, fun x t e => absurd e (bindR_own er x t), fun b hm => ?_⟩, fun b hm => ?_, ⟨fun _ => 0, fun x t e => absurd e (bindR_own er x t)⟩⟩, nO, fun b hO => (mem b).mpr (.inr (.inr hO))⟩
  · have : @LT.lt Nat instLTNat env.locals c := X.above x c (mem_of_lookup e)
    exact fun q => by have q' : @Eq Nat c env.locals := q; omega
  · exact Nat.le_trans hL X.toInCall.fresh
  · rcases (mem b).mp hm with rfl | ⟨x, hx⟩ | q
    · obtain ⟨o, _, _, ho, _⟩ := X.toInCall.ns; exact ⟨o, ho⟩
    · obtain ⟨v, ⟨o, ho, _⟩, _⟩ := cellAt x b hx; exact ⟨o, ho⟩
    · obtain ⟨o, ho⟩ := pres b q; exact ⟨o, keep b o ho⟩
  · refine ⟨(mem b).mpr ?_, ?_⟩
    · rcases hs with rfl | ⟨x, hx⟩
      · exact .inl rfl
      · exact .inr (.inl ⟨x, hx⟩)
    · rintro rfl
      obtain ⟨o, ho⟩ := pres _ dO
      rw [fresh _ hs] at ho; cases ho
  · obtain ⟨v, hxp, rv, h1, h2⟩ := bind_at (kf := env.kindOf) (m := fun _ => none) (cm := fun _ => none) nd rs er x t e
    refine ⟨v, ?_, rv.conv tr⟩
    have hk : env.kindOf = fun y => fd.scope.names.lookup y := by rw [← hen]; rfl
    have := hn2 x hxp
    unfold lcOK at this
    simp only [Bool.or_eq_true, beq_iff_eq] at this
    rcases this with q | q
    · have q' : env.kindOf x.str = some .local := by rw [hk]; exact q
      exact .inl ⟨q', _, X.toInCall.ns, h1 q'⟩
    · have q' : env.kindOf x.str = some .cell := by rw [hk]; exact q
      have hc : ∃ c, env.cells.lookup x.str = some c := by rw [← hen]; exact Option.isSome_iff_exists.mp (cellsFrom_some _ _ _ (.inl q))
      obtain ⟨c, hc⟩ := hc
      refine .inr ⟨q', c, hc, ?_⟩
      have := X.cell _ _ hc
      rw [h2 (by rw [q']; decide)] at this
      exact this
  · rcases (mem b).mp hm with rfl | ⟨x, hx⟩ | q
    · exact frB _ (fresh _ (.inl rfl))
    · obtain ⟨v, _, hf⟩ := cellAt x b hx; exact frB _ hf
    · exact ob b q
  · simp only [List.mem_filter, decide_eq_true_eq] at hm
    refine ⟨(mem b).mpr (.inr (.inr hm.1)), hm.2, fun hs => ?_⟩
    obtain ⟨o, ho⟩ := pres b hm.1
    rw [fresh _ hs] at ho; cases ho

/-- a def does what its body does -/
theorem fn_contract (G : GOK g) {name : PySem.Str} {f : Addr} {o : Obj} {fd : FuncData} {body : List Stmt} {ps : List N} {fb : SX} (hm : g.mg name = some (.ref f)) (hk : keepIn g.K (.ref f) = true)
    (ho : g.K.lookup f = some o) (hdata : o.data = .func fd) (hcd : codeIn g.K fd.code fd.qualname = true) (hbody : fd.body = .stmts body) (hglob : fd.globals = mainGlobals) (hbi : fd.builtins = builtinsNs) (hclo : fd.closure = [])
    (hbind : ∀ vals : List Value, vals.length = ps.length → bindArgs fd ⟨vals, []⟩ = pure ((ps.map N.str).zip vals)) (hn : nmOK fd.scope.names ps = true)
    (hco : fd.scope.isCoroutine = false) (hgen : fd.scope.isGenerator = false) (hkind : fd.scope.kind = .function)
    (hs : SemSs g l fd.scope.names body fb) : Contract g name (fnGo ps fb) (l + 1) := by
  refine ⟨f, hm, hk, ?_⟩
  intro A s O ts vs d d' t Q E hA hb hD dO pres ob dk rs e kq
  have e0 : ∃ r r', bindR ps ts = some r ∧ fb r d = some (.ret t, r', d') := by
    unfold fnGo at e
    split at e
    · rename_i r er
      split at e
      · rename_i t' r' d1 e2
        cases e
        exact ⟨r, r', er, e2⟩
      · cases e
    · cases e
  obtain ⟨r, r', er, eb⟩ := e0
  have hlen : vs.length = ps.length := by rw [rs.length, bindR_len er]
  have hsz : g.base.objs.size ≤ s.heap.objs.size := by
    obtain ⟨oD, hoD⟩ := pres _ dO
    exact Nat.le_trans hD (Nat.le_of_lt (Heap.lt_size hoD))
  have hn' := hn
  unfold nmOK at hn'
  simp only [Bool.and_eq_true, List.all_eq_true, decide_eq_true_eq, beq_iff_eq] at hn'
  refine wpAny_call (codeAny_call_cells (fd := fd) (binds := (ps.map N.str).zip vs) (by have := hA.2.1; omega) (hb _ _ (G.K _ _ ho)) hdata (G.nolimit.keeps hb) (codeRec_of (G.K.keeps hb) hcd) hbody (hbind vs hlen) hclo ?_ ?_ hco hgen hkind)
  · intro p hp
    obtain ⟨a, b⟩ := p
    obtain ⟨y, hy, rfl⟩ := List.mem_map.mp (List.of_mem_zip hp).1
    have := hn'.1.2 y hy
    unfold lcOK at this
    simp only [Bool.or_eq_true, beq_iff_eq] at this
    rcases this with q | q
    · exact .inl q
    · exact .inr ⟨q, cellsFrom_some _ _ _ (.inl q)⟩
  · intro s₁ X
    obtain ⟨O₁, S, hO1, hO2⟩ := fn_inv hn hb hD dO pres ob dk rs er hsz X
    obtain ⟨⟨h1, tk1, rfl⟩, _, keep, _⟩ := id X.toInCall
    refine hs _ _ r r' O₁ d d' (.ret t) _ _ _ _ (fn_envF hkind hglob hbi) ⟨hA.1, ?_, ?_⟩ S eb fun fv h2 tk2 O2 hf S2 kp gr => ?_
    · have := hA.2.1; show A.depth + 1 + l < _; omega
    · have := hA.2.2; show A.units + 3 + 4 * l + 300 < _; omega
    · obtain ⟨v, rfl, rv⟩ := hf
      have kk : ∀ b o, b ≠ g.D → s.heap.get? b = some o → h2.get? b = some o := fun b o hbD e => by
        refine kp b o ?_ (keep b o e)
        by_cases q : b ∈ O
        · exact .inr (by simp [q, hbD])
        · exact .inl (hO1 b o e q)
      have memP : ∀ b, b ∈ O → b ∈ g.D :: O.filter fun b => decide (b ≠ g.D) := fun b hb => by
        by_cases q : b = g.D
        · simp [q]
        · simp [q, hb]
      have inO2 : ∀ b, b ∈ O → b ∈ O2 := fun b hb => by
        by_cases q : b = g.D
        · rw [q]; exact S2.inv.dO
        · exact (S2.pr b (by simp [q, hb])).1
      exact kq v h2 tk2 (rv.conv fun b o hb e => ⟨e, fun q => hb (memP b q)⟩) kk (S2.inv.deck.conv (fun o e => e) fun b o hb e => ⟨e, fun q => hb (inO2 b q)⟩)
end Mine
end

section
open PySem PySem.W PyProof.Rows PySem.Calls PySem.Spec PyProof.V PySem.SeqAt
set_option maxRecDepth 100000
set_option linter.unusedVariables false
namespace Mine
variable {g : Gd} {l : Nat} {nm : Nms}

theorem b_chain {o1 o2 : Cm} {op1 op2 : CmpOp} {a b c : Expr} {f h q : X} {pos : Pos} (p1 : PrimC g o1 op1) (p2 : PrimC g o2 op2) (ha : SemE g l nm a f) (hb : SemE g l nm b h) (hc : SemE g l nm c q)
    (hm : lastMarks [op1, op2] [b, c] = false) : SemB g l nm (.Compare a [op1, op2] [b, c] pos) (bChain o1 o2 f h q) := by
  intro env r O d d' t A s Q E F hA I e k
  unfold bChain at e
  cases e1 : f r d with
  | none => rw [e1] at e; cases e
  | some p =>
    obtain ⟨u, d1⟩ := p
    rw [e1] at e
    dsimp only at e
    cases e2 : h r d1 with
    | none => rw [e2] at e; cases e
    | some p =>
      obtain ⟨v, d2⟩ := p
      rw [e2] at e
      dsimp only at e
      refine isTrue_chain (ops := []) (rs := []) (ha env r O d d1 u A s _ E F hA I e1 fun v1 h1 tk1 r1 k1 dk1 => test_link (ops := []) (rs := []) (hb env r O d1 d2 v A _ _ E F hA (I.keep' k1 dk1) e2 fun v2 h2 tk2 r2 k2 dk2 => ?_)) hm
      cases e3 : tCmp o1 u v with
      | none => rw [e3] at e; cases e
      | some x =>
        rw [e3] at e
        refine p1 A l _ O u v x v1 v2 _ E hA (.inl (r1.keep I.dO k2)) (.inl r2) e3 fun tk3 => wpAny_truthy_bool ?_
        cases x with
        | false =>
          cases e
          rw [if_neg (by decide)]
          exact k h2 tk3 (k1.trans k2) dk2
        | true =>
          rw [if_pos rfl]
          dsimp only at e
          cases e4 : q r d2 with
          | none => rw [e4] at e; cases e
          | some p =>
            obtain ⟨w, d3⟩ := p
            rw [e4] at e
            dsimp only at e
            refine test_last (hc env r O d2 d3 w A _ _ E F hA (I.keep' (k1.trans k2) dk2) e4 fun v3 h3 tk4 r3 k3 dk3 => ?_)
            cases e5 : tCmp o2 v w with
            | none => rw [e5] at e; cases e
            | some y =>
              rw [e5] at e
              cases e
              refine p2 A l _ O v w t v2 v3 _ E hA (.inl (r2.keep I.dO k3)) (.inl r3) e5 fun tk5 => wpAny_truthy_bool ?_
              exact k h3 tk5 ((k1.trans k2).trans k3) dk3

theorem e_fail {e : Expr} : SemE g l nm e xFail := by
  intro env r O d d' t A s Q E F hA I e k
  cases e
theorem s_fail {st : Stmt} : SemS g l nm st sFail := by
  intro env Pr r r' O d d' fl A s Q E F hA S e k
  cases e
theorem ss_fail {st : List Stmt} : SemSs g l nm st sFail := by
  intro env Pr r r' O d d' fl A s Q E F hA S e k
  cases e

/-! the two classes -/
theorem rep_handed {h : Heap} {O : List Addr} {t : T} {v : Value} (r : Rep g h O t v) : handedIn v = true := by
  cases t with
  | none => unfold Rep at r; subst r; rfl
  | bool b => unfold Rep at r; subst r; rfl
  | int i => obtain ⟨tk, rfl⟩ := rep_int.mp r; rfl
  | str s => obtain ⟨⟨tk, rfl⟩, _⟩ := rep_str.mp r; rfl
  | list xs => obtain ⟨a, vs, rfl, _⟩ := rep_list.mp r; rfl
  | tup xs => obtain ⟨a, vs, rfl, _⟩ := rep_tup.mp r; rfl
  | fit p => unfold Rep at r; obtain ⟨x, dx, es, n, pv, rfl, _⟩ := r; rfl
  | mrg a b => unfold Rep at r; obtain ⟨x, dx, es, n, tv, pv, rfl, _⟩ := r; rfl
  | dict ks => unfold Rep at r; exact r.elim
  | iset n => unfold Rep at r; obtain ⟨a, o, S, rfl, _⟩ := r; rfl
  | rng a b => unfold Rep at r; obtain ⟨_, _, a, _, _, _, rfl, _⟩ := r; rfl
  | deck => unfold Rep at r; subst r; rfl

structure MadeF (g : Gd) (C fI : Addr) (fd : FuncData) : Prop where
  makes : makesIn g.K C = true
  init : findIn g.K (.ref C) "__init__" = some (some (.ref fI))
  isfn : typeIn g.K (.ref fI) = some (.type "function")
  obj : ∃ o, g.K.lookup fI = some o ∧ o.data = .func fd
  code : codeIn g.K fd.code fd.qualname = true
  setattr : findIn g.K (.ref C) "__setattr__" = some (some (.builtin "object.__setattr__"))
  over : plainOver g.K C = true
  hasD : hasDictIn g.K C = true
  kind : fd.scope.kind = .function
  glob : fd.globals = mainGlobals
  bi : fd.builtins = builtinsNs
  clo : fd.closure = []
  co : fd.scope.isCoroutine = false
  gen : fd.scope.isGenerator = false

theorem mk_core (G : GOK g) {name : PySem.Str} {C fI : Addr} {fd : FuncData} {body : List Stmt} {names : List PySem.Str} (M : MadeF g C fI fd) (hbody : fd.body = .stmts body)
    (hloc : ∀ n ∈ names, fd.scope.names.lookup n = some .local)
    {A : Around} {s : Shared} {vs : List Value} {Q : Value → Shared → Prop} {E : Value → Shared → Prop} (hbind : ∀ x, bindArgs fd ⟨.ref x :: vs, []⟩ = pure (names.zip (.ref x :: vs)))
    (hA : AOK A (l + 2)) (hb : ∀ b o, g.base.get? b = some o → s.heap.get? b = some o) 
    (k : ∀ (env : Env) (x dx : Addr) (h₁ : Heap) (tk : Nat) (m : PySem.Str → Option Value), env = callEnvC fd env.locals fI → Fr s.heap env.locals h₁ m → News s.heap env.locals h₁ [(x, instObj C dx), (dx, dictOf [] 0)] → x ≠ dx →
      (∀ n, fd.scope.names.lookup n = some .local → m n = bindL (fun y => fd.scope.names.lookup y) (names.zip (.ref x :: vs)) (fun _ => none) n) →
      ∀ A', AOK A' l → wpAny (model g.prog g.w) A' (execs body env) (fun f s' => (match f with | .ret v => v | _ => Value.none) = .none ∧ Q (.ref x) s') (fun _ _ => False) { s with heap := h₁, toks := tk }) :
    wpAny (model g.prog g.w) A (call (.ref C) vs) Q E s := by
  obtain ⟨hh, gg, dd, tt, os⟩ := s
  have X : g.K.In hh := G.K.keeps hb
  refine wpAny_call (make_core (makes_of X M.makes) (looks_findIn X M.init) (fun self => bind_fn X self M.isfn) (.inl rfl) ?_)
  have fr : ∀ (h : Heap), h.get? h.objs.size = none := fun h => by
    cases e : h.get? h.objs.size with
    | none => rfl
    | some o => exact absurd (Heap.lt_size e) (Nat.lt_irrefl _)
  have k1 : ∀ b o, hh.get? b = some o → (hh.push emptyDict).get? b = some o := fun b o e => Heap.get?_push_of_some _ e
  have k2 : ∀ b o, (hh.push emptyDict).get? b = some o → ((hh.push emptyDict).push (instObj C hh.objs.size)).get? b = some o := fun b o e => Heap.get?_push_of_some _ e
  generalize hB : A.under (.builtin "type.__call__" ⟨.ref C :: vs, []⟩) = B
  have hBd : B.depth = A.depth + 1 := by rw [← hB]; rfl
  have hBu : B.units = A.units + 1 := by rw [← hB]; rfl
  have hBh : B.handled = A.handled := by rw [← hB]; rfl
  obtain ⟨o, ho, hdata⟩ := M.obj
  refine codeAny_call_cells (fd := fd) (binds := names.zip (.ref (hh.objs.size + 1) :: vs)) (by have := hA.2.1; rw [hBd]; omega) (k2 _ _ (k1 _ _ (X _ _ ho))) hdata ((G.nolimit.keeps hb).keeps fun b o e => k2 b o (k1 b o e)) (codeRec_of (X.keeps fun b o e => k2 b o (k1 b o e)) M.code) hbody (hbind _) M.clo ?_ ?_ M.co M.gen M.kind
  · intro p hp
    obtain ⟨a, b⟩ := p
    exact .inl (hloc a (List.of_mem_zip hp).1)
  · intro s₁ Y
    obtain ⟨⟨h1, tk1, rfl⟩, ns, keep, above⟩ := id Y.toInCall
    generalize hen : callEnvC fd ((hh.push emptyDict).push (instObj C hh.objs.size)).objs.size fI = env at *
    have hsz : ((hh.push emptyDict).push (instObj C hh.objs.size)).objs.size = hh.objs.size + 2 := by rw [Heap.size_push, Heap.size_push]
    have hloc' : env.locals = ((hh.push emptyDict).push (instObj C hh.objs.size)).objs.size := by rw [← hen]; rfl
    have hL : @Eq Nat env.locals (hh.objs.size + 2) := hloc'.trans hsz
    have nes : @Ne Nat (hh.objs.size + 1) (hh.objs.size) := by omega
    refine wpAny_mono (k env (hh.objs.size + 1) hh.objs.size h1 tk1 _ (by rw [← hen]; rfl) ⟨ns, fun b o e => keep b o (k2 b o (k1 b o e)), ?_⟩ ?_ nes ?_ (B.deeper env) ⟨hBh.trans hA.1, ?_, ?_⟩) (fun f s' q => ?_) fun _ _ f => f.elim
    · show @LE.le Nat instLENat hh.objs.size env.locals; omega
    · intro p hp
      simp only [List.mem_cons, List.not_mem_nil, or_false] at hp
      rcases hp with rfl | rfl
      · refine ⟨keep _ _ ?_, ?_, ?_⟩
        · have := Heap.get?_push_size (hh.push emptyDict) (o := instObj C hh.objs.size) rfl
          rw [Heap.size_push] at this
          exact this
        · intro q; have q' : @Eq Nat (hh.objs.size + 1) env.locals := q; omega
        · cases e : hh.get? (hh.objs.size + 1) with
          | none => rfl
          | some o => have := Heap.lt_size e; have h1 : @LT.lt Nat instLTNat (hh.objs.size + 1) hh.objs.size := this; omega
      · refine ⟨keep _ _ (k2 _ _ (Heap.get?_push_size _ rfl)), ?_, fr hh⟩
        intro q; have q' : @Eq Nat (hh.objs.size) env.locals := q; omega
    · intro n hn
      rw [← hen]; rfl
    · have := hA.2.1; show B.depth + 1 + l < _; omega
    · have := hA.2.2; show B.units + 3 + 4 * l + 300 < _; omega
    · obtain ⟨q1, q2⟩ := q
      exact ⟨q1, q2⟩
end Mine
end

section
open PySem PySem.W PyProof.Rows PySem.Calls PySem.Spec PyProof.V PySem.SeqAt
set_option maxRecDepth 100000
set_option linter.unusedVariables false
namespace Mine
variable {g : Gd} {l : Nat} {nm : Nms}

theorem ld_local {env : Env} {fd : FuncData} {fI : Addr} {n : PySem.Str} {v : Value} {m : PySem.Str → Option Value} {A : Around} {M : Model} {s : Shared} {pos : Pos} {Q : Value → Shared → Prop} {E : Value → Shared → Prop} (he : env = callEnvC fd env.locals fI) (hk : fd.scope.kind = .function)
    (hl : fd.scope.names.lookup n = some .local) (hn : s.heap.Ns env.locals m) (hm : m n = some v) (h : Q v s) (hd : (n == ("__debug__" : PySem.Str)) = false := by decide +kernel) : wpAny M A (eval (.Name n pos) env) Q E s := by
  have h1 : env.scope.kind = .function := by rw [he]; exact hk
  have h2 : env.kindOf n = some .local := by rw [he]; exact hl
  exact wpAny_Name (wpAny_loadName_local h1 h2 hn hm h) hd

theorem ne_sp : (PySem.Str.ofString "self" = PySem.Str.ofString "places") = False := by simp only [eq_iff_iff, iff_false]; decide +kernel
theorem ne_st : (PySem.Str.ofString "self" = PySem.Str.ofString "text") = False := by simp only [eq_iff_iff, iff_false]; decide +kernel
theorem ne_so : (PySem.Str.ofString "self" = PySem.Str.ofString "point") = False := by simp only [eq_iff_iff, iff_false]; decide +kernel
theorem ne_to : (PySem.Str.ofString "text" = PySem.Str.ofString "point") = False := by simp only [eq_iff_iff, iff_false]; decide +kernel

theorem fit_contract (G : GOK g) {name : PySem.Str} {fI : Addr} {fd : FuncData} {p1 p2 p3 p4 : Pos} (M : MadeF g g.CF fI fd) (hm : g.mg name = some (.ref g.CF)) (hk : keepIn g.K (.ref g.CF) = true)
    (hbody : fd.body = .stmts [.Assign [.Attribute (.Name "self" p1) "places" p2] (.Name "places" p3) p4]) (h1 : fd.scope.names.lookup ("self" : PySem.Str) = some .local) (h2 : fd.scope.names.lookup ("places" : PySem.Str) = some .local)
    (ht : takerIn g.K g.CF "places" = some none) (hbind : ∀ x v, bindArgs fd ⟨[.ref x, v], []⟩ = pure [(("self" : PySem.Str), .ref x), (("places" : PySem.Str), v)]) : Contract g name sp_Fit (l + 2) := by
  refine ⟨g.CF, hm, hk, ?_⟩
  intro A s O ts vs d d' t Q E hA hb hD dO pres ob dk rs e kq
  unfold sp_Fit at e
  split at e
  · rename_i p
    cases e
    unfold Reps at rs
    obtain ⟨v, ws, rfl, rv, rws⟩ := rs
    unfold Reps at rws
    subst rws
    refine mk_core (l := l) (names := [("self" : PySem.Str), ("places" : PySem.Str)]) G (name := name) M hbody (by intro n hn; simp only [List.mem_cons, List.not_mem_nil, or_false] at hn; rcases hn with rfl | rfl <;> assumption) (fun x => hbind x v) hA hb ?_
    intro env x dx h₁ tk m he F N ne hml A' hA'
    have m1 : m ("self" : PySem.Str) = some (.ref x) := by rw [hml _ h1]; simp [bindL, h1, h2, ne_sp]
    have m2 : m ("places" : PySem.Str) = some v := by rw [hml _ h2]; simp [bindL, h1, h2]
    refine wpAny_execs_cons (plainObj_wpAny_Assign_Attribute (ld_local he M.kind h2 F.ns m2 (ld_local he M.kind h1 F.ns m1 ?_)))
    refine set_dict F (G.K.keeps hb) N (InstAt.of_news (C := g.CF) (dx := dx) N (.head _) (.tail _ (.head _))) rfl M.setattr M.over ht M.hasD rfl rfl (Upd.tail ne (Upd.head (by simp))) (by simp [putL]) fun h2 F2 N2 => ?_
    refine wpAny_execs_nil ⟨rfl, ?_⟩
    have a1 := N2 _ (.head _)
    have a2 := N2 _ (.tail _ (.head _))
    have nO : ∀ b, s.heap.get? b = none → b ∉ O := fun b hb q => by obtain ⟨o, ho⟩ := pres b q; rw [hb] at ho; cases ho
    have tr : ∀ b o, b ∉ O → s.heap.get? b = some o → h2.get? b = some o ∧ b ∉ O := fun b o hb e => ⟨F2.keep b o e, hb⟩
    refine kq _ h2 _ ?_ (fun b o _ e => F2.keep b o e) (dk.conv (fun o e => F2.keep _ o e) tr)
    unfold Rep
    exact ⟨x, dx, _, _, v, rfl, nO _ a1.2.2, nO _ a2.2.2, a1.1, a2.1, rfl, rep_handed rv, rv.conv tr⟩
  · cases e

theorem mrg_contract (G : GOK g) {name : PySem.Str} {fI : Addr} {fd : FuncData} {p1 p2 p3 p4 p5 p6 p7 p8 : Pos} (M : MadeF g g.CM fI fd) (hm : g.mg name = some (.ref g.CM)) (hk : keepIn g.K (.ref g.CM) = true)
    (hbody : fd.body = .stmts [.Assign [.Attribute (.Name "self" p1) "text" p2] (.Name "text" p3) p4, .Assign [.Attribute (.Name "self" p5) "point" p6] (.Name "point" p7) p8])
    (h1 : fd.scope.names.lookup ("self" : PySem.Str) = some .local) (h2 : fd.scope.names.lookup ("text" : PySem.Str) = some .local) (h3 : fd.scope.names.lookup ("point" : PySem.Str) = some .local)
    (ht : takerIn g.K g.CM "text" = some none) (ht2 : takerIn g.K g.CM "point" = some none)
    (hbind : ∀ x v u, bindArgs fd ⟨[.ref x, v, u], []⟩ = pure [(("self" : PySem.Str), .ref x), (("text" : PySem.Str), v), (("point" : PySem.Str), u)]) : Contract g name sp_Merged (l + 2) := by
  refine ⟨g.CM, hm, hk, ?_⟩
  intro A s O ts vs d d' t Q E hA hb hD dO pres ob dk rs e kq
  unfold sp_Merged at e
  split at e
  · rename_i tx p
    cases e
    unfold Reps at rs
    obtain ⟨v, ws, rfl, rv, rws⟩ := rs
    unfold Reps at rws
    obtain ⟨u, ws, rfl, ru, rws⟩ := rws
    unfold Reps at rws
    subst rws
    refine mk_core (l := l) (names := [("self" : PySem.Str), ("text" : PySem.Str), ("point" : PySem.Str)]) G (name := name) M hbody (by intro n hn; simp only [List.mem_cons, List.not_mem_nil, or_false] at hn; rcases hn with rfl | rfl | rfl <;> assumption) (fun x => hbind x v u) hA hb ?_
    intro env x dx h₁ tk m he F N ne hml A' hA'
    have m1 : m ("self" : PySem.Str) = some (.ref x) := by rw [hml _ h1]; simp [bindL, h1, h2, h3, ne_st, ne_so, ne_to]
    have m2 : m ("text" : PySem.Str) = some v := by rw [hml _ h2]; simp [bindL, h1, h2, h3, ne_st, ne_so, ne_to]
    have m3 : m ("point" : PySem.Str) = some u := by rw [hml _ h3]; simp [bindL, h1, h2, h3]
    refine wpAny_execs_cons (plainObj_wpAny_Assign_Attribute (ld_local he M.kind h2 F.ns m2 (ld_local he M.kind h1 F.ns m1 ?_)))
    refine set_dict F (G.K.keeps hb) N (InstAt.of_news (C := g.CM) (dx := dx) N (.head _) (.tail _ (.head _))) rfl M.setattr M.over ht M.hasD rfl rfl (Upd.tail ne (Upd.head (by simp))) (by simp [putL]) fun h2' F2 N2 => ?_
    refine wpAny_execs_cons (plainObj_wpAny_Assign_Attribute (ld_local he M.kind h3 F2.ns m3 (ld_local he M.kind h1 F2.ns m1 ?_)))
    refine set_dict F2 (G.K.keeps hb) N2 (InstAt.of_news (C := g.CM) (dx := dx) N2 (.head _) (.tail _ (.head _))) rfl M.setattr M.over ht2 M.hasD rfl rfl (Upd.tail ne (Upd.head (by simp))) (by simp [putL]; split <;> simp) fun h2 F2 N2 => ?_
    refine wpAny_execs_nil ⟨rfl, ?_⟩
    have a1 := N2 _ (.head _)
    have a2 := N2 _ (.tail _ (.head _))
    have nO : ∀ b, s.heap.get? b = none → b ∉ O := fun b hb q => by obtain ⟨o, ho⟩ := pres b q; rw [hb] at ho; cases ho
    have tr : ∀ b o, b ∉ O → s.heap.get? b = some o → h2.get? b = some o ∧ b ∉ O := fun b o hb e => ⟨F2.keep b o e, hb⟩
    refine kq _ h2 _ ?_ (fun b o _ e => F2.keep b o e) (dk.conv (fun o e => F2.keep _ o e) tr)
    unfold Rep
    exact ⟨x, dx, _, _, v, u, rfl, nO _ a1.2.2, nO _ a2.2.2, a1.1, a2.1, rfl, rfl, rep_handed rv, rep_handed ru, rv.conv tr, ru.conv tr⟩
  · cases e
end Mine
end

section
open PySem PySem.W PyProof.Rows
set_option maxRecDepth 100000
namespace Mine
noncomputable section
/-! the head: the heap that the text's top makes, in four runs, and the text without its rows that set the module's name -/
noncomputable def nthS : List Stmt → Nat → Stmt
  | [], _ => .Pass ⟨0, 0, 0, 0⟩
  | s :: _, 0 => s
  | _ :: r, n + 1 => nthS r n
noncomputable def inCls : Stmt → List Stmt
  | .ClassDef _ _ _ b _ _ _ _ _ _ _ => b
  | _ => []
noncomputable def fnO (s : Stmt) (q : PySem.Str) (m c : Value) : Obj := match s with
  | .FunctionDef n a b _ _ _ sc _ _ _ => { cls := .type "function", data := .func { name := n, qualname := q, params := a, body := .stmts b, scope := sc, globals := 3, closure := [], defaults := .none, kwdefaults := .none, pyModule := m, code := c } }
  | _ => { cls := .none, data := .plain }
noncomputable def fnN (s : Stmt) (q : PySem.Str) : Obj := match s with
  | .FunctionDef n a b _ _ _ sc _ _ _ => { cls := .none, data := .func { name := n, qualname := q, params := a, body := .stmts b, scope := sc, globals := 0, closure := [], defaults := .none, kwdefaults := .none } }
  | _ => { cls := .none, data := .plain }
noncomputable def pw0 : Program := PySem.Challenge.pw_rg0134_01
noncomputable def main0 : List Stmt := pw0.main.body
noncomputable def view0 : Program := { pw0 with main := { pw0.main with body := (main0.drop 1).take 2 ++ ((main0.drop 4).take 1 ++ ((main0.drop 6).take 24 ++ main0.drop 31)) } }
noncomputable def d3 (P : Params) (nm : Value) : List DictEntry :=
  { hash := PyData.keyHash P (Str.ofString "__name__"), key := Value.str (Str.ofString "__name__") 165, val := nm } ::
  { hash := PyData.keyHash P (Str.ofString "__doc__"), key := Value.str (Str.ofString "__doc__") 166, val := Value.none } ::
  { hash := PyData.keyHash P (Str.ofString "__package__"), key := Value.str (Str.ofString "__package__") 167, val := Value.none } ::
  { hash := PyData.keyHash P (Str.ofString "__loader__"), key := Value.str (Str.ofString "__loader__") 168, val := Value.builtin "__main__.__loader__#opaque" } ::
  { hash := PyData.keyHash P (Str.ofString "__spec__"), key := Value.str (Str.ofString "__spec__") 169, val := Value.none } ::
  { hash := PyData.keyHash P (Str.ofString "__annotations__"), key := Value.str (Str.ofString "__annotations__") 170, val := Value.ref 6 } ::
  { hash := PyData.keyHash P (Str.ofString "__builtins__"), key := Value.str (Str.ofString "__builtins__") 171, val := Value.ref 4 } ::
  { hash := PyData.keyHash P (Str.ofString "__file__"), key := Value.str (Str.ofString "__file__") 173, val := Value.str (Str.ofString "/claim/cut.py") 172 } ::
  { hash := PyData.keyHash P (Str.ofString "__cached__"), key := Value.str (Str.ofString "__cached__") 174, val := Value.none } ::
  { hash := PyData.keyHash P (Str.ofString "downcase"), key := Value.str (Str.ofString "downcase") 195, val := Value.ref 21 } ::
  { hash := PyData.keyHash P (Str.ofString "fold"), key := Value.str (Str.ofString "fold") 202, val := Value.ref 28 } ::
  { hash := PyData.keyHash P (Str.ofString "folded"), key := Value.str (Str.ofString "folded") 210, val := Value.ref 33 } ::
  { hash := PyData.keyHash P (Str.ofString "ANY"), key := Value.str (Str.ofString "ANY") 214, val := Value.int 0 213 } ::
  { hash := PyData.keyHash P (Str.ofString "WORDS"), key := Value.str (Str.ofString "WORDS") 216, val := Value.int 1 215 } ::
  { hash := PyData.keyHash P (Str.ofString "POINT"), key := Value.str (Str.ofString "POINT") 218, val := Value.int 2 217 } ::
  { hash := PyData.keyHash P (Str.ofString "DELIMITERS"), key := Value.str (Str.ofString "DELIMITERS") 220, val := Value.str (Str.ofString "-_./: ") 219 } ::
  { hash := PyData.keyHash P (Str.ofString "is_gap"), key := Value.str (Str.ofString "is_gap") 227, val := Value.ref 40 } ::
  { hash := PyData.keyHash P (Str.ofString "tidied"), key := Value.str (Str.ofString "tidied") 236, val := Value.ref 47 } ::
  { hash := PyData.keyHash P (Str.ofString "basic_pattern"), key := Value.str (Str.ofString "basic_pattern") 244, val := Value.ref 54 } ::
  { hash := PyData.keyHash P (Str.ofString "substring_pattern"), key := Value.str (Str.ofString "substring_pattern") 252, val := Value.ref 61 } ::
  { hash := PyData.keyHash P (Str.ofString "partial_pattern"), key := Value.str (Str.ofString "partial_pattern") 262, val := Value.ref 68 } ::
  { hash := PyData.keyHash P (Str.ofString "initials_pattern"), key := Value.str (Str.ofString "initials_pattern") 268, val := Value.ref 73 } ::
  { hash := PyData.keyHash P (Str.ofString "flex_pattern"), key := Value.str (Str.ofString "flex_pattern") 278, val := Value.ref 80 } ::
  { hash := PyData.keyHash P (Str.ofString "pattern_of"), key := Value.str (Str.ofString "pattern_of") 287, val := Value.ref 87 } ::
  { hash := PyData.keyHash P (Str.ofString "found_from"), key := Value.str (Str.ofString "found_from") 300, val := Value.ref 94 } ::
  { hash := PyData.keyHash P (Str.ofString "Fit"), key := Value.str (Str.ofString "Fit") 329, val := Value.ref 111 } ::
  { hash := PyData.keyHash P (Str.ofString "word_end"), key := Value.str (Str.ofString "word_end") 338, val := Value.ref 122 } ::
  { hash := PyData.keyHash P (Str.ofString "fit_of"), key := Value.str (Str.ofString "fit_of") 358, val := Value.ref 129 } ::
  { hash := PyData.keyHash P (Str.ofString "fitting"), key := Value.str (Str.ofString "fitting") 364, val := Value.ref 134 } ::
  { hash := PyData.keyHash P (Str.ofString "first_style"), key := Value.str (Str.ofString "first_style") 378, val := Value.ref 141 } ::
  { hash := PyData.keyHash P (Str.ofString "common_head"), key := Value.str (Str.ofString "common_head") 384, val := Value.ref 146 } ::
  { hash := PyData.keyHash P (Str.ofString "common_tail"), key := Value.str (Str.ofString "common_tail") 390, val := Value.ref 151 } ::
  { hash := PyData.keyHash P (Str.ofString "Merged"), key := Value.str (Str.ofString "Merged") 421, val := Value.ref 168 } ::
  { hash := PyData.keyHash P (Str.ofString "gap_texts"), key := Value.str (Str.ofString "gap_texts") 434, val := Value.ref 179 } ::
  { hash := PyData.keyHash P (Str.ofString "merged"), key := Value.str (Str.ofString "merged") 440, val := Value.ref 184 } ::
  { hash := PyData.keyHash P (Str.ofString "completed"), key := Value.str (Str.ofString "completed") 446, val := Value.ref 189 } ::
  { hash := PyData.keyHash P (Str.ofString "_law_draw"), key := Value.str (Str.ofString "_law_draw") 456, val := Value.ref 196 } ::
  { hash := PyData.keyHash P (Str.ofString "_law_signs"), key := Value.str (Str.ofString "_law_signs") 462, val := Value.ref 201 } ::
  { hash := PyData.keyHash P (Str.ofString "_law_cased"), key := Value.str (Str.ofString "_law_cased") 468, val := Value.ref 206 } ::
  { hash := PyData.keyHash P (Str.ofString "_law_even"), key := Value.str (Str.ofString "_law_even") 477, val := Value.ref 213 } ::
  { hash := PyData.keyHash P (Str.ofString "_law_head"), key := Value.str (Str.ofString "_law_head") 483, val := Value.ref 218 } ::
  { hash := PyData.keyHash P (Str.ofString "_law_made"), key := Value.str (Str.ofString "_law_made") 498, val := Value.ref 225 } ::
  { hash := PyData.keyHash P (Str.ofString "_law_common"), key := Value.str (Str.ofString "_law_common") 504, val := Value.ref 230 } ::
  { hash := PyData.keyHash P (Str.ofString "law"), key := Value.str (Str.ofString "law") 510, val := Value.ref 235 } :: []
noncomputable def o3 (P : Params) (nm : Value) (n : Nat) : Obj := { cls := Value.type "dict", data := Data.dict ⟨(d3 P nm).take n⟩ n }
noncomputable def f12 : List Value := Value.int 2 0 :: Value.int 0 0 :: Value.ref 20 :: Value.int 6 0 :: Value.int 0 0 :: Value.ref 27 :: Value.int 9 0 :: Value.int 0 0 :: Value.ref 32 :: Value.int 16 0 :: Value.int 0 0 :: Value.ref 39 :: Value.int 18 0 :: Value.int 0 0 :: Value.ref 46 :: Value.int 31 0 :: Value.int 0 0 :: Value.ref 53 :: Value.int 33 0 :: Value.int 0 0 :: Value.ref 60 :: Value.int 35 0 :: Value.int 0 0 :: Value.ref 67 :: Value.int 47 0 :: Value.int 0 0 :: Value.ref 72 :: Value.int 54 0 :: Value.int 0 0 :: Value.ref 79 :: Value.int 60 0 :: Value.int 0 0 :: Value.ref 86 :: Value.int 72 0 :: Value.int 0 0 :: Value.ref 93 :: Value.int 78 0 :: Value.int 0 0 :: Value.ref 100 :: Value.int 82 0 :: Value.int 0 0 :: Value.ref 121 :: Value.int 87 0 :: Value.int 0 0 :: Value.ref 128 :: Value.int 116 0 :: Value.int 0 0 :: Value.ref 133 :: Value.int 118 0 :: Value.int 0 0 :: Value.ref 140 :: Value.int 126 0 :: Value.int 0 0 :: Value.ref 145 :: Value.int 132 0 :: Value.int 0 0 :: Value.ref 150 :: Value.int 134 0 :: Value.int 0 0 :: Value.ref 157 :: Value.int 139 0 :: Value.int 0 0 :: Value.ref 178 :: Value.int 145 0 :: Value.int 0 0 :: Value.ref 183 :: Value.int 167 0 :: Value.int 0 0 :: Value.ref 188 :: Value.int 175 0 :: Value.int 0 0 :: Value.ref 195 :: Value.int 180 0 :: Value.int 0 0 :: Value.ref 200 :: Value.int 182 0 :: Value.int 0 0 :: Value.ref 205 :: Value.int 186 0 :: Value.int 0 0 :: Value.ref 212 :: Value.int 188 0 :: Value.int 0 0 :: Value.ref 217 :: Value.int 194 0 :: Value.int 0 0 :: Value.ref 224 :: Value.int 203 0 :: Value.int 0 0 :: Value.ref 229 :: Value.int 220 0 :: Value.int 0 0 :: Value.ref 234 :: []
noncomputable def o12 (n : Nat) : Obj := { cls := Value.none, data := Data.fields ⟨f12.take n⟩ }
noncomputable def ob_3 (P : Params) : Obj := o3 P (Value.str (Str.ofString "law_rg0134_01") 447) 44
noncomputable def ob_20 (_ : Params) : Obj := { cls := Value.type "code", data := Data.fields #[Value.str (Str.ofString "downcase") 189, Value.str (Str.ofString "downcase") 190, Value.str (Str.ofString "/claim/cut.py") 191, Value.int 2 0, Value.int 1 0, Value.int 0 0, Value.int 0 0, Value.int 3 0, Value.ref 15, Value.bool true, Value.int 181 0, Value.ref 16, Value.none, Value.ref 17, Value.ref 18, Value.ref 19, Value.int 193 0, Value.int 2 0, Value.str (Str.ofString "/claim/cut.py") 194] }
noncomputable def ob_21 (_ : Params) : Obj := fnO (nthS main0 1) "downcase" (Value.str (Str.ofString "emacs.casefold") 187) (Value.ref 20)
noncomputable def ob_27 (_ : Params) : Obj := { cls := Value.type "code", data := Data.fields #[Value.str (Str.ofString "fold") 196, Value.str (Str.ofString "fold") 197, Value.str (Str.ofString "/claim/cut.py") 198, Value.int 6 0, Value.int 1 0, Value.int 0 0, Value.int 0 0, Value.int 3 0, Value.ref 22, Value.bool true, Value.int 181 0, Value.ref 23, Value.none, Value.ref 24, Value.ref 25, Value.ref 26, Value.int 200 0, Value.int 6 0, Value.str (Str.ofString "/claim/cut.py") 201] }
noncomputable def ob_28 (_ : Params) : Obj := fnO (nthS main0 2) "fold" (Value.str (Str.ofString "emacs.casefold") 187) (Value.ref 27)
noncomputable def ob_32 (_ : Params) : Obj := { cls := Value.type "code", data := Data.fields #[Value.str (Str.ofString "folded") 205, Value.str (Str.ofString "folded") 206, Value.str (Str.ofString "/claim/cut.py") 207, Value.int 9 0, Value.int 2 0, Value.int 0 0, Value.int 0 0, Value.int 3 0, Value.ref 29, Value.bool true, Value.int 181 0, Value.ref 30, Value.none, Value.none, Value.none, Value.ref 31, Value.int 208 0, Value.int 9 0, Value.str (Str.ofString "/claim/cut.py") 209] }
noncomputable def ob_33 (_ : Params) : Obj := fnO (nthS main0 4) "folded" (Value.str (Str.ofString "emacs.completion") 203) (Value.ref 32)
noncomputable def ob_39 (_ : Params) : Obj := { cls := Value.type "code", data := Data.fields #[Value.str (Str.ofString "is_gap") 221, Value.str (Str.ofString "is_gap") 222, Value.str (Str.ofString "/claim/cut.py") 223, Value.int 16 0, Value.int 1 0, Value.int 0 0, Value.int 0 0, Value.int 3 0, Value.ref 34, Value.bool true, Value.int 181 0, Value.ref 35, Value.none, Value.ref 36, Value.ref 37, Value.ref 38, Value.int 225 0, Value.int 16 0, Value.str (Str.ofString "/claim/cut.py") 226] }
noncomputable def ob_40 (_ : Params) : Obj := fnO (nthS main0 10) "is_gap" (Value.str (Str.ofString "emacs.styles") 211) (Value.ref 39)
noncomputable def ob_46 (_ : Params) : Obj := { cls := Value.type "code", data := Data.fields #[Value.str (Str.ofString "tidied") 228, Value.str (Str.ofString "tidied") 229, Value.str (Str.ofString "/claim/cut.py") 230, Value.int 18 0, Value.int 1 0, Value.int 0 0, Value.int 0 0, Value.int 3 0, Value.ref 41, Value.bool true, Value.int 181 0, Value.ref 42, Value.none, Value.ref 43, Value.ref 44, Value.ref 45, Value.int 234 0, Value.int 18 0, Value.str (Str.ofString "/claim/cut.py") 235] }
noncomputable def ob_47 (_ : Params) : Obj := fnO (nthS main0 11) "tidied" (Value.str (Str.ofString "emacs.styles") 211) (Value.ref 46)
noncomputable def ob_53 (_ : Params) : Obj := { cls := Value.type "code", data := Data.fields #[Value.str (Str.ofString "basic_pattern") 237, Value.str (Str.ofString "basic_pattern") 238, Value.str (Str.ofString "/claim/cut.py") 239, Value.int 31 0, Value.int 2 0, Value.int 0 0, Value.int 0 0, Value.int 3 0, Value.ref 48, Value.bool true, Value.int 181 0, Value.ref 49, Value.none, Value.ref 50, Value.ref 51, Value.ref 52, Value.int 242 0, Value.int 31 0, Value.str (Str.ofString "/claim/cut.py") 243] }
noncomputable def ob_54 (_ : Params) : Obj := fnO (nthS main0 12) "basic_pattern" (Value.str (Str.ofString "emacs.styles") 211) (Value.ref 53)
noncomputable def ob_60 (_ : Params) : Obj := { cls := Value.type "code", data := Data.fields #[Value.str (Str.ofString "substring_pattern") 245, Value.str (Str.ofString "substring_pattern") 246, Value.str (Str.ofString "/claim/cut.py") 247, Value.int 33 0, Value.int 2 0, Value.int 0 0, Value.int 0 0, Value.int 3 0, Value.ref 55, Value.bool true, Value.int 181 0, Value.ref 56, Value.none, Value.ref 57, Value.ref 58, Value.ref 59, Value.int 250 0, Value.int 33 0, Value.str (Str.ofString "/claim/cut.py") 251] }
noncomputable def ob_61 (_ : Params) : Obj := fnO (nthS main0 13) "substring_pattern" (Value.str (Str.ofString "emacs.styles") 211) (Value.ref 60)
noncomputable def ob_67 (_ : Params) : Obj := { cls := Value.type "code", data := Data.fields #[Value.str (Str.ofString "partial_pattern") 253, Value.str (Str.ofString "partial_pattern") 254, Value.str (Str.ofString "/claim/cut.py") 255, Value.int 35 0, Value.int 2 0, Value.int 0 0, Value.int 0 0, Value.int 3 0, Value.ref 62, Value.bool true, Value.int 181 0, Value.ref 63, Value.none, Value.ref 64, Value.ref 65, Value.ref 66, Value.int 260 0, Value.int 35 0, Value.str (Str.ofString "/claim/cut.py") 261] }
noncomputable def ob_68 (_ : Params) : Obj := fnO (nthS main0 14) "partial_pattern" (Value.str (Str.ofString "emacs.styles") 211) (Value.ref 67)
noncomputable def ob_72 (_ : Params) : Obj := { cls := Value.type "code", data := Data.fields #[Value.str (Str.ofString "initials_pattern") 263, Value.str (Str.ofString "initials_pattern") 264, Value.str (Str.ofString "/claim/cut.py") 265, Value.int 47 0, Value.int 2 0, Value.int 0 0, Value.int 0 0, Value.int 3 0, Value.ref 69, Value.bool true, Value.int 181 0, Value.ref 70, Value.none, Value.none, Value.none, Value.ref 71, Value.int 266 0, Value.int 47 0, Value.str (Str.ofString "/claim/cut.py") 267] }
noncomputable def ob_73 (_ : Params) : Obj := fnO (nthS main0 15) "initials_pattern" (Value.str (Str.ofString "emacs.styles") 211) (Value.ref 72)
noncomputable def ob_79 (_ : Params) : Obj := { cls := Value.type "code", data := Data.fields #[Value.str (Str.ofString "flex_pattern") 269, Value.str (Str.ofString "flex_pattern") 270, Value.str (Str.ofString "/claim/cut.py") 271, Value.int 54 0, Value.int 2 0, Value.int 0 0, Value.int 0 0, Value.int 3 0, Value.ref 74, Value.bool true, Value.int 181 0, Value.ref 75, Value.none, Value.ref 76, Value.ref 77, Value.ref 78, Value.int 276 0, Value.int 54 0, Value.str (Str.ofString "/claim/cut.py") 277] }
noncomputable def ob_80 (_ : Params) : Obj := fnO (nthS main0 16) "flex_pattern" (Value.str (Str.ofString "emacs.styles") 211) (Value.ref 79)
noncomputable def ob_86 (_ : Params) : Obj := { cls := Value.type "code", data := Data.fields #[Value.str (Str.ofString "pattern_of") 279, Value.str (Str.ofString "pattern_of") 280, Value.str (Str.ofString "/claim/cut.py") 281, Value.int 60 0, Value.int 3 0, Value.int 0 0, Value.int 0 0, Value.int 3 0, Value.ref 81, Value.bool true, Value.int 181 0, Value.ref 82, Value.none, Value.ref 83, Value.ref 84, Value.ref 85, Value.int 285 0, Value.int 60 0, Value.str (Str.ofString "/claim/cut.py") 286] }
noncomputable def ob_87 (_ : Params) : Obj := fnO (nthS main0 17) "pattern_of" (Value.str (Str.ofString "emacs.styles") 211) (Value.ref 86)
noncomputable def ob_93 (_ : Params) : Obj := { cls := Value.type "code", data := Data.fields #[Value.str (Str.ofString "found_from") 288, Value.str (Str.ofString "found_from") 289, Value.str (Str.ofString "/claim/cut.py") 290, Value.int 72 0, Value.int 5 0, Value.int 0 0, Value.int 0 0, Value.int 3 0, Value.ref 88, Value.bool true, Value.int 181 0, Value.ref 89, Value.none, Value.ref 90, Value.ref 91, Value.ref 92, Value.int 298 0, Value.int 72 0, Value.str (Str.ofString "/claim/cut.py") 299] }
noncomputable def ob_94 (_ : Params) : Obj := fnO (nthS main0 18) "found_from" (Value.str (Str.ofString "emacs.styles") 211) (Value.ref 93)
noncomputable def ob_97 (P : Params) : Obj := { cls := Value.type "dict", data := Data.dict #[{ hash := PyData.keyHash P (Str.ofString "__module__"), key := Value.str (Str.ofString "__module__") 308, val := Value.str (Str.ofString "emacs.styles") 211 }, { hash := PyData.keyHash P (Str.ofString "__qualname__"), key := Value.str (Str.ofString "__qualname__") 310, val := Value.str (Str.ofString "Fit") 309 }, { hash := PyData.keyHash P (Str.ofString "__firstlineno__"), key := Value.str (Str.ofString "__firstlineno__") 312, val := Value.int 78 311 }, { hash := PyData.keyHash P (Str.ofString "__init__"), key := Value.str (Str.ofString "__init__") 320, val := Value.ref 108 }, { hash := PyData.keyHash P (Str.ofString "__static_attributes__"), key := Value.str (Str.ofString "__static_attributes__") 322, val := Value.ref 109 }] 5 }
noncomputable def ob_100 (_ : Params) : Obj := { cls := Value.type "code", data := Data.fields #[Value.str (Str.ofString "Fit") 303, Value.str (Str.ofString "Fit") 304, Value.str (Str.ofString "/claim/cut.py") 305, Value.int 78 0, Value.int 0 0, Value.int 0 0, Value.int 0 0, Value.int 0 0, Value.ref 98, Value.bool false, Value.int 181 0, Value.ref 99, Value.none, Value.none, Value.none, Value.none, Value.int 306 0, Value.int 78 0, Value.str (Str.ofString "/claim/cut.py") 307] }
noncomputable def ob_107 (_ : Params) : Obj := { cls := Value.type "code", data := Data.fields #[Value.str (Str.ofString "__init__") 313, Value.str (Str.ofString "Fit.__init__") 314, Value.str (Str.ofString "/claim/cut.py") 315, Value.int 80 0, Value.int 2 0, Value.int 0 0, Value.int 0 0, Value.int 3 0, Value.ref 102, Value.bool true, Value.int 181 0, Value.ref 103, Value.none, Value.ref 104, Value.ref 105, Value.ref 106, Value.int 318 0, Value.int 80 0, Value.str (Str.ofString "/claim/cut.py") 319] }
noncomputable def ob_108 (_ : Params) : Obj := fnO (nthS (inCls (nthS main0 19)) 0) "Fit.__init__" (Value.str (Str.ofString "emacs.styles") 211) (Value.ref 107)
noncomputable def ob_110 (P : Params) : Obj := { cls := Value.type "dict", data := Data.dict #[{ hash := PyData.keyHash P (Str.ofString "__module__"), key := Value.str (Str.ofString "__module__") 308, val := Value.str (Str.ofString "emacs.styles") 211 }, { hash := PyData.keyHash P (Str.ofString "__firstlineno__"), key := Value.str (Str.ofString "__firstlineno__") 312, val := Value.int 78 311 }, { hash := PyData.keyHash P (Str.ofString "__init__"), key := Value.str (Str.ofString "__init__") 320, val := Value.ref 108 }, { hash := PyData.keyHash P (Str.ofString "__static_attributes__"), key := Value.str (Str.ofString "__static_attributes__") 322, val := Value.ref 109 }, { hash := PyData.keyHash P (Str.ofString "__dict__"), key := Value.str (Str.ofString "__dict__") 324, val := Value.ref 112 }, { hash := PyData.keyHash P (Str.ofString "__weakref__"), key := Value.str (Str.ofString "__weakref__") 326, val := Value.ref 113 }, { hash := PyData.keyHash P (Str.ofString "__doc__"), key := Value.str (Str.ofString "__doc__") 327, val := Value.none }] 4 }
noncomputable def ob_111 (_ : Params) : Obj := { cls := Value.type "type", data := Data.cls { name := Str.ofString "Fit", bases := [Value.type "object"], mro := [Value.ref 111, Value.type "object"], ns := 110, qualname := Str.ofString "Fit" }, slots := #[none, none, some (Value.str (Str.ofString "Fit") 301), some (Value.str (Str.ofString "Fit") 309), some (Value.builtin "object.__new__"), some (Value.bool true)] }
noncomputable def ob_121 (_ : Params) : Obj := { cls := Value.type "code", data := Data.fields #[Value.str (Str.ofString "word_end") 330, Value.str (Str.ofString "word_end") 331, Value.str (Str.ofString "/claim/cut.py") 332, Value.int 82 0, Value.int 2 0, Value.int 0 0, Value.int 0 0, Value.int 3 0, Value.ref 116, Value.bool true, Value.int 181 0, Value.ref 117, Value.none, Value.ref 118, Value.ref 119, Value.ref 120, Value.int 336 0, Value.int 82 0, Value.str (Str.ofString "/claim/cut.py") 337] }
noncomputable def ob_122 (_ : Params) : Obj := fnO (nthS main0 20) "word_end" (Value.str (Str.ofString "emacs.styles") 211) (Value.ref 121)
noncomputable def ob_128 (_ : Params) : Obj := { cls := Value.type "code", data := Data.fields #[Value.str (Str.ofString "fit_of") 339, Value.str (Str.ofString "fit_of") 340, Value.str (Str.ofString "/claim/cut.py") 341, Value.int 87 0, Value.int 3 0, Value.int 0 0, Value.int 0 0, Value.int 3 0, Value.ref 123, Value.bool true, Value.int 181 0, Value.ref 124, Value.none, Value.ref 125, Value.ref 126, Value.ref 127, Value.int 356 0, Value.int 87 0, Value.str (Str.ofString "/claim/cut.py") 357] }
noncomputable def ob_129 (_ : Params) : Obj := fnO (nthS main0 21) "fit_of" (Value.str (Str.ofString "emacs.styles") 211) (Value.ref 128)
noncomputable def ob_133 (_ : Params) : Obj := { cls := Value.type "code", data := Data.fields #[Value.str (Str.ofString "fitting") 359, Value.str (Str.ofString "fitting") 360, Value.str (Str.ofString "/claim/cut.py") 361, Value.int 116 0, Value.int 3 0, Value.int 0 0, Value.int 0 0, Value.int 3 0, Value.ref 130, Value.bool true, Value.int 181 0, Value.ref 131, Value.none, Value.none, Value.none, Value.ref 132, Value.int 362 0, Value.int 116 0, Value.str (Str.ofString "/claim/cut.py") 363] }
noncomputable def ob_134 (_ : Params) : Obj := fnO (nthS main0 22) "fitting" (Value.str (Str.ofString "emacs.styles") 211) (Value.ref 133)
noncomputable def ob_140 (_ : Params) : Obj := { cls := Value.type "code", data := Data.fields #[Value.str (Str.ofString "first_style") 365, Value.str (Str.ofString "first_style") 366, Value.str (Str.ofString "/claim/cut.py") 367, Value.int 118 0, Value.int 5 0, Value.int 0 0, Value.int 0 0, Value.int 3 0, Value.ref 135, Value.bool true, Value.int 181 0, Value.ref 136, Value.none, Value.ref 137, Value.ref 138, Value.ref 139, Value.int 376 0, Value.int 118 0, Value.str (Str.ofString "/claim/cut.py") 377] }
noncomputable def ob_141 (_ : Params) : Obj := fnO (nthS main0 23) "first_style" (Value.str (Str.ofString "emacs.styles") 211) (Value.ref 140)
noncomputable def ob_145 (_ : Params) : Obj := { cls := Value.type "code", data := Data.fields #[Value.str (Str.ofString "common_head") 379, Value.str (Str.ofString "common_head") 380, Value.str (Str.ofString "/claim/cut.py") 381, Value.int 126 0, Value.int 2 0, Value.int 0 0, Value.int 0 0, Value.int 3 0, Value.ref 142, Value.bool true, Value.int 181 0, Value.ref 143, Value.none, Value.none, Value.none, Value.ref 144, Value.int 382 0, Value.int 126 0, Value.str (Str.ofString "/claim/cut.py") 383] }
noncomputable def ob_146 (_ : Params) : Obj := fnO (nthS main0 24) "common_head" (Value.str (Str.ofString "emacs.styles") 211) (Value.ref 145)
noncomputable def ob_150 (_ : Params) : Obj := { cls := Value.type "code", data := Data.fields #[Value.str (Str.ofString "common_tail") 385, Value.str (Str.ofString "common_tail") 386, Value.str (Str.ofString "/claim/cut.py") 387, Value.int 132 0, Value.int 2 0, Value.int 0 0, Value.int 0 0, Value.int 3 0, Value.ref 147, Value.bool true, Value.int 181 0, Value.ref 148, Value.none, Value.none, Value.none, Value.ref 149, Value.int 388 0, Value.int 132 0, Value.str (Str.ofString "/claim/cut.py") 389] }
noncomputable def ob_151 (_ : Params) : Obj := fnO (nthS main0 25) "common_tail" (Value.str (Str.ofString "emacs.styles") 211) (Value.ref 150)
noncomputable def ob_154 (P : Params) : Obj := { cls := Value.type "dict", data := Data.dict #[{ hash := PyData.keyHash P (Str.ofString "__module__"), key := Value.str (Str.ofString "__module__") 398, val := Value.str (Str.ofString "emacs.styles") 211 }, { hash := PyData.keyHash P (Str.ofString "__qualname__"), key := Value.str (Str.ofString "__qualname__") 400, val := Value.str (Str.ofString "Merged") 399 }, { hash := PyData.keyHash P (Str.ofString "__firstlineno__"), key := Value.str (Str.ofString "__firstlineno__") 402, val := Value.int 134 401 }, { hash := PyData.keyHash P (Str.ofString "__init__"), key := Value.str (Str.ofString "__init__") 411, val := Value.ref 165 }, { hash := PyData.keyHash P (Str.ofString "__static_attributes__"), key := Value.str (Str.ofString "__static_attributes__") 414, val := Value.ref 166 }] 5 }
noncomputable def ob_157 (_ : Params) : Obj := { cls := Value.type "code", data := Data.fields #[Value.str (Str.ofString "Merged") 393, Value.str (Str.ofString "Merged") 394, Value.str (Str.ofString "/claim/cut.py") 395, Value.int 134 0, Value.int 0 0, Value.int 0 0, Value.int 0 0, Value.int 0 0, Value.ref 155, Value.bool false, Value.int 181 0, Value.ref 156, Value.none, Value.none, Value.none, Value.none, Value.int 396 0, Value.int 134 0, Value.str (Str.ofString "/claim/cut.py") 397] }
noncomputable def ob_164 (_ : Params) : Obj := { cls := Value.type "code", data := Data.fields #[Value.str (Str.ofString "__init__") 403, Value.str (Str.ofString "Merged.__init__") 404, Value.str (Str.ofString "/claim/cut.py") 405, Value.int 136 0, Value.int 3 0, Value.int 0 0, Value.int 0 0, Value.int 3 0, Value.ref 159, Value.bool true, Value.int 181 0, Value.ref 160, Value.none, Value.ref 161, Value.ref 162, Value.ref 163, Value.int 409 0, Value.int 136 0, Value.str (Str.ofString "/claim/cut.py") 410] }
noncomputable def ob_165 (_ : Params) : Obj := fnO (nthS (inCls (nthS main0 26)) 0) "Merged.__init__" (Value.str (Str.ofString "emacs.styles") 211) (Value.ref 164)
noncomputable def ob_167 (P : Params) : Obj := { cls := Value.type "dict", data := Data.dict #[{ hash := PyData.keyHash P (Str.ofString "__module__"), key := Value.str (Str.ofString "__module__") 398, val := Value.str (Str.ofString "emacs.styles") 211 }, { hash := PyData.keyHash P (Str.ofString "__firstlineno__"), key := Value.str (Str.ofString "__firstlineno__") 402, val := Value.int 134 401 }, { hash := PyData.keyHash P (Str.ofString "__init__"), key := Value.str (Str.ofString "__init__") 411, val := Value.ref 165 }, { hash := PyData.keyHash P (Str.ofString "__static_attributes__"), key := Value.str (Str.ofString "__static_attributes__") 414, val := Value.ref 166 }, { hash := PyData.keyHash P (Str.ofString "__dict__"), key := Value.str (Str.ofString "__dict__") 416, val := Value.ref 169 }, { hash := PyData.keyHash P (Str.ofString "__weakref__"), key := Value.str (Str.ofString "__weakref__") 418, val := Value.ref 170 }, { hash := PyData.keyHash P (Str.ofString "__doc__"), key := Value.str (Str.ofString "__doc__") 419, val := Value.none }] 4 }
noncomputable def ob_168 (_ : Params) : Obj := { cls := Value.type "type", data := Data.cls { name := Str.ofString "Merged", bases := [Value.type "object"], mro := [Value.ref 168, Value.type "object"], ns := 167, qualname := Str.ofString "Merged" }, slots := #[none, none, some (Value.str (Str.ofString "Merged") 391), some (Value.str (Str.ofString "Merged") 399), some (Value.builtin "object.__new__"), some (Value.bool true)] }
noncomputable def ob_178 (_ : Params) : Obj := { cls := Value.type "code", data := Data.fields #[Value.str (Str.ofString "gap_texts") 422, Value.str (Str.ofString "gap_texts") 423, Value.str (Str.ofString "/claim/cut.py") 424, Value.int 139 0, Value.int 4 0, Value.int 0 0, Value.int 0 0, Value.int 3 0, Value.ref 173, Value.bool true, Value.int 181 0, Value.ref 174, Value.none, Value.ref 175, Value.ref 176, Value.ref 177, Value.int 432 0, Value.int 139 0, Value.str (Str.ofString "/claim/cut.py") 433] }
noncomputable def ob_179 (_ : Params) : Obj := fnO (nthS main0 27) "gap_texts" (Value.str (Str.ofString "emacs.styles") 211) (Value.ref 178)
noncomputable def ob_183 (_ : Params) : Obj := { cls := Value.type "code", data := Data.fields #[Value.str (Str.ofString "merged") 435, Value.str (Str.ofString "merged") 436, Value.str (Str.ofString "/claim/cut.py") 437, Value.int 145 0, Value.int 3 0, Value.int 0 0, Value.int 0 0, Value.int 3 0, Value.ref 180, Value.bool true, Value.int 181 0, Value.ref 181, Value.none, Value.none, Value.none, Value.ref 182, Value.int 438 0, Value.int 145 0, Value.str (Str.ofString "/claim/cut.py") 439] }
noncomputable def ob_184 (_ : Params) : Obj := fnO (nthS main0 28) "merged" (Value.str (Str.ofString "emacs.styles") 211) (Value.ref 183)
noncomputable def ob_188 (_ : Params) : Obj := { cls := Value.type "code", data := Data.fields #[Value.str (Str.ofString "completed") 441, Value.str (Str.ofString "completed") 442, Value.str (Str.ofString "/claim/cut.py") 443, Value.int 167 0, Value.int 5 0, Value.int 0 0, Value.int 0 0, Value.int 3 0, Value.ref 185, Value.bool true, Value.int 181 0, Value.ref 186, Value.none, Value.none, Value.none, Value.ref 187, Value.int 444 0, Value.int 167 0, Value.str (Str.ofString "/claim/cut.py") 445] }
noncomputable def ob_189 (_ : Params) : Obj := fnO (nthS main0 29) "completed" (Value.str (Str.ofString "emacs.styles") 211) (Value.ref 188)
noncomputable def ob_195 (_ : Params) : Obj := { cls := Value.type "code", data := Data.fields #[Value.str (Str.ofString "_law_draw") 449, Value.str (Str.ofString "_law_draw") 450, Value.str (Str.ofString "/claim/cut.py") 451, Value.int 175 0, Value.int 2 0, Value.int 0 0, Value.int 0 0, Value.int 3 0, Value.ref 190, Value.bool true, Value.int 181 0, Value.ref 191, Value.none, Value.ref 192, Value.ref 193, Value.ref 194, Value.int 454 0, Value.int 175 0, Value.str (Str.ofString "/claim/cut.py") 455] }
noncomputable def ob_196 (_ : Params) : Obj := fnO (nthS main0 31) "_law_draw" (Value.str (Str.ofString "law_rg0134_01") 447) (Value.ref 195)
noncomputable def ob_200 (_ : Params) : Obj := { cls := Value.type "code", data := Data.fields #[Value.str (Str.ofString "_law_signs") 457, Value.str (Str.ofString "_law_signs") 458, Value.str (Str.ofString "/claim/cut.py") 459, Value.int 180 0, Value.int 2 0, Value.int 0 0, Value.int 0 0, Value.int 3 0, Value.ref 197, Value.bool true, Value.int 181 0, Value.ref 198, Value.none, Value.none, Value.none, Value.ref 199, Value.int 460 0, Value.int 180 0, Value.str (Str.ofString "/claim/cut.py") 461] }
noncomputable def ob_201 (_ : Params) : Obj := fnO (nthS main0 32) "_law_signs" (Value.str (Str.ofString "law_rg0134_01") 447) (Value.ref 200)
noncomputable def ob_205 (_ : Params) : Obj := { cls := Value.type "code", data := Data.fields #[Value.str (Str.ofString "_law_cased") 463, Value.str (Str.ofString "_law_cased") 464, Value.str (Str.ofString "/claim/cut.py") 465, Value.int 182 0, Value.int 3 0, Value.int 0 0, Value.int 0 0, Value.int 3 0, Value.ref 202, Value.bool true, Value.int 181 0, Value.ref 203, Value.none, Value.none, Value.none, Value.ref 204, Value.int 466 0, Value.int 182 0, Value.str (Str.ofString "/claim/cut.py") 467] }
noncomputable def ob_206 (_ : Params) : Obj := fnO (nthS main0 33) "_law_cased" (Value.str (Str.ofString "law_rg0134_01") 447) (Value.ref 205)
noncomputable def ob_212 (_ : Params) : Obj := { cls := Value.type "code", data := Data.fields #[Value.str (Str.ofString "_law_even") 469, Value.str (Str.ofString "_law_even") 470, Value.str (Str.ofString "/claim/cut.py") 471, Value.int 186 0, Value.int 3 0, Value.int 0 0, Value.int 0 0, Value.int 3 0, Value.ref 207, Value.bool true, Value.int 181 0, Value.ref 208, Value.none, Value.ref 209, Value.ref 210, Value.ref 211, Value.int 475 0, Value.int 186 0, Value.str (Str.ofString "/claim/cut.py") 476] }
noncomputable def ob_213 (_ : Params) : Obj := fnO (nthS main0 34) "_law_even" (Value.str (Str.ofString "law_rg0134_01") 447) (Value.ref 212)
noncomputable def ob_217 (_ : Params) : Obj := { cls := Value.type "code", data := Data.fields #[Value.str (Str.ofString "_law_head") 478, Value.str (Str.ofString "_law_head") 479, Value.str (Str.ofString "/claim/cut.py") 480, Value.int 188 0, Value.int 2 0, Value.int 0 0, Value.int 0 0, Value.int 3 0, Value.ref 214, Value.bool true, Value.int 181 0, Value.ref 215, Value.none, Value.none, Value.none, Value.ref 216, Value.int 481 0, Value.int 188 0, Value.str (Str.ofString "/claim/cut.py") 482] }
noncomputable def ob_218 (_ : Params) : Obj := fnO (nthS main0 35) "_law_head" (Value.str (Str.ofString "law_rg0134_01") 447) (Value.ref 217)
noncomputable def ob_224 (_ : Params) : Obj := { cls := Value.type "code", data := Data.fields #[Value.str (Str.ofString "_law_made") 484, Value.str (Str.ofString "_law_made") 485, Value.str (Str.ofString "/claim/cut.py") 486, Value.int 194 0, Value.int 5 0, Value.int 0 0, Value.int 0 0, Value.int 3 0, Value.ref 219, Value.bool true, Value.int 181 0, Value.ref 220, Value.none, Value.ref 221, Value.ref 222, Value.ref 223, Value.int 496 0, Value.int 194 0, Value.str (Str.ofString "/claim/cut.py") 497] }
noncomputable def ob_225 (_ : Params) : Obj := fnO (nthS main0 36) "_law_made" (Value.str (Str.ofString "law_rg0134_01") 447) (Value.ref 224)
noncomputable def ob_229 (_ : Params) : Obj := { cls := Value.type "code", data := Data.fields #[Value.str (Str.ofString "_law_common") 499, Value.str (Str.ofString "_law_common") 500, Value.str (Str.ofString "/claim/cut.py") 501, Value.int 203 0, Value.int 2 0, Value.int 0 0, Value.int 0 0, Value.int 3 0, Value.ref 226, Value.bool true, Value.int 181 0, Value.ref 227, Value.none, Value.none, Value.none, Value.ref 228, Value.int 502 0, Value.int 203 0, Value.str (Str.ofString "/claim/cut.py") 503] }
noncomputable def ob_230 (_ : Params) : Obj := fnO (nthS main0 37) "_law_common" (Value.str (Str.ofString "law_rg0134_01") 447) (Value.ref 229)
noncomputable def ob_234 (_ : Params) : Obj := { cls := Value.type "code", data := Data.fields #[Value.str (Str.ofString "law") 505, Value.str (Str.ofString "law") 506, Value.str (Str.ofString "/claim/cut.py") 507, Value.int 220 0, Value.int 1 0, Value.int 0 0, Value.int 0 0, Value.int 3 0, Value.ref 231, Value.bool true, Value.int 181 0, Value.ref 232, Value.none, Value.none, Value.none, Value.ref 233, Value.int 508 0, Value.int 220 0, Value.str (Str.ofString "/claim/cut.py") 509] }
noncomputable def ob_235 (_ : Params) : Obj := fnO (nthS main0 38) "law" (Value.str (Str.ofString "law_rg0134_01") 447) (Value.ref 234)
noncomputable def Kf : Params → Frag := fun P =>
  (nat_lit 3, ob_3 P) ::
  (nat_lit 20, ob_20 P) ::
  (nat_lit 21, ob_21 P) ::
  (nat_lit 27, ob_27 P) ::
  (nat_lit 28, ob_28 P) ::
  (nat_lit 32, ob_32 P) ::
  (nat_lit 33, ob_33 P) ::
  (nat_lit 39, ob_39 P) ::
  (nat_lit 40, ob_40 P) ::
  (nat_lit 46, ob_46 P) ::
  (nat_lit 47, ob_47 P) ::
  (nat_lit 53, ob_53 P) ::
  (nat_lit 54, ob_54 P) ::
  (nat_lit 60, ob_60 P) ::
  (nat_lit 61, ob_61 P) ::
  (nat_lit 67, ob_67 P) ::
  (nat_lit 68, ob_68 P) ::
  (nat_lit 72, ob_72 P) ::
  (nat_lit 73, ob_73 P) ::
  (nat_lit 79, ob_79 P) ::
  (nat_lit 80, ob_80 P) ::
  (nat_lit 86, ob_86 P) ::
  (nat_lit 87, ob_87 P) ::
  (nat_lit 93, ob_93 P) ::
  (nat_lit 94, ob_94 P) ::
  (nat_lit 97, ob_97 P) ::
  (nat_lit 100, ob_100 P) ::
  (nat_lit 107, ob_107 P) ::
  (nat_lit 108, ob_108 P) ::
  (nat_lit 110, ob_110 P) ::
  (nat_lit 111, ob_111 P) ::
  (nat_lit 121, ob_121 P) ::
  (nat_lit 122, ob_122 P) ::
  (nat_lit 128, ob_128 P) ::
  (nat_lit 129, ob_129 P) ::
  (nat_lit 133, ob_133 P) ::
  (nat_lit 134, ob_134 P) ::
  (nat_lit 140, ob_140 P) ::
  (nat_lit 141, ob_141 P) ::
  (nat_lit 145, ob_145 P) ::
  (nat_lit 146, ob_146 P) ::
  (nat_lit 150, ob_150 P) ::
  (nat_lit 151, ob_151 P) ::
  (nat_lit 154, ob_154 P) ::
  (nat_lit 157, ob_157 P) ::
  (nat_lit 164, ob_164 P) ::
  (nat_lit 165, ob_165 P) ::
  (nat_lit 167, ob_167 P) ::
  (nat_lit 168, ob_168 P) ::
  (nat_lit 178, ob_178 P) ::
  (nat_lit 179, ob_179 P) ::
  (nat_lit 183, ob_183 P) ::
  (nat_lit 184, ob_184 P) ::
  (nat_lit 188, ob_188 P) ::
  (nat_lit 189, ob_189 P) ::
  (nat_lit 195, ob_195 P) ::
  (nat_lit 196, ob_196 P) ::
  (nat_lit 200, ob_200 P) ::
  (nat_lit 201, ob_201 P) ::
  (nat_lit 205, ob_205 P) ::
  (nat_lit 206, ob_206 P) ::
  (nat_lit 212, ob_212 P) ::
  (nat_lit 213, ob_213 P) ::
  (nat_lit 217, ob_217 P) ::
  (nat_lit 218, ob_218 P) ::
  (nat_lit 224, ob_224 P) ::
  (nat_lit 225, ob_225 P) ::
  (nat_lit 229, ob_229 P) ::
  (nat_lit 230, ob_230 P) ::
  (nat_lit 234, ob_234 P) ::
  (nat_lit 235, ob_235 P) :: []
noncomputable def Kas : List Addr := nat_lit 3 :: nat_lit 20 :: nat_lit 21 :: nat_lit 27 :: nat_lit 28 :: nat_lit 32 :: nat_lit 33 :: nat_lit 39 :: nat_lit 40 :: nat_lit 46 :: nat_lit 47 :: nat_lit 53 :: nat_lit 54 :: nat_lit 60 :: nat_lit 61 :: nat_lit 67 :: nat_lit 68 :: nat_lit 72 :: nat_lit 73 :: nat_lit 79 :: nat_lit 80 :: nat_lit 86 :: nat_lit 87 :: nat_lit 93 :: nat_lit 94 :: nat_lit 97 :: nat_lit 100 :: nat_lit 107 :: nat_lit 108 :: nat_lit 110 :: nat_lit 111 :: nat_lit 121 :: nat_lit 122 :: nat_lit 128 :: nat_lit 129 :: nat_lit 133 :: nat_lit 134 :: nat_lit 140 :: nat_lit 141 :: nat_lit 145 :: nat_lit 146 :: nat_lit 150 :: nat_lit 151 :: nat_lit 154 :: nat_lit 157 :: nat_lit 164 :: nat_lit 165 :: nat_lit 167 :: nat_lit 168 :: nat_lit 178 :: nat_lit 179 :: nat_lit 183 :: nat_lit 184 :: nat_lit 188 :: nat_lit 189 :: nat_lit 195 :: nat_lit 196 :: nat_lit 200 :: nat_lit 201 :: nat_lit 205 :: nat_lit 206 :: nat_lit 212 :: nat_lit 213 :: nat_lit 217 :: nat_lit 218 :: nat_lit 224 :: nat_lit 225 :: nat_lit 229 :: nat_lit 230 :: nat_lit 234 :: nat_lit 235 :: []
noncomputable def gr1 (P : Params) (r : List Obj) : List Obj :=
  { cls := Value.type "tuple", data := Data.seq #[] } ::
  { cls := Value.none, data := Data.fields #[] } ::
  { cls := Value.type "tuple", data := Data.seq #[Value.str (Str.ofString "code") 192] } ::
  { cls := Value.type "tuple", data := Data.seq #[] } ::
  fnN (nthS main0 1) "downcase" ::
  ob_20 P ::
  ob_21 P ::
  { cls := Value.type "tuple", data := Data.seq #[] } ::
  { cls := Value.none, data := Data.fields #[] } ::
  { cls := Value.type "tuple", data := Data.seq #[Value.str (Str.ofString "code") 199] } ::
  { cls := Value.type "tuple", data := Data.seq #[] } ::
  fnN (nthS main0 2) "fold" ::
  ob_27 P ::
  ob_28 P ::
  { cls := Value.type "tuple", data := Data.seq #[] } ::
  { cls := Value.none, data := Data.fields #[] } ::
  fnN (nthS main0 4) "folded" ::
  ob_32 P ::
  ob_33 P ::
  { cls := Value.type "tuple", data := Data.seq #[] } ::
  { cls := Value.none, data := Data.fields #[] } ::
  { cls := Value.type "tuple", data := Data.seq #[Value.str (Str.ofString "item") 224] } ::
  { cls := Value.type "tuple", data := Data.seq #[] } ::
  fnN (nthS main0 10) "is_gap" ::
  ob_39 P ::
  ob_40 P ::
  { cls := Value.type "tuple", data := Data.seq #[] } ::
  { cls := Value.none, data := Data.fields #[] } ::
  { cls := Value.type "tuple", data := Data.seq #[Value.str (Str.ofString "pattern") 231, Value.str (Str.ofString "found") 232, Value.str (Str.ofString "item") 233] } ::
  { cls := Value.type "tuple", data := Data.seq #[] } ::
  fnN (nthS main0 11) "tidied" ::
  ob_46 P ::
  ob_47 P ::
  { cls := Value.type "tuple", data := Data.seq #[] } ::
  { cls := Value.none, data := Data.fields #[] } ::
  { cls := Value.type "tuple", data := Data.seq #[Value.str (Str.ofString "text") 240, Value.str (Str.ofString "point") 241] } ::
  { cls := Value.type "tuple", data := Data.seq #[] } ::
  fnN (nthS main0 12) "basic_pattern" ::
  ob_53 P ::
  ob_54 P ::
  { cls := Value.type "tuple", data := Data.seq #[] } ::
  { cls := Value.none, data := Data.fields #[] } ::
  { cls := Value.type "tuple", data := Data.seq #[Value.str (Str.ofString "text") 248, Value.str (Str.ofString "point") 249] } ::
  { cls := Value.type "tuple", data := Data.seq #[] } ::
  fnN (nthS main0 13) "substring_pattern" ::
  ob_60 P ::
  ob_61 P ::
  { cls := Value.type "tuple", data := Data.seq #[] } ::
  { cls := Value.none, data := Data.fields #[] } ::
  { cls := Value.type "tuple", data := Data.seq #[Value.str (Str.ofString "text") 256, Value.str (Str.ofString "point") 257, Value.str (Str.ofString "found") 258, Value.str (Str.ofString "at") 259] } ::
  { cls := Value.type "tuple", data := Data.seq #[] } ::
  fnN (nthS main0 14) "partial_pattern" ::
  ob_67 P ::
  ob_68 P ::
  { cls := Value.type "tuple", data := Data.seq #[] } ::
  { cls := Value.none, data := Data.fields #[] } ::
  fnN (nthS main0 15) "initials_pattern" ::
  ob_72 P ::
  ob_73 P ::
  { cls := Value.type "tuple", data := Data.seq #[] } ::
  { cls := Value.none, data := Data.fields #[] } ::
  { cls := Value.type "tuple", data := Data.seq #[Value.str (Str.ofString "text") 272, Value.str (Str.ofString "point") 273, Value.str (Str.ofString "found") 274, Value.str (Str.ofString "at") 275] } ::
  { cls := Value.type "tuple", data := Data.seq #[] } ::
  fnN (nthS main0 16) "flex_pattern" ::
  ob_79 P ::
  ob_80 P ::
  { cls := Value.type "tuple", data := Data.seq #[] } ::
  { cls := Value.none, data := Data.fields #[] } ::
  { cls := Value.type "tuple", data := Data.seq #[Value.str (Str.ofString "style") 282, Value.str (Str.ofString "text") 283, Value.str (Str.ofString "point") 284] } ::
  { cls := Value.type "tuple", data := Data.seq #[] } ::
  fnN (nthS main0 17) "pattern_of" ::
  ob_86 P ::
  ob_87 P ::
  { cls := Value.type "tuple", data := Data.seq #[] } ::
  { cls := Value.none, data := Data.fields #[] } ::
  { cls := Value.type "tuple", data := Data.seq #[Value.str (Str.ofString "text") 291, Value.str (Str.ofString "candidate") 292, Value.str (Str.ofString "start") 293, Value.str (Str.ofString "end") 294, Value.str (Str.ofString "is_folding") 295, Value.str (Str.ofString "wanted") 296, Value.str (Str.ofString "at") 297] } ::
  { cls := Value.type "tuple", data := Data.seq #[] } ::
  fnN (nthS main0 18) "found_from" ::
  ob_93 P ::
  ob_94 P :: r
noncomputable def gr2 (P : Params) (r : List Obj) : List Obj :=
  { cls := Value.type "tuple", data := Data.seq #[] } ::
  { cls := Value.type "builtin_function_or_method", data := Data.fields #[Value.builtin "type.__prepare__", Value.type "type"] } ::
  ob_97 P ::
  { cls := Value.type "tuple", data := Data.seq #[] } ::
  { cls := Value.none, data := Data.fields #[Value.int 80 0, Value.int 4 0, Value.ref 107] } ::
  ob_100 P ::
  { cls := Value.type "frame", slots := #[some (Value.ref 100), some (Value.ref 3), some (Value.ref 97), none, some (Value.str (Str.ofString "emacs.styles") 211), none, some (Value.ref 0)] } ::
  { cls := Value.type "tuple", data := Data.seq #[] } ::
  { cls := Value.none, data := Data.fields #[] } ::
  { cls := Value.type "tuple", data := Data.seq #[Value.str (Str.ofString "self") 316, Value.str (Str.ofString "places") 317] } ::
  { cls := Value.type "tuple", data := Data.seq #[] } ::
  fnN (nthS (inCls (nthS main0 19)) 0) "Fit.__init__" ::
  ob_107 P ::
  ob_108 P ::
  { cls := Value.type "tuple", data := Data.seq #[Value.str (Str.ofString "places") 321] } ::
  ob_110 P ::
  ob_111 P ::
  { cls := Value.type "getset_descriptor", data := Data.fields #[Value.str (Str.ofString "__dict__") 323, Value.ref 111, Value.builtin "function.__dict__", Value.builtin "function.__dict__#set"] } ::
  { cls := Value.type "getset_descriptor", data := Data.fields #[Value.str (Str.ofString "__weakref__") 325, Value.ref 111, Value.builtin "ExceptionGroup.__weakref__", Value.none] } ::
  { cls := Value.type "super", data := Data.fields #[Value.ref 111, Value.ref 111, Value.ref 111] } ::
  { cls := Value.type "builtin_function_or_method", data := Data.fields #[Value.builtin "object.__init_subclass__", Value.ref 111] } ::
  { cls := Value.type "tuple", data := Data.seq #[] } ::
  { cls := Value.none, data := Data.fields #[] } ::
  { cls := Value.type "tuple", data := Data.seq #[Value.str (Str.ofString "candidate") 333, Value.str (Str.ofString "start") 334, Value.str (Str.ofString "at") 335] } ::
  { cls := Value.type "tuple", data := Data.seq #[] } ::
  fnN (nthS main0 20) "word_end" ::
  ob_121 P ::
  ob_122 P ::
  { cls := Value.type "tuple", data := Data.seq #[] } ::
  { cls := Value.none, data := Data.fields #[] } ::
  { cls := Value.type "tuple", data := Data.seq #[Value.str (Str.ofString "pattern") 342, Value.str (Str.ofString "candidate") 343, Value.str (Str.ofString "is_folding") 344, Value.str (Str.ofString "waiting") 345, Value.str (Str.ofString "seen") 346, Value.str (Str.ofString "width") 347, Value.str (Str.ofString "index") 348, Value.str (Str.ofString "at") 349, Value.str (Str.ofString "places") 350, Value.str (Str.ofString "item") 351, Value.str (Str.ofString "last") 352, Value.str (Str.ofString "text") 353, Value.str (Str.ofString "further") 354, Value.str (Str.ofString "spot") 355] } ::
  { cls := Value.type "tuple", data := Data.seq #[] } ::
  fnN (nthS main0 21) "fit_of" ::
  ob_128 P ::
  ob_129 P ::
  { cls := Value.type "tuple", data := Data.seq #[] } ::
  { cls := Value.none, data := Data.fields #[] } ::
  fnN (nthS main0 22) "fitting" ::
  ob_133 P ::
  ob_134 P ::
  { cls := Value.type "tuple", data := Data.seq #[] } ::
  { cls := Value.none, data := Data.fields #[] } ::
  { cls := Value.type "tuple", data := Data.seq #[Value.str (Str.ofString "styles") 368, Value.str (Str.ofString "text") 369, Value.str (Str.ofString "point") 370, Value.str (Str.ofString "candidates") 371, Value.str (Str.ofString "is_folding") 372, Value.str (Str.ofString "style") 373, Value.str (Str.ofString "pattern") 374, Value.str (Str.ofString "found") 375] } ::
  { cls := Value.type "tuple", data := Data.seq #[] } ::
  fnN (nthS main0 23) "first_style" ::
  ob_140 P ::
  ob_141 P ::
  { cls := Value.type "tuple", data := Data.seq #[] } ::
  { cls := Value.none, data := Data.fields #[] } ::
  fnN (nthS main0 24) "common_head" ::
  ob_145 P ::
  ob_146 P ::
  { cls := Value.type "tuple", data := Data.seq #[] } ::
  { cls := Value.none, data := Data.fields #[] } ::
  fnN (nthS main0 25) "common_tail" ::
  ob_150 P ::
  ob_151 P :: r
noncomputable def gr3 (P : Params) (r : List Obj) : List Obj :=
  { cls := Value.type "tuple", data := Data.seq #[] } ::
  { cls := Value.type "builtin_function_or_method", data := Data.fields #[Value.builtin "type.__prepare__", Value.type "type"] } ::
  ob_154 P ::
  { cls := Value.type "tuple", data := Data.seq #[] } ::
  { cls := Value.none, data := Data.fields #[Value.int 136 0, Value.int 4 0, Value.ref 164] } ::
  ob_157 P ::
  { cls := Value.type "frame", slots := #[some (Value.ref 157), some (Value.ref 3), some (Value.ref 154), none, some (Value.str (Str.ofString "emacs.styles") 211), none, some (Value.ref 0)] } ::
  { cls := Value.type "tuple", data := Data.seq #[] } ::
  { cls := Value.none, data := Data.fields #[] } ::
  { cls := Value.type "tuple", data := Data.seq #[Value.str (Str.ofString "self") 406, Value.str (Str.ofString "text") 407, Value.str (Str.ofString "point") 408] } ::
  { cls := Value.type "tuple", data := Data.seq #[] } ::
  fnN (nthS (inCls (nthS main0 26)) 0) "Merged.__init__" ::
  ob_164 P ::
  ob_165 P ::
  { cls := Value.type "tuple", data := Data.seq #[Value.str (Str.ofString "point") 412, Value.str (Str.ofString "text") 413] } ::
  ob_167 P ::
  ob_168 P ::
  { cls := Value.type "getset_descriptor", data := Data.fields #[Value.str (Str.ofString "__dict__") 415, Value.ref 168, Value.builtin "function.__dict__", Value.builtin "function.__dict__#set"] } ::
  { cls := Value.type "getset_descriptor", data := Data.fields #[Value.str (Str.ofString "__weakref__") 417, Value.ref 168, Value.builtin "ExceptionGroup.__weakref__", Value.none] } ::
  { cls := Value.type "super", data := Data.fields #[Value.ref 168, Value.ref 168, Value.ref 168] } ::
  { cls := Value.type "builtin_function_or_method", data := Data.fields #[Value.builtin "object.__init_subclass__", Value.ref 168] } ::
  { cls := Value.type "tuple", data := Data.seq #[] } ::
  { cls := Value.none, data := Data.fields #[] } ::
  { cls := Value.type "tuple", data := Data.seq #[Value.str (Str.ofString "pattern") 425, Value.str (Str.ofString "fits") 426, Value.str (Str.ofString "candidates") 427, Value.str (Str.ofString "index") 428, Value.str (Str.ofString "found") 429, Value.str (Str.ofString "place") 430, Value.str (Str.ofString "places") 431] } ::
  { cls := Value.type "tuple", data := Data.seq #[] } ::
  fnN (nthS main0 27) "gap_texts" ::
  ob_178 P ::
  ob_179 P ::
  { cls := Value.type "tuple", data := Data.seq #[] } ::
  { cls := Value.none, data := Data.fields #[] } ::
  fnN (nthS main0 28) "merged" ::
  ob_183 P ::
  ob_184 P ::
  { cls := Value.type "tuple", data := Data.seq #[] } ::
  { cls := Value.none, data := Data.fields #[] } ::
  fnN (nthS main0 29) "completed" ::
  ob_188 P ::
  ob_189 P :: r
noncomputable def gr4 (P : Params) (r : List Obj) : List Obj :=
  { cls := Value.type "tuple", data := Data.seq #[] } ::
  { cls := Value.none, data := Data.fields #[] } ::
  { cls := Value.type "tuple", data := Data.seq #[Value.str (Str.ofString "deck") 452, Value.str (Str.ofString "many") 453] } ::
  { cls := Value.type "tuple", data := Data.seq #[] } ::
  fnN (nthS main0 31) "_law_draw" ::
  ob_195 P ::
  ob_196 P ::
  { cls := Value.type "tuple", data := Data.seq #[] } ::
  { cls := Value.none, data := Data.fields #[] } ::
  fnN (nthS main0 32) "_law_signs" ::
  ob_200 P ::
  ob_201 P ::
  { cls := Value.type "tuple", data := Data.seq #[] } ::
  { cls := Value.none, data := Data.fields #[] } ::
  fnN (nthS main0 33) "_law_cased" ::
  ob_205 P ::
  ob_206 P ::
  { cls := Value.type "tuple", data := Data.seq #[] } ::
  { cls := Value.none, data := Data.fields #[] } ::
  { cls := Value.type "tuple", data := Data.seq #[Value.str (Str.ofString "one") 472, Value.str (Str.ofString "other") 473, Value.str (Str.ofString "is_folding") 474] } ::
  { cls := Value.type "tuple", data := Data.seq #[] } ::
  fnN (nthS main0 34) "_law_even" ::
  ob_212 P ::
  ob_213 P ::
  { cls := Value.type "tuple", data := Data.seq #[] } ::
  { cls := Value.none, data := Data.fields #[] } ::
  fnN (nthS main0 35) "_law_head" ::
  ob_217 P ::
  ob_218 P ::
  { cls := Value.type "tuple", data := Data.seq #[] } ::
  { cls := Value.none, data := Data.fields #[] } ::
  { cls := Value.type "tuple", data := Data.seq #[Value.str (Str.ofString "deck") 487, Value.str (Str.ofString "is_folding") 488, Value.str (Str.ofString "has_lead") 489, Value.str (Str.ofString "first") 490, Value.str (Str.ofString "last") 491, Value.str (Str.ofString "rows") 492, Value.str (Str.ofString "many") 493, Value.str (Str.ofString "nth") 494, Value.str (Str.ofString "row") 495] } ::
  { cls := Value.type "tuple", data := Data.seq #[] } ::
  fnN (nthS main0 36) "_law_made" ::
  ob_224 P ::
  ob_225 P ::
  { cls := Value.type "tuple", data := Data.seq #[] } ::
  { cls := Value.none, data := Data.fields #[] } ::
  fnN (nthS main0 37) "_law_common" ::
  ob_229 P ::
  ob_230 P ::
  { cls := Value.type "tuple", data := Data.seq #[] } ::
  { cls := Value.none, data := Data.fields #[] } ::
  fnN (nthS main0 38) "law" ::
  ob_234 P ::
  ob_235 P :: r
noncomputable def hpO (P : Params) (x y : Obj) (l : List Obj) : Heap := ⟨⟨boot_o_0 P :: boot_o_1 P :: boot_o_2 P :: x :: boot_o_4 P :: boot_o_5 P :: boot_o_6 P :: boot_o_7 P :: boot_o_8 P :: boot_o_9 P :: boot_o_10 P ::
  { cls := Value.type "tuple", data := Data.seq #[] } :: y :: { cls := Value.type "code", data := Data.fields #[Value.str (Str.ofString "<module>") 182, Value.str (Str.ofString "<module>") 183, Value.str (Str.ofString "/claim/cut.py") 184, Value.int 1 0, Value.int 0 0, Value.int 0 0, Value.int 0 0, Value.int 0 0, Value.ref 11, Value.bool false, Value.int 181 0, Value.ref 12, Value.none, Value.none, Value.none, Value.none, Value.int 185 0, Value.int 1 0, Value.str (Str.ofString "/claim/cut.py") 186] } :: { cls := Value.type "frame", slots := #[some (Value.ref 13), some (Value.ref 3), some (Value.ref 3), none, some (Value.str (Str.ofString "__main__") 164), none, some (Value.ref 0)] } :: l⟩, {}⟩
noncomputable def hp0 (P : Params) : Heap := hpO P (boot_o_3 P) (o12 0) []
noncomputable def hp1 (P : Params) : Heap := hpO P (o3 P (Value.str (Str.ofString "emacs.styles") 211) 25) (o12 36) (gr1 P [])
noncomputable def hp2 (P : Params) : Heap := hpO P (o3 P (Value.str (Str.ofString "emacs.styles") 211) 32) (o12 57) (gr1 P (gr2 P []))
noncomputable def hp3 (P : Params) : Heap := hpO P (o3 P (Value.str (Str.ofString "emacs.styles") 211) 36) (o12 69) (gr1 P (gr2 P (gr3 P [])))
noncomputable def hp4 (P : Params) : Heap := hpO P (ob_3 P) (o12 93) (gr1 P (gr2 P (gr3 P (gr4 P []))))
abbrev row0 : OpenRow := PySem.Challenge.rw_rg0134_01.row
noncomputable abbrev prg0 : Program := row0.prog
noncomputable def envT : Env := { scope := pw0.main.scope, locals := mainNs, globals := mainNs, cells := [], code := .ref 13, frame := some 14 }
noncomputable def st1 : List Stmt := main0.take 19
noncomputable def st2 : List Stmt := (main0.drop 19).take 7
noncomputable def st3 : List Stmt := (main0.drop 26).take 4
noncomputable def st4 : List Stmt := main0.drop 30
noncomputable abbrev bodyT : List Stmt := st1 ++ (st2 ++ (st3 ++ (st4 ++ [])))
noncomputable def cdT : Code := .body bodyT envT
noncomputable abbrev annT : Option Value := some (.ref 6)
noncomputable abbrev posT : Pos := ⟨0, 0, 0, 0⟩
noncomputable abbrev sh (h : Heap) (k : Nat) (os : OsState) : Shared := ⟨h, ⟨[]⟩, boot_drawn, k, os⟩
theorem run0 (w : World) (os : OsState) : topGo treeTable prg0 w 11 annT 12 (sh (boot_heap w.params) boot_toks os) (topStub prg0) = some (sh (hp0 w.params) 187 os, ⟨denote treeTable cdT, cdT, posT, [topFrame posT]⟩) := by kernel_rfl
theorem runB (w : World) (os : OsState) : segRun treeTable prg0 w 11 annT 1 1 (sh (hp0 w.params) 187 os) (blockOf bodyT envT cdT posT [topFrame posT]) = some (.next, sh (hp0 w.params) 187 os, cdT, posT) := by kernel_rfl
theorem run1 (w : World) (os : OsState) : segRun treeTable prg0 w 11 annT 1 424 (sh (hp0 w.params) 187 os) (piecesOf st1 envT cdT ⟨0, 0, 0, 0⟩ [topFrame posT]) = some (.next, sh (hp1 w.params) 301 os, cdT, ⟨72, 0, 77, 13⟩) := by kernel_rfl
theorem run2 (w : World) (os : OsState) : segRun treeTable prg0 w 11 annT 1 410 (sh (hp1 w.params) 301 os) (piecesOf st2 envT cdT ⟨72, 0, 77, 13⟩ [topFrame posT]) = some (.next, sh (hp2 w.params) 391 os, cdT, ⟨132, 0, 133, 64⟩) := by kernel_rfl
theorem run3 (w : World) (os : OsState) : segRun treeTable prg0 w 11 annT 1 312 (sh (hp2 w.params) 391 os) (piecesOf st3 envT cdT ⟨132, 0, 133, 64⟩ [topFrame posT]) = some (.next, sh (hp3 w.params) 447 os, cdT, ⟨167, 0, 173, 45⟩) := by kernel_rfl
theorem run4 (w : World) (os : OsState) : segRun treeTable prg0 w 11 annT 1 238 (sh (hp3 w.params) 447 os) (piecesOf st4 envT cdT ⟨167, 0, 173, 45⟩ [topFrame posT]) = some (.next, sh (hp4 w.params) 511 os, cdT, ⟨220, 0, 249, 55⟩) := by kernel_rfl
theorem runF (w : World) (os : OsState) : topRun treeTable prg0 w 11 annT 2 (sh (hp4 w.params) 511 os) ⟨doneF .next, cdT, ⟨220, 0, 249, 55⟩, [topFrame posT]⟩ = some (sh (hp4 w.params) 511 os) := by kernel_rfl
theorem runs (w : World) (os : OsState) : topRun treeTable prg0 w 11 annT (12 + (1 + (424 + (410 + (312 + (238 + 2)))))) (sh (boot_heap w.params) boot_toks os) (topStub prg0) = some (sh (hp4 w.params) 511 os) :=
  go_top (run0 w os) (piece_block (runB w os) (piece_app (run1 w os) (piece_app (run2 w os) (piece_app (run3 w os) (piece_app (run4 w os) (piece_nil (runF w os)))))))
theorem open0 : ∀ w : World, (fencedOpening treeTable prg0 w 2886).map (fun s => (s.heap, s.gens, s.drawn, s.toks)) = some (boot_heap w.params, Array.mk [], boot_drawn, boot_toks) :=
  boot_open (by kernel_rfl) (by rfl) (fun s => by kernel_rfl)
theorem size0 (w : World) : ((boot_heap w.params).isNs mainGlobals && (⟨[]⟩ : Array GenState).size == 0, (boot_heap w.params).objs.size, (boot_heap w.params).nsMap mainGlobals "__annotations__") = (true, 11, annT) := by kernel_rfl
theorem kas (P : Params) : Kas = (Kf P).map (·.1) := rfl
noncomputable abbrev hook : Hook := kHook Kf Kas kas
noncomputable abbrev xt0 (s : Shared) : Bool := xlAt view0 [] s && recOk (RowW.records row0.toRowW) s
theorem looks0 (w : World) (os : OsState) : openSeen view0 [] (importedModules prg0.main.body) xt0 true (sh (hp4 w.params) 511 os) = openGood view0 [] := by kernel_rfl
theorem looks1 (w : World) (os : OsState) : (staticsOk (importedModules prg0.main.body) (boot_heap w.params) (hp4 w.params) && namesBound prg0 (hp4 w.params) && gensDone (sh (hp4 w.params) 511 os) && laidKept (boot_heap w.params) (hp4 w.params)) = true := by kernel_rfl
theorem looks2 (w : World) (os : OsState) : Hook.obs hook (sh (hp4 w.params) 511 os) = Hook.val hook w := by kernel_rfl
theorem left0 : LeftO row0.prog view0 [] xt0 (Hook.obs hook) (Hook.val hook) 2886 :=
  LeftO.of_pieces (H₀ := boot_heap) (H₁ := hp4) open0 size0 runs (by rfl) fun w => funext fun os => Prod.ext (looks1 w os) (Prod.ext (looks0 w os) (looks2 w os))
theorem said0 : OpenLaw.wellSaid PySem.Challenge.rw_rg0134_01 = true := by
  unfold OpenLaw.wellSaid OpenRow.wellSaid OpenRow.partSaid looksOpen
  repeat' with_reducible refine look_both ?_ ?_
  all_goals decide +kernel
theorem hd {d : DefRec} {kwd : List (PySem.Str × Expr)} (hdef : defOf view0 row0.name = some (d, kwd)) (hp : row0.prog.theDef row0.name = some (d.params, d.body, d.scope)) (hk : kwWritten? d.params.kwonlyargs d.params.kw_defaults = some kwd)
    (hw : row0.toRowW.promised) (walk : WalkO view0 [] (XL view0 []) (Hook.says hook) row0.toRowW d kwd fun f vs => PySem.call f vs) : PySem.Challenge.rw_rg0134_01.Holds := by
  refine holds_law said0 fun h => ?_
  refine holds_open (q := view0) (loose := []) (Xt := xt0) (XP := XL view0 []) (Yf := Hook.obs hook) (Ya := Hook.val hook) (YP := Hook.says hook) (N := 2886) left0 (Hook.of hook) (Hook.keeps hook)
    (fun s e => xl_of s (Bool.and_eq_true_iff.mp e).1) XL.keeps hdef hp hk (fun s e => recFacts_of (Bool.and_eq_true_iff.mp e).2) (by rfl) h (by decide +kernel) ⟨rfl, rfl, rfl, rfl, rfl, by decide +kernel⟩ hw walk
end
end Mine
end

section
open PySem PySem.W PyProof.Rows PySem.Calls PySem.Spec PyProof.V PySem.SeqAt
set_option maxRecDepth 100000
set_option linter.unusedVariables false
namespace Mine

/-! the program -/
noncomputable abbrev gd (w : World) (base : Heap) (D : Addr) (mg mb : PySem.Str → Option Value) : Gd := { prog := PySem.Challenge.rw_rg0134_01.row.prog, w, base, D, CF := 111, CM := 168, K := Mine.Kf w.params, mg, mb }
structure Top0 (w : World) (base : Heap) (D : Addr) (mg mb : PySem.Str → Option Value) : Prop where
  hK : (Mine.Kf w.params).In base
  hmg : base.Ns mainGlobals mg
  hmb : base.Ns builtinsNs mb
  hnl : base.NoLimit
  hbi : ∀ x : PySem.Str, x ≠ "__name__" → mb x = bootBuiltins x

section
variable {w : World} {base : Heap} {D : Addr} {mg mb : PySem.Str → Option Value}
theorem Top0.ok (T : Top0 w base D mg mb) : GOK (gd w base D mg mb) := ⟨T.hK, T.hmg, T.hmb, T.hnl⟩
theorem Top0.at (T : Top0 w base D mg mb) {n : PySem.Str} {v : Value} (e : nsIn (Mine.Kf w.params) mainGlobals n = some (some v)) : mg n = some v := mg_of T.hK T.hmg e
theorem Top0.bi' (T : Top0 w base D mg mb) {n : PySem.Str} {v : Value} (e : nsIn (Mine.Kf w.params) mainGlobals n = some none) (h : bootBuiltins n = some v) (hn : n ≠ "__name__") : Bi (gd w base D mg mb) n v :=
  ⟨mg_none_of T.hK T.hmg e, (T.hbi n hn).trans h⟩
theorem fn_c (T : Top0 w base D mg mb) {l : Nat} {name : PySem.Str} {f : Addr} {o : Obj} {fd : FuncData} {body : List Stmt} {ps : List N} {fb : SX} (hm : nsIn (Mine.Kf w.params) mainGlobals name = some (some (.ref f))) (hk : keepIn (Mine.Kf w.params) (.ref f) = true)
    (ho : (Mine.Kf w.params).lookup f = some o) (hdata : o.data = .func fd) (hcd : codeIn (Mine.Kf w.params) fd.code fd.qualname = true) (hbody : fd.body = .stmts body) (hglob : fd.globals = mainGlobals) (hbi : fd.builtins = builtinsNs) (hclo : fd.closure = [])
    (hbind : ∀ vals : List Value, vals.length = ps.length → bindArgs fd ⟨vals, []⟩ = pure ((ps.map N.str).zip vals)) (hn : nmOK fd.scope.names ps = true)
    (hco : fd.scope.isCoroutine = false) (hgen : fd.scope.isGenerator = false) (hkind : fd.scope.kind = .function)
    (hs : SemSs (gd w base D mg mb) l fd.scope.names body fb) : Contract (gd w base D mg mb) name (fnGo ps fb) (l + 1) :=
  fn_contract T.ok (T.at hm) hk ho hdata hcd hbody hglob hbi hclo hbind hn hco hgen hkind hs
end
theorem bv1 {P : List Value → Prop} (h : ∀ a, P [a]) : ∀ v : List Value, v.length = 1 → P v
  | [a], _ => h a
theorem bv2 {P : List Value → Prop} (h : ∀ a b, P [a, b]) : ∀ v : List Value, v.length = 2 → P v
  | [a, b], _ => h a b
theorem bv3 {P : List Value → Prop} (h : ∀ a b c, P [a, b, c]) : ∀ v : List Value, v.length = 3 → P v
  | [a, b, c], _ => h a b c
theorem bv4 {P : List Value → Prop} (h : ∀ a b c d, P [a, b, c, d]) : ∀ v : List Value, v.length = 4 → P v
  | [a, b, c, d], _ => h a b c d
theorem bv5 {P : List Value → Prop} (h : ∀ a b c d e, P [a, b, c, d, e]) : ∀ v : List Value, v.length = 5 → P v
  | [a, b, c, d, e], _ => h a b c d e
theorem fillK : (Mine.Kf = Mine.Kf) ∧ (PySem.Challenge.rw_rg0134_01 = PySem.Challenge.rw_rg0134_01) := by k_fill; exact ⟨rfl, rfl⟩

end Mine
end

section
open PySem PySem.W PyProof.Rows PySem.Calls PySem.Spec PyProof.V PySem.SeqAt
set_option maxRecDepth 100000
set_option maxHeartbeats 4000000
set_option linter.unusedVariables false
namespace Mine
theorem fillP : (Mine.Kf = Mine.Kf) ∧ (PySem.Challenge.rw_rg0134_01 = PySem.Challenge.rw_rg0134_01) := by k_fill; exact ⟨rfl, rfl⟩
section
variable {g : Gd} {l : Nat} {nm : Nms}
noncomputable def env0 (nm : Nms) : Env := newEnv { kind := .function, names := nm, isGenerator := false, isCoroutine := false } 0 0 [] ("" : PySem.Str) none .none none 0
theorem kindOf_lc {env : Env} (F : EnvF nm env) {x : N} (h : lcOK nm x = true) : env.kindOf x.str = (env0 nm).kindOf x.str := by
  unfold lcOK at h
  simp only [Bool.or_eq_true, beq_iff_eq] at h
  rcases h with h | h
  · rw [F.names _ _ h (by decide)]; exact h.symm
  · rw [F.names _ _ h (by decide)]; exact h.symm
theorem sw_eq {env : Env} (F : EnvF nm env) {ts es : List Expr} {tz ez} {tp ep : Pos} {ns : List N} (ht : Tgts nm ts ns) :
    swappedStores [.Tuple ts tz tp] (.Tuple es ez ep) env = swappedStores [.Tuple ts tz tp] (.Tuple es ez ep) (env0 nm) := by
  have hb : env.blockKind = (env0 nm).blockKind := by unfold Env.blockKind; rw [F.kind]; rfl
  cases ht with
  | nil => rfl
  | cons e1 h1 ht =>
    subst e1
    cases ht with
    | nil => rfl
    | cons e2 h2 ht =>
      subst e2
      cases ht with
      | nil =>
        unfold swappedStores
        simp only [hb, List.filterMap_cons, List.filterMap_nil, kindOf_lc F h1, kindOf_lc F h2]
        rfl
      | cons e3 h3 ht =>
        subst e3
        cases ht with
        | nil =>
          unfold swappedStores
          simp only [hb, List.filterMap_cons, List.filterMap_nil, kindOf_lc F h1, kindOf_lc F h2, kindOf_lc F h3]
          rfl
        | cons e4 h4 ht =>
          unfold swappedStores
          simp
theorem s_multi' {ts es : List Expr} {tz ez} {tp ep pos : Pos} {ns : List N} {fs : List Rhs} (ht : Tgts nm ts ns) (h : SemRs g l nm es fs) (hl : es.length ≤ 100)
    (hw : swappedStores [.Tuple ts tz tp] (.Tuple es ez ep) (env0 nm) = pure none) :
    SemS g l nm (.Assign [.Tuple ts tz tp] (.Tuple es ez ep) pos) (sMulti ns fs) := s_multi ht h hl fun env F => (sw_eq F ht).trans hw
theorem s_multiR' {ts es : List Expr} {tz ez} {tp ep pos : Pos} {ns : List N} {fs : List Rhs} (ht : Tgts nm ts ns) (h : SemRs g l nm es fs) (hl : es.length ≤ 100)
    (hw : swappedStores [.Tuple ts tz tp] (.Tuple es ez ep) (env0 nm) = pure (some (ns.map N.str))) :
    SemS g l nm (.Assign [.Tuple ts tz tp] (.Tuple es ez ep) pos) (sMultiR ns fs) := s_multiR ht h hl fun env F => (sw_eq F ht).trans hw
end

section
variable {w : World} {base : Heap} {D : Addr} {mg mb : PySem.Str → Option Value}
theorem k_ANY (T : Top0 w base D mg mb) : ∃ t, (gd w base D mg mb).mg "ANY" = some (.int 0 t) := ⟨_, T.at (by k_is)⟩
theorem k_WORDS (T : Top0 w base D mg mb) : ∃ t, (gd w base D mg mb).mg "WORDS" = some (.int 1 t) := ⟨_, T.at (by k_is)⟩
theorem k_POINT (T : Top0 w base D mg mb) : ∃ t, (gd w base D mg mb).mg "POINT" = some (.int 2 t) := ⟨_, T.at (by k_is)⟩
theorem bi_len (T : Top0 w base D mg mb) : Bi (gd w base D mg mb) "len" (.builtin "len") := T.bi' (by k_is) (by rfl) (by decide +kernel)
theorem bi_ord (T : Top0 w base D mg mb) : Bi (gd w base D mg mb) "ord" (.builtin "ord") := T.bi' (by k_is) (by rfl) (by decide +kernel)
theorem bi_chr (T : Top0 w base D mg mb) : Bi (gd w base D mg mb) "chr" (.builtin "chr") := T.bi' (by k_is) (by rfl) (by decide +kernel)
theorem bi_min (T : Top0 w base D mg mb) : Bi (gd w base D mg mb) "min" (.builtin "min") := T.bi' (by k_is) (by rfl) (by decide +kernel)
theorem bi_set (T : Top0 w base D mg mb) : Bi (gd w base D mg mb) "set" (.type "set") := T.bi' (by k_is) (by rfl) (by decide +kernel)
theorem bi_repr (T : Top0 w base D mg mb) : Bi (gd w base D mg mb) "repr" (.builtin "repr") := T.bi' (by k_is) (by rfl) (by decide +kernel)
theorem bi_range (T : Top0 w base D mg mb) : Bi (gd w base D mg mb) "range" (.type "range") := T.bi' (by k_is) (by rfl) (by decide +kernel)
theorem bi_isinstance (T : Top0 w base D mg mb) : Bi (gd w base D mg mb) "isinstance" (.builtin "isinstance") := T.bi' (by k_is) (by rfl) (by decide +kernel)
theorem bi_str (T : Top0 w base D mg mb) : Bi (gd w base D mg mb) "str" (.type "str") := T.bi' (by k_is) (by rfl) (by decide +kernel)
theorem bi_abs (T : Top0 w base D mg mb) : Bi (gd w base D mg mb) "abs" (.builtin "abs") := T.bi' (by k_is) (by rfl) (by decide +kernel)
theorem attrF {C : Addr} {name : PySem.Str} {attr : Option Value} (h1 : plainGet (Mine.Kf w.params) C name = true) (h2 : hasDictIn (Mine.Kf w.params) C = true) (h3 : findIn (Mine.Kf w.params) (.ref C) name = some attr) (h4 : noGet (Mine.Kf w.params) attr = true) :
    AttrF (gd w base D mg mb) C name := ⟨h1, h2, attr, h3, h4⟩
theorem k_cls (T : Top0 w base D mg mb) : ClsF (gd w base D mg mb) := by
  refine' ⟨attrF (attr := none) ?_ ?_ ?_ ?_, attrF (attr := none) ?_ ?_ ?_ ?_, attrF (attr := none) ?_ ?_ ?_ ?_, ?_, ?_⟩
  · show plainGet (Mine.Kf w.params) 111 "places" = true; k_is
  · show hasDictIn (Mine.Kf w.params) 111 = true; k_is
  · show findIn (Mine.Kf w.params) (.ref 111) "places" = some none; k_is
  · show noGet (Mine.Kf w.params) none = true; k_is
  · show plainGet (Mine.Kf w.params) 168 "text" = true; k_is
  · show hasDictIn (Mine.Kf w.params) 168 = true; k_is
  · show findIn (Mine.Kf w.params) (.ref 168) "text" = some none; k_is
  · show noGet (Mine.Kf w.params) none = true; k_is
  · show plainGet (Mine.Kf w.params) 168 "point" = true; k_is
  · show hasDictIn (Mine.Kf w.params) 168 = true; k_is
  · show findIn (Mine.Kf w.params) (.ref 168) "point" = some none; k_is
  · show noGet (Mine.Kf w.params) none = true; k_is
  · show findIn (Mine.Kf w.params) (.ref 111) "__bool__" = some none; k_is
  · show findIn (Mine.Kf w.params) (.ref 111) "__len__" = some none; k_is

theorem madeF {C fI : Addr} {o : Obj} {fd : FuncData} (h1 : makesIn (Mine.Kf w.params) C = true) (h2 : findIn (Mine.Kf w.params) (.ref C) "__init__" = some (some (.ref fI))) (h3 : typeIn (Mine.Kf w.params) (.ref fI) = some (.type "function"))
    (h4 : (Mine.Kf w.params).lookup fI = some o) (h4' : o.data = .func fd) (h5 : codeIn (Mine.Kf w.params) fd.code fd.qualname = true) (h6 : findIn (Mine.Kf w.params) (.ref C) "__setattr__" = some (some (.builtin "object.__setattr__")))
    (h7 : plainOver (Mine.Kf w.params) C = true) (h8 : hasDictIn (Mine.Kf w.params) C = true) (h9 : fd.scope.kind = .function) (h10 : fd.globals = mainGlobals) (h11 : fd.builtins = builtinsNs) (h12 : fd.closure = []) (h13 : fd.scope.isCoroutine = false) (h14 : fd.scope.isGenerator = false) :
    MadeF (gd w base D mg mb) C fI fd := ⟨h1, h2, h3, ⟨o, h4, h4'⟩, h5, h6, h7, h8, h9, h10, h11, h12, h13, h14⟩
theorem fit_c (T : Top0 w base D mg mb) {o : Obj} {fd : FuncData} {p1 p2 p3 p4 : Pos} (h4 : (Mine.Kf w.params).lookup 108 = some o) (h4' : o.data = .func fd) (h5 : codeIn (Mine.Kf w.params) fd.code fd.qualname = true)
    (h9 : fd.scope.kind = .function) (h10 : fd.globals = mainGlobals) (h11 : fd.builtins = builtinsNs) (h12 : fd.closure = []) (h13 : fd.scope.isCoroutine = false) (h14 : fd.scope.isGenerator = false)
    (hbody : fd.body = .stmts [.Assign [.Attribute (.Name "self" p1) "places" p2] (.Name "places" p3) p4]) (h1 : fd.scope.names.lookup ("self" : PySem.Str) = some .local) (h2 : fd.scope.names.lookup ("places" : PySem.Str) = some .local)
    (hbind : ∀ x v, bindArgs fd ⟨[.ref x, v], []⟩ = pure [(("self" : PySem.Str), .ref x), (("places" : PySem.Str), v)]) : Contract (gd w base D mg mb) "Fit" sp_Fit 2 :=
  fit_contract (l := 0) T.ok (fI := 108) (madeF (C := 111) (by k_is) (by k_is) (by k_is) h4 h4' h5 (by k_is) (by k_is) (by k_is) h9 h10 h11 h12 h13 h14) (T.at (by k_is)) (show keepIn (Mine.Kf w.params) (.ref 111) = true by k_is) hbody h1 h2 (show takerIn (Mine.Kf w.params) 111 "places" = some none by k_is) hbind
theorem mrg_c (T : Top0 w base D mg mb) {o : Obj} {fd : FuncData} {p1 p2 p3 p4 p5 p6 p7 p8 : Pos} (h4 : (Mine.Kf w.params).lookup 165 = some o) (h4' : o.data = .func fd) (h5 : codeIn (Mine.Kf w.params) fd.code fd.qualname = true)
    (h9 : fd.scope.kind = .function) (h10 : fd.globals = mainGlobals) (h11 : fd.builtins = builtinsNs) (h12 : fd.closure = []) (h13 : fd.scope.isCoroutine = false) (h14 : fd.scope.isGenerator = false)
    (hbody : fd.body = .stmts [.Assign [.Attribute (.Name "self" p1) "text" p2] (.Name "text" p3) p4, .Assign [.Attribute (.Name "self" p5) "point" p6] (.Name "point" p7) p8])
    (h1 : fd.scope.names.lookup ("self" : PySem.Str) = some .local) (h2 : fd.scope.names.lookup ("text" : PySem.Str) = some .local) (h3 : fd.scope.names.lookup ("point" : PySem.Str) = some .local)
    (hbind : ∀ x v u, bindArgs fd ⟨[.ref x, v, u], []⟩ = pure [(("self" : PySem.Str), .ref x), (("text" : PySem.Str), v), (("point" : PySem.Str), u)]) : Contract (gd w base D mg mb) "Merged" sp_Merged 2 :=
  mrg_contract (l := 0) T.ok (fI := 165) (madeF (C := 168) (by k_is) (by k_is) (by k_is) h4 h4' h5 (by k_is) (by k_is) (by k_is) h9 h10 h11 h12 h13 h14) (T.at (by k_is)) (show keepIn (Mine.Kf w.params) (.ref 168) = true by k_is) hbody h1 h2 h3 (show takerIn (Mine.Kf w.params) 168 "text" = some none by k_is) (show takerIn (Mine.Kf w.params) 168 "point" = some none by k_is) hbind
theorem c_Fit (T : Top0 w base D mg mb) : Contract (gd w base D mg mb) "Fit" sp_Fit 2 := by
  refine' fit_c T ?ho ?hdata ?hcd ?hkind ?hglob ?hbi ?hclo ?hco ?hgen ?hbody ?h1 ?h2 ?hbind
  case ho => k_is
  case hdata => exact rfl
  case hcd => k_is
  case hkind => exact rfl
  case hglob => exact rfl
  case hbi => exact rfl
  case hclo => exact rfl
  case hco => exact rfl
  case hgen => exact rfl
  case hbody => exact rfl
  case h1 => exact rfl
  case h2 => exact rfl
  case hbind => exact fun _ _ => rfl
theorem c_Merged (T : Top0 w base D mg mb) : Contract (gd w base D mg mb) "Merged" sp_Merged 2 := by
  refine' mrg_c T ?ho ?hdata ?hcd ?hkind ?hglob ?hbi ?hclo ?hco ?hgen ?hbody ?h1 ?h2 ?h3 ?hbind
  case ho => k_is
  case hdata => exact rfl
  case hcd => k_is
  case hkind => exact rfl
  case hglob => exact rfl
  case hbi => exact rfl
  case hclo => exact rfl
  case hco => exact rfl
  case hgen => exact rfl
  case hbody => exact rfl
  case h1 => exact rfl
  case h2 => exact rfl
  case h3 => exact rfl
  case hbind => exact fun _ _ _ => rfl
end
end Mine
end

section
open PySem PySem.W PyProof.Rows PySem.Calls PySem.Spec PyProof.V PySem.SeqAt
set_option maxRecDepth 100000
set_option maxHeartbeats 4000000
set_option linter.unusedVariables false
namespace Mine
theorem fillQ : (Mine.Kf = Mine.Kf) ∧ (PySem.Challenge.rw_rg0134_01 = PySem.Challenge.rw_rg0134_01) := by k_fill; exact ⟨rfl, rfl⟩
theorem c_downcase {w : World} {base : Heap} {D : Addr} {mg mb : PySem.Str → Option Value} (T : Top0 w base D mg mb) : Contract (gd w base D mg mb) "downcase" sp_downcase 1 := by
  refine' fn_c (l := 0) T (f := 21) (ps := [.code]) (fb := f_downcase) ?hm ?hk ?ho ?hdata ?hcd ?hbody ?hglob ?hbi ?hclo ?hbind ?hn ?hco ?hgen ?hkind ?hs
  case hm => k_is
  case hk => k_is
  case ho => k_is
  case hdata => exact rfl
  case hcd => k_is
  case hbody => exact rfl
  case hglob => exact rfl
  case hbi => exact rfl
  case hclo => exact rfl
  case hbind => exact bv1 fun _ => rfl
  case hn => decide +kernel
  case hco => exact rfl
  case hgen => exact rfl
  case hkind => exact rfl
  case hs => exact (s_cons (s_if (b_any (.cons (b_chain p_le p_le e_int (e_var rfl) e_int rfl) (.cons (b_all (.cons (b_chain p_le p_le e_int (e_var rfl) e_int rfl) (.cons (b_cmp p_ne (e_peek rfl) (e_x e_int) rfl) .nil))) .nil))) (s_cons (s_ret (e_bin p_add (e_var rfl) e_int)) s_nil) s_nil) (s_cons (s_retvar rfl) s_nil))

theorem c_is_gap {w : World} {base : Heap} {D : Addr} {mg mb : PySem.Str → Option Value} (T : Top0 w base D mg mb) : Contract (gd w base D mg mb) "is_gap" sp_is_gap 1 := by
  refine' fn_c (l := 0) T (f := 40) (ps := [.item]) (fb := f_is_gap) ?hm ?hk ?ho ?hdata ?hcd ?hbody ?hglob ?hbi ?hclo ?hbind ?hn ?hco ?hgen ?hkind ?hs
  case hm => k_is
  case hk => k_is
  case ho => k_is
  case hdata => exact rfl
  case hcd => k_is
  case hbody => exact rfl
  case hglob => exact rfl
  case hbi => exact rfl
  case hclo => exact rfl
  case hbind => exact bv1 fun _ => rfl
  case hn => decide +kernel
  case hco => exact rfl
  case hgen => exact rfl
  case hkind => exact rfl
  case hs => exact (s_cons (s_ret (e_notv (e_isstr T.ok (bi_isinstance T) (bi_str T) (by kernel_rfl) (by kernel_rfl) (fun _ _ => rfl) (e_var rfl)))) s_nil)

theorem c_gap_texts {w : World} {base : Heap} {D : Addr} {mg mb : PySem.Str → Option Value} (T : Top0 w base D mg mb) : Contract (gd w base D mg mb) "gap_texts" sp_gap_texts 1 := by
  refine' fn_c (l := 0) T (f := 179) (ps := [.pattern, .fits, .candidates, .index]) (fb := f_gap_texts) ?hm ?hk ?ho ?hdata ?hcd ?hbody ?hglob ?hbi ?hclo ?hbind ?hn ?hco ?hgen ?hkind ?hs
  case hm => k_is
  case hk => k_is
  case ho => k_is
  case hdata => exact rfl
  case hcd => k_is
  case hbody => exact rfl
  case hglob => exact rfl
  case hbi => exact rfl
  case hclo => exact rfl
  case hbind => exact bv4 fun _ _ _ _ => rfl
  case hn => decide +kernel
  case hco => exact rfl
  case hgen => exact rfl
  case hkind => exact rfl
  case hs => exact (s_cons (s_own rfl (by kernel_rfl) .nil (by decide)) (s_cons (s_for rfl (by kernel_rfl) (e_bi1 T.ok (bi_range T) kept_ty p_range (by kernel_rfl) (by decide +kernel) (fun _ _ => rfl) (e_bi1 T.ok (bi_len T) kept_bi p_len (by kernel_rfl) (by decide +kernel) (fun _ _ => rfl) (e_var rfl))) (s_cons (s_asg rfl (by kernel_rfl) (e_attr .places rfl T.ok (k_cls T) (fun _ => rfl) (e_idx (e_peek rfl) (e_var rfl))) (fun _ => rfl)) (s_cons (s_app rfl (fun _ _ => rfl) (e_sl (e_x (e_idx (e_peek rfl) (e_var rfl))) (e_idx (e_peek rfl) (e_var rfl)) (e_idx (e_peek rfl) (e_bin p_add (e_var rfl) e_int))) rfl) s_nil)) (fun _ _ => rfl)) (s_cons (s_retvar rfl) s_nil)))

theorem c_law_draw {w : World} {base : Heap} {D : Addr} {mg mb : PySem.Str → Option Value} (T : Top0 w base D mg mb) : Contract (gd w base D mg mb) "_law_draw" sp_law_draw 1 := by
  refine' fn_c (l := 0) T (f := 196) (ps := [.deck, .many]) (fb := f_law_draw) ?hm ?hk ?ho ?hdata ?hcd ?hbody ?hglob ?hbi ?hclo ?hbind ?hn ?hco ?hgen ?hkind ?hs
  case hm => k_is
  case hk => k_is
  case ho => k_is
  case hdata => exact rfl
  case hcd => k_is
  case hbody => exact rfl
  case hglob => exact rfl
  case hbi => exact rfl
  case hclo => exact rfl
  case hbind => exact bv2 fun _ _ => rfl
  case hn => decide +kernel
  case hco => exact rfl
  case hgen => exact rfl
  case hkind => exact rfl
  case hs => exact (s_cons (s_deck1 rfl (e_bin p_add (e_deck1 rfl) e_int) (fun _ => rfl)) (s_cons (s_if (b_cmp p_le (e_x (e_deck1 rfl)) (e_x (e_bi1 T.ok (bi_len T) kept_bi p_len (by kernel_rfl) (by decide +kernel) (fun _ _ => rfl) (e_deck0 rfl))) rfl) (s_cons (s_ret (e_bin p_mod (e_idx (e_x (e_deck0 rfl)) (e_bin p_sub (e_deck1 rfl) e_int)) (e_var rfl))) s_nil) s_nil) (s_cons (s_ret (e_bin p_mod (e_bin p_fdiv (e_bin p_add (e_bin p_add (e_bin p_mul (e_bin p_mul (e_deck1 rfl) (e_deck1 rfl)) e_int) (e_bin p_mul e_int (e_deck1 rfl))) (e_bin p_mul e_int (e_bi1 T.ok (bi_len T) kept_bi p_len (by kernel_rfl) (by decide +kernel) (fun _ _ => rfl) (e_deck0 rfl)))) e_int) (e_var rfl))) s_nil)))

theorem c_law_even {w : World} {base : Heap} {D : Addr} {mg mb : PySem.Str → Option Value} (T : Top0 w base D mg mb) : Contract (gd w base D mg mb) "_law_even" sp_law_even 1 := by
  refine' fn_c (l := 0) T (f := 213) (ps := [.one, .other, .is_folding]) (fb := f_law_even) ?hm ?hk ?ho ?hdata ?hcd ?hbody ?hglob ?hbi ?hclo ?hbind ?hn ?hco ?hgen ?hkind ?hs
  case hm => k_is
  case hk => k_is
  case ho => k_is
  case hdata => exact rfl
  case hcd => k_is
  case hbody => exact rfl
  case hglob => exact rfl
  case hbi => exact rfl
  case hclo => exact rfl
  case hbind => exact bv3 fun _ _ _ => rfl
  case hn => decide +kernel
  case hco => exact rfl
  case hgen => exact rfl
  case hkind => exact rfl
  case hs => exact (s_cons (s_ret (e_ite (b_of T.ok (k_cls T) (e_var rfl)) (e_cmp p_eq (e_x (e_lower rfl (fun _ => rfl) (e_var rfl))) (e_x (e_lower rfl (fun _ => rfl) (e_var rfl))) rfl) (e_cmp p_eq (e_peek rfl) (e_peek rfl) rfl))) s_nil)

theorem c_fold {w : World} {base : Heap} {D : Addr} {mg mb : PySem.Str → Option Value} (T : Top0 w base D mg mb) : Contract (gd w base D mg mb) "fold" sp_fold 2 := by
  refine' fn_c (l := 1) T (f := 28) (ps := [.code]) (fb := f_fold) ?hm ?hk ?ho ?hdata ?hcd ?hbody ?hglob ?hbi ?hclo ?hbind ?hn ?hco ?hgen ?hkind ?hs
  case hm => k_is
  case hk => k_is
  case ho => k_is
  case hdata => exact rfl
  case hcd => k_is
  case hbody => exact rfl
  case hglob => exact rfl
  case hbi => exact rfl
  case hclo => exact rfl
  case hbind => exact bv1 fun _ => rfl
  case hn => decide +kernel
  case hco => exact rfl
  case hgen => exact rfl
  case hkind => exact rfl
  case hs => exact (s_cons (s_ret (e_call T.ok (c_downcase T) (by decide) (by kernel_rfl) (by decide +kernel) (.cons (fun _ _ => rfl) (e_var rfl) .nil))) s_nil)

theorem c_tidied {w : World} {base : Heap} {D : Addr} {mg mb : PySem.Str → Option Value} (T : Top0 w base D mg mb) : Contract (gd w base D mg mb) "tidied" sp_tidied 2 := by
  refine' fn_c (l := 1) T (f := 47) (ps := [.pattern]) (fb := f_tidied) ?hm ?hk ?ho ?hdata ?hcd ?hbody ?hglob ?hbi ?hclo ?hbind ?hn ?hco ?hgen ?hkind ?hs
  case hm => k_is
  case hk => k_is
  case ho => k_is
  case hdata => exact rfl
  case hcd => k_is
  case hbody => exact rfl
  case hglob => exact rfl
  case hbi => exact rfl
  case hclo => exact rfl
  case hbind => exact bv1 fun _ => rfl
  case hn => decide +kernel
  case hco => exact rfl
  case hgen => exact rfl
  case hkind => exact rfl
  case hs => exact (s_cons (s_own rfl (by kernel_rfl) .nil (by decide)) (s_cons (s_for rfl (by kernel_rfl) (e_var rfl) (s_cons (s_if (b_all (.cons (b_cmp p_eq (e_peek rfl) (e_x (e_str (by decide +kernel) (by decide))) rfl) (.cons (b_not (b_of T.ok (k_cls T) (e_call T.ok (c_is_gap T) (by decide) (by kernel_rfl) (by decide +kernel) (.cons (fun _ _ => rfl) (e_var rfl) .nil)))) .nil))) (s_cons s_cont s_nil) s_nil) (s_cons (s_if (b_all (.cons (b_cmp p_ne (e_peek rfl) (e_x (e_list .nil (by decide))) rfl) (.cons (b_of T.ok (k_cls T) (e_call T.ok (c_is_gap T) (by decide) (by kernel_rfl) (by decide +kernel) (.cons (fun _ _ => rfl) (e_var rfl) .nil))) (.cons (b_of T.ok (k_cls T) (e_call T.ok (c_is_gap T) (by decide) (by kernel_rfl) (by decide +kernel) (.cons (fun _ _ => rfl) (e_idx (e_peek rfl) (e_neg e_int)) .nil))) .nil)))) (s_cons (s_if (b_any (.cons (b_cmp p_eq (e_peek rfl) (e_x (e_glob T.ok (k_POINT T) (by kernel_rfl) (by decide +kernel))) rfl) (.cons (b_cmp p_eq (e_x (e_idx (e_peek rfl) (e_neg e_int))) (e_x (e_glob T.ok (k_WORDS T) (by kernel_rfl) (by decide +kernel))) rfl) .nil))) (s_cons (s_setlast rfl (e_var rfl) (e_neg e_int) (fun _ => rfl)) s_nil) s_nil) s_nil) (s_cons (s_if (b_all (.cons (b_cmp p_ne (e_peek rfl) (e_x (e_list .nil (by decide))) rfl) (.cons (b_not (b_of T.ok (k_cls T) (e_call T.ok (c_is_gap T) (by decide) (by kernel_rfl) (by decide +kernel) (.cons (fun _ _ => rfl) (e_var rfl) .nil)))) (.cons (b_not (b_of T.ok (k_cls T) (e_call T.ok (c_is_gap T) (by decide) (by kernel_rfl) (by decide +kernel) (.cons (fun _ _ => rfl) (e_idx (e_peek rfl) (e_neg e_int)) .nil)))) .nil)))) (s_cons (s_setlast rfl (e_bin p_add (e_idx (e_peek rfl) (e_neg e_int)) (e_var rfl)) (e_neg e_int) (fun _ => rfl)) s_nil) (s_cons (s_app rfl (fun _ _ => rfl) (e_var rfl) rfl) s_nil)) s_nil)) s_nil)) (fun _ _ => rfl)) (s_cons (s_retvar rfl) s_nil)))

theorem c_law_signs {w : World} {base : Heap} {D : Addr} {mg mb : PySem.Str → Option Value} (T : Top0 w base D mg mb) : Contract (gd w base D mg mb) "_law_signs" sp_law_signs 2 := by
  refine' fn_c (l := 1) T (f := 201) (ps := [.deck, .many]) (fb := f_law_signs) ?hm ?hk ?ho ?hdata ?hcd ?hbody ?hglob ?hbi ?hclo ?hbind ?hn ?hco ?hgen ?hkind ?hs
  case hm => k_is
  case hk => k_is
  case ho => k_is
  case hdata => exact rfl
  case hcd => k_is
  case hbody => exact rfl
  case hglob => exact rfl
  case hbi => exact rfl
  case hclo => exact rfl
  case hbind => exact bv2 fun _ _ => rfl
  case hn => decide +kernel
  case hco => exact rfl
  case hgen => exact rfl
  case hkind => exact rfl
  case hs => exact (s_cons (s_ret (e_join rfl (fun _ => rfl) (fun _ _ => rfl) (e_str (by decide +kernel) (by decide)) (e_comp (x := .nth) (fv := [.deck]) (by kernel_rfl) (e_bi1 T.ok (bi_range T) kept_ty p_range (by kernel_rfl) (by decide +kernel) (fun _ _ => rfl) (e_var rfl)) rfl (e_idx (e_x (e_str (by decide +kernel) (by decide))) (e_call T.ok (c_law_draw T) (by decide) (by kernel_rfl) (by decide +kernel) (.cons (fun _ _ => rfl) (e_var rfl) (.cons (fun _ _ => rfl) e_int .nil)))) (fun _ _ => rfl)))) s_nil)

theorem c_law_cased {w : World} {base : Heap} {D : Addr} {mg mb : PySem.Str → Option Value} (T : Top0 w base D mg mb) : Contract (gd w base D mg mb) "_law_cased" sp_law_cased 2 := by
  refine' fn_c (l := 1) T (f := 206) (ps := [.deck, .text, .is_folding]) (fb := f_law_cased) ?hm ?hk ?ho ?hdata ?hcd ?hbody ?hglob ?hbi ?hclo ?hbind ?hn ?hco ?hgen ?hkind ?hs
  case hm => k_is
  case hk => k_is
  case ho => k_is
  case hdata => exact rfl
  case hcd => k_is
  case hbody => exact rfl
  case hglob => exact rfl
  case hbi => exact rfl
  case hclo => exact rfl
  case hbind => exact bv3 fun _ _ _ => rfl
  case hn => decide +kernel
  case hco => exact rfl
  case hgen => exact rfl
  case hkind => exact rfl
  case hs => exact (s_cons (s_if (b_not (b_of T.ok (k_cls T) (e_var rfl))) (s_cons (s_retvar rfl) s_nil) s_nil) (s_cons (s_ret (e_join rfl (fun _ => rfl) (fun _ _ => rfl) (e_str (by decide +kernel) (by decide)) (e_comp (x := .sign) (fv := [.deck]) (by kernel_rfl) (e_var rfl) rfl (e_ite (b_cmp p_eq (e_x (e_call T.ok (c_law_draw T) (by decide) (by kernel_rfl) (by decide +kernel) (.cons (fun _ _ => rfl) (e_var rfl) (.cons (fun _ _ => rfl) e_int .nil)))) (e_x e_int) rfl) (e_upper rfl (fun _ => rfl) (e_var rfl)) (e_var rfl)) (fun _ _ => rfl)))) s_nil))

theorem c_law_head {w : World} {base : Heap} {D : Addr} {mg mb : PySem.Str → Option Value} (T : Top0 w base D mg mb) : Contract (gd w base D mg mb) "_law_head" sp_law_head 2 := by
  refine' fn_c (l := 1) T (f := 218) (ps := [.some_, .is_folding]) (fb := f_law_head) ?hm ?hk ?ho ?hdata ?hcd ?hbody ?hglob ?hbi ?hclo ?hbind ?hn ?hco ?hgen ?hkind ?hs
  case hm => k_is
  case hk => k_is
  case ho => k_is
  case hdata => exact rfl
  case hcd => k_is
  case hbody => exact rfl
  case hglob => exact rfl
  case hbi => exact rfl
  case hclo => exact rfl
  case hbind => exact bv2 fun _ _ => rfl
  case hn => decide +kernel
  case hco => exact rfl
  case hgen => exact rfl
  case hkind => exact rfl
  case hs => exact (s_cons (s_asg rfl (by kernel_rfl) (e_bi1 T.ok (bi_min T) kept_bi p_min (by kernel_rfl) (by decide +kernel) (fun _ _ => rfl) (e_comp (x := .own) (fv := []) (by kernel_rfl) (e_var rfl) rfl (e_bi1 T.ok (bi_len T) kept_bi p_len (by kernel_rfl) (by decide +kernel) (fun _ _ => rfl) (e_var rfl)) (fun _ _ => rfl))) (fun _ => rfl)) (s_cons (s_for rfl (by kernel_rfl) (e_bi1 T.ok (bi_range T) kept_ty p_range (by kernel_rfl) (by decide +kernel) (fun _ _ => rfl) (e_var rfl)) (s_cons (s_if (b_cmp p_ne (e_x (e_comp (x := .own) (fv := [.is_folding, .at_, .some_]) (by kernel_rfl) (e_var rfl) (b_not (b_of T.ok (k_cls T) (e_call T.ok (c_law_even T) (by decide) (by kernel_rfl) (by decide +kernel) (.cons (fun _ _ => rfl) (e_idx (e_peek rfl) (e_var rfl)) (.cons (fun _ _ => rfl) (e_idx (e_x (e_idx (e_peek rfl) e_int)) (e_var rfl)) (.cons (fun _ _ => rfl) (e_var rfl) .nil)))))) (e_var rfl) (fun _ _ => rfl))) (e_x (e_list .nil (by decide))) rfl) (s_cons (s_retvar rfl) s_nil) s_nil) s_nil) (fun _ _ => rfl)) (s_cons (s_retvar rfl) s_nil)))

theorem c_folded {w : World} {base : Heap} {D : Addr} {mg mb : PySem.Str → Option Value} (T : Top0 w base D mg mb) : Contract (gd w base D mg mb) "folded" sp_folded 3 := by
  refine' fn_c (l := 2) T (f := 33) (ps := [.text, .is_folding]) (fb := f_folded) ?hm ?hk ?ho ?hdata ?hcd ?hbody ?hglob ?hbi ?hclo ?hbind ?hn ?hco ?hgen ?hkind ?hs
  case hm => k_is
  case hk => k_is
  case ho => k_is
  case hdata => exact rfl
  case hcd => k_is
  case hbody => exact rfl
  case hglob => exact rfl
  case hbi => exact rfl
  case hclo => exact rfl
  case hbind => exact bv2 fun _ _ => rfl
  case hn => decide +kernel
  case hco => exact rfl
  case hgen => exact rfl
  case hkind => exact rfl
  case hs => exact (s_cons (s_ret (e_ite (b_of T.ok (k_cls T) (e_var rfl)) (e_join rfl (fun _ => rfl) (fun _ _ => rfl) (e_str (by decide +kernel) (by decide)) (e_comp (x := .sign) (fv := []) (by kernel_rfl) (e_var rfl) rfl (e_bi1 T.ok (bi_chr T) kept_bi p_chr (by kernel_rfl) (by decide +kernel) (fun _ _ => rfl) (e_call T.ok (c_fold T) (by decide) (by kernel_rfl) (by decide +kernel) (.cons (fun _ _ => rfl) (e_bi1 T.ok (bi_ord T) kept_bi p_ord (by kernel_rfl) (by decide +kernel) (fun _ _ => rfl) (e_var rfl)) .nil))) (fun _ _ => rfl))) (e_var rfl))) s_nil)

theorem c_basic_pattern {w : World} {base : Heap} {D : Addr} {mg mb : PySem.Str → Option Value} (T : Top0 w base D mg mb) : Contract (gd w base D mg mb) "basic_pattern" sp_basic_pattern 3 := by
  refine' fn_c (l := 2) T (f := 54) (ps := [.text, .point]) (fb := f_basic_pattern) ?hm ?hk ?ho ?hdata ?hcd ?hbody ?hglob ?hbi ?hclo ?hbind ?hn ?hco ?hgen ?hkind ?hs
  case hm => k_is
  case hk => k_is
  case ho => k_is
  case hdata => exact rfl
  case hcd => k_is
  case hbody => exact rfl
  case hglob => exact rfl
  case hbi => exact rfl
  case hclo => exact rfl
  case hbind => exact bv2 fun _ _ => rfl
  case hn => decide +kernel
  case hco => exact rfl
  case hgen => exact rfl
  case hkind => exact rfl
  case hs => exact (s_cons (s_ret (e_call T.ok (c_tidied T) (by decide) (by kernel_rfl) (by decide +kernel) (.cons (fun _ _ => rfl) (e_ite (b_cmp p_lt (e_peek rfl) (e_x (e_bi1 T.ok (bi_len T) kept_bi p_len (by kernel_rfl) (by decide +kernel) (fun _ _ => rfl) (e_var rfl))) rfl) (e_list (.cons (fun _ _ => rfl) (e_sl (e_peek rfl) trivial (e_var rfl)) (.cons (fun _ _ => rfl) (e_glob T.ok (k_POINT T) (by kernel_rfl) (by decide +kernel)) (.cons (fun _ _ => rfl) (e_sl (e_peek rfl) (e_var rfl) trivial) (.cons (fun _ _ => rfl) (e_glob T.ok (k_ANY T) (by kernel_rfl) (by decide +kernel)) .nil)))) (by decide)) (e_list (.cons (fun _ _ => rfl) (e_var rfl) (.cons (fun _ _ => rfl) (e_glob T.ok (k_POINT T) (by kernel_rfl) (by decide +kernel)) .nil)) (by decide))) .nil))) s_nil)

theorem c_substring_pattern {w : World} {base : Heap} {D : Addr} {mg mb : PySem.Str → Option Value} (T : Top0 w base D mg mb) : Contract (gd w base D mg mb) "substring_pattern" sp_substring_pattern 3 := by
  refine' fn_c (l := 2) T (f := 61) (ps := [.text, .point]) (fb := f_substring_pattern) ?hm ?hk ?ho ?hdata ?hcd ?hbody ?hglob ?hbi ?hclo ?hbind ?hn ?hco ?hgen ?hkind ?hs
  case hm => k_is
  case hk => k_is
  case ho => k_is
  case hdata => exact rfl
  case hcd => k_is
  case hbody => exact rfl
  case hglob => exact rfl
  case hbi => exact rfl
  case hclo => exact rfl
  case hbind => exact bv2 fun _ _ => rfl
  case hn => decide +kernel
  case hco => exact rfl
  case hgen => exact rfl
  case hkind => exact rfl
  case hs => exact (s_cons (s_ret (e_call T.ok (c_tidied T) (by decide) (by kernel_rfl) (by decide +kernel) (.cons (fun _ _ => rfl) (e_list (.cons (fun _ _ => rfl) (e_glob T.ok (k_ANY T) (by kernel_rfl) (by decide +kernel)) (.cons (fun _ _ => rfl) (e_sl (e_peek rfl) trivial (e_var rfl)) (.cons (fun _ _ => rfl) (e_glob T.ok (k_POINT T) (by kernel_rfl) (by decide +kernel)) (.cons (fun _ _ => rfl) (e_sl (e_peek rfl) (e_var rfl) trivial) (.cons (fun _ _ => rfl) (e_glob T.ok (k_ANY T) (by kernel_rfl) (by decide +kernel)) .nil))))) (by decide)) .nil))) s_nil)

theorem c_law_made {w : World} {base : Heap} {D : Addr} {mg mb : PySem.Str → Option Value} (T : Top0 w base D mg mb) : Contract (gd w base D mg mb) "_law_made" sp_law_made 3 := by
  refine' fn_c (l := 2) T (f := 225) (ps := [.deck, .is_folding, .has_lead, .first, .last]) (fb := f_law_made) ?hm ?hk ?ho ?hdata ?hcd ?hbody ?hglob ?hbi ?hclo ?hbind ?hn ?hco ?hgen ?hkind ?hs
  case hm => k_is
  case hk => k_is
  case ho => k_is
  case hdata => exact rfl
  case hcd => k_is
  case hbody => exact rfl
  case hglob => exact rfl
  case hbi => exact rfl
  case hclo => exact rfl
  case hbind => exact bv5 fun _ _ _ _ _ => rfl
  case hn => decide +kernel
  case hco => exact rfl
  case hgen => exact rfl
  case hkind => exact rfl
  case hs => exact (s_cons (s_multiR' (.cons rfl (by kernel_rfl) (.cons rfl (by kernel_rfl) .nil)) (.lst .nil (by decide) (.v (fun _ _ => rfl) (e_bin p_add e_int (e_call T.ok (c_law_draw T) (by decide) (by kernel_rfl) (by decide +kernel) (.cons (fun _ _ => rfl) (e_var rfl) (.cons (fun _ _ => rfl) e_int .nil)))) .nil)) (by decide) (by kernel_rfl)) (s_cons (s_for rfl (by kernel_rfl) (e_bi1 T.ok (bi_range T) kept_ty p_range (by kernel_rfl) (by decide +kernel) (fun _ _ => rfl) (e_var rfl)) (s_cons (s_own rfl (by kernel_rfl) (.cons (fun _ _ => rfl) (e_call T.ok (c_law_signs T) (by decide) (by kernel_rfl) (by decide +kernel) (.cons (fun _ _ => rfl) (e_var rfl) (.cons (fun _ _ => rfl) (e_ite (b_of T.ok (k_cls T) (e_var rfl)) (e_call T.ok (c_law_draw T) (by decide) (by kernel_rfl) (by decide +kernel) (.cons (fun _ _ => rfl) (e_var rfl) (.cons (fun _ _ => rfl) e_int .nil))) e_int) .nil))) (.cons (fun _ _ => rfl) (e_call T.ok (c_law_cased T) (by decide) (by kernel_rfl) (by decide +kernel) (.cons (fun _ _ => rfl) (e_var rfl) (.cons (fun _ _ => rfl) (e_var rfl) (.cons (fun _ _ => rfl) (e_var rfl) .nil)))) .nil)) (by decide)) (s_cons (s_app rfl (fun _ _ => rfl) (e_call T.ok (c_law_signs T) (by decide) (by kernel_rfl) (by decide +kernel) (.cons (fun _ _ => rfl) (e_var rfl) (.cons (fun _ _ => rfl) (e_call T.ok (c_law_draw T) (by decide) (by kernel_rfl) (by decide +kernel) (.cons (fun _ _ => rfl) (e_var rfl) (.cons (fun _ _ => rfl) e_int .nil))) .nil))) rfl) (s_cons (s_if (b_cmp p_ne (e_peek rfl) (e_x (e_str (by decide +kernel) (by decide))) rfl) (s_cons (s_frz .row (s_asg rfl (by kernel_rfl) (e_bin p_add (e_var rfl) (e_list (.cons (fun _ _ => rfl) (e_call T.ok (c_law_cased T) (by decide) (by kernel_rfl) (by decide +kernel) (.cons (fun _ _ => rfl) (e_var rfl) (.cons (fun _ _ => rfl) (e_var rfl) (.cons (fun _ _ => rfl) (e_var rfl) .nil)))) (.cons (fun _ _ => rfl) (e_call T.ok (c_law_signs T) (by decide) (by kernel_rfl) (by decide +kernel) (.cons (fun _ _ => rfl) (e_var rfl) (.cons (fun _ _ => rfl) (e_call T.ok (c_law_draw T) (by decide) (by kernel_rfl) (by decide +kernel) (.cons (fun _ _ => rfl) (e_var rfl) (.cons (fun _ _ => rfl) e_int .nil))) .nil))) .nil)) (by decide))) (fun _ => rfl))) s_nil) s_nil) (s_cons (s_frz .row (s_app rfl (fun _ _ => rfl) (e_var rfl) rfl)) s_nil)))) (fun _ _ => rfl)) (s_cons (s_retvar rfl) s_nil)))

theorem c_law_common {w : World} {base : Heap} {D : Addr} {mg mb : PySem.Str → Option Value} (T : Top0 w base D mg mb) : Contract (gd w base D mg mb) "_law_common" sp_law_common 3 := by
  refine' fn_c (l := 2) T (f := 230) (ps := [.rows, .is_folding]) (fb := f_law_common) ?hm ?hk ?ho ?hdata ?hcd ?hbody ?hglob ?hbi ?hclo ?hbind ?hn ?hco ?hgen ?hkind ?hs
  case hm => k_is
  case hk => k_is
  case ho => k_is
  case hdata => exact rfl
  case hcd => k_is
  case hbody => exact rfl
  case hglob => exact rfl
  case hbi => exact rfl
  case hclo => exact rfl
  case hbind => exact bv2 fun _ _ => rfl
  case hn => decide +kernel
  case hco => exact rfl
  case hgen => exact rfl
  case hkind => exact rfl
  case hs => exact (s_cons (s_multi' (.cons rfl (by kernel_rfl) (.cons rfl (by kernel_rfl) (.cons rfl (by kernel_rfl) .nil))) (.v (fun _ _ => rfl) (e_str (by decide +kernel) (by decide)) (.v (fun _ _ => rfl) e_int (.v (fun _ _ => rfl) (e_neg e_int) .nil))) (by decide) (by kernel_rfl)) (s_cons (s_for rfl (by kernel_rfl) (e_bi1 T.ok (bi_range T) kept_ty p_range (by kernel_rfl) (by decide +kernel) (fun _ _ => rfl) (e_bi1 T.ok (bi_len T) kept_bi p_len (by kernel_rfl) (by decide +kernel) (fun _ _ => rfl) (e_idx (e_peek rfl) e_int))) (s_cons (s_acomp (x := .row) (fv := [.index]) rfl (by kernel_rfl) (by kernel_rfl) (e_var rfl) rfl (e_idx (e_peek rfl) (e_var rfl)) (fun _ _ => rfl)) (s_cons (s_if (b_cmp p_eq (e_x (e_bin p_mod (e_var rfl) e_int)) (e_x e_int) rfl) (s_cons (s_asg rfl (by kernel_rfl) (e_bin p_add (e_var rfl) (e_idx (e_peek rfl) e_int)) (fun _ => rfl)) (s_cons s_cont s_nil)) s_nil) (s_cons (s_asg rfl (by kernel_rfl) (e_call T.ok (c_law_head T) (by decide) (by kernel_rfl) (by decide +kernel) (.cons (fun _ _ => rfl) (e_var rfl) (.cons (fun _ _ => rfl) (e_var rfl) .nil))) (fun _ => rfl)) (s_cons (s_acomp (x := .own) (fv := [.head]) rfl (by kernel_rfl) (by kernel_rfl) (e_var rfl) rfl (e_sl (e_peek rfl) (e_var rfl) trivial) (fun _ _ => rfl)) (s_cons (s_asg rfl (by kernel_rfl) (e_bin p_add (e_var rfl) (e_sl (e_x (e_idx (e_peek rfl) e_int)) trivial (e_var rfl))) (fun _ => rfl)) (s_cons (s_if (b_cmp p_eq (e_peek rfl) (e_x e_int) rfl) (s_cons (s_asg rfl (by kernel_rfl) (e_bi1 T.ok (bi_len T) kept_bi p_len (by kernel_rfl) (by decide +kernel) (fun _ _ => rfl) (e_var rfl)) (fun _ => rfl)) s_nil) s_nil) (s_cons (s_if (b_cmp p_ne (e_x (e_comp (x := .own) (fv := []) (by kernel_rfl) (e_var rfl) (b_cmp p_ne (e_peek rfl) (e_x (e_str (by decide +kernel) (by decide))) rfl) (e_var rfl) (fun _ _ => rfl))) (e_x (e_list .nil (by decide))) rfl) (s_cons (s_asg rfl (by kernel_rfl) (e_ite (b_cmp p_lt (e_peek rfl) (e_x e_int) rfl) (e_bi1 T.ok (bi_len T) kept_bi p_len (by kernel_rfl) (by decide +kernel) (fun _ _ => rfl) (e_var rfl)) (e_var rfl)) (fun _ => rfl)) (s_cons (s_asg rfl (by kernel_rfl) (e_ite (b_cmp p_lt (e_peek rfl) (e_x (e_bin p_sub (e_bi1 T.ok (bi_len T) kept_bi p_len (by kernel_rfl) (by decide +kernel) (fun _ _ => rfl) (e_idx (e_peek rfl) e_int)) e_int)) rfl) (e_call T.ok (c_law_head T) (by decide) (by kernel_rfl) (by decide +kernel) (.cons (fun _ _ => rfl) (e_comp (x := .own) (fv := []) (by kernel_rfl) (e_var rfl) rfl (e_rev (e_var rfl)) (fun _ _ => rfl)) (.cons (fun _ _ => rfl) (e_var rfl) .nil))) e_int) (fun _ => rfl)) (s_cons (s_asg rfl (by kernel_rfl) (e_bin p_add (e_var rfl) (e_sl (e_x (e_idx (e_peek rfl) e_int)) (e_bin p_sub (e_bi1 T.ok (bi_len T) kept_bi p_len (by kernel_rfl) (by decide +kernel) (fun _ _ => rfl) (e_idx (e_peek rfl) e_int)) (e_var rfl)) trivial)) (fun _ => rfl)) s_nil))) s_nil) s_nil))))))) (fun _ _ => rfl)) (s_cons (s_ret (e_tup (.cons (fun _ _ => rfl) (e_var rfl) (.cons (fun _ _ => rfl) (e_ite (b_cmp p_ge (e_peek rfl) (e_x e_int) rfl) (e_var rfl) (e_var rfl)) .nil)) (by decide))) s_nil)))

theorem c_pattern_of {w : World} {base : Heap} {D : Addr} {mg mb : PySem.Str → Option Value} (T : Top0 w base D mg mb) : Contract (gd w base D mg mb) "pattern_of" sp_pattern_of 4 := by
  refine' fn_c (l := 3) T (f := 87) (ps := [.style, .text, .point]) (fb := f_pattern_of) ?hm ?hk ?ho ?hdata ?hcd ?hbody ?hglob ?hbi ?hclo ?hbind ?hn ?hco ?hgen ?hkind ?hs
  case hm => k_is
  case hk => k_is
  case ho => k_is
  case hdata => exact rfl
  case hcd => k_is
  case hbody => exact rfl
  case hglob => exact rfl
  case hbi => exact rfl
  case hclo => exact rfl
  case hbind => exact bv3 fun _ _ _ => rfl
  case hn => decide +kernel
  case hco => exact rfl
  case hgen => exact rfl
  case hkind => exact rfl
  case hs => exact (s_cons (s_if (b_cmp p_eq (e_peek rfl) (e_x (e_str (by decide +kernel) (by decide))) rfl) (s_cons (s_ret (e_call T.ok (c_basic_pattern T) (by decide) (by kernel_rfl) (by decide +kernel) (.cons (fun _ _ => rfl) (e_var rfl) (.cons (fun _ _ => rfl) (e_var rfl) .nil)))) s_nil) s_nil) (s_cons (s_if (b_cmp p_eq (e_peek rfl) (e_x (e_str (by decide +kernel) (by decide))) rfl) (s_cons (s_ret (e_call T.ok (c_substring_pattern T) (by decide) (by kernel_rfl) (by decide +kernel) (.cons (fun _ _ => rfl) (e_var rfl) (.cons (fun _ _ => rfl) (e_var rfl) .nil)))) s_nil) s_nil) (s_cons (s_if (b_cmp p_eq (e_peek rfl) (e_x (e_str (by decide +kernel) (by decide))) rfl) (s_cons (s_ret e_fail) s_nil) s_nil) (s_cons (s_if (b_cmp p_eq (e_peek rfl) (e_x (e_str (by decide +kernel) (by decide))) rfl) (s_cons (s_ret e_fail) s_nil) s_nil) (s_cons (s_if (b_cmp p_eq (e_peek rfl) (e_x (e_str (by decide +kernel) (by decide))) rfl) (s_cons (s_ret e_fail) s_nil) s_nil) (s_cons (s_ret e_none) s_nil))))))

theorem c_found_from {w : World} {base : Heap} {D : Addr} {mg mb : PySem.Str → Option Value} (T : Top0 w base D mg mb) : Contract (gd w base D mg mb) "found_from" sp_found_from 4 := by
  refine' fn_c (l := 3) T (f := 94) (ps := [.text, .candidate, .start, .end_, .is_folding]) (fb := f_found_from) ?hm ?hk ?ho ?hdata ?hcd ?hbody ?hglob ?hbi ?hclo ?hbind ?hn ?hco ?hgen ?hkind ?hs
  case hm => k_is
  case hk => k_is
  case ho => k_is
  case hdata => exact rfl
  case hcd => k_is
  case hbody => exact rfl
  case hglob => exact rfl
  case hbi => exact rfl
  case hclo => exact rfl
  case hbind => exact bv5 fun _ _ _ _ _ => rfl
  case hn => decide +kernel
  case hco => exact rfl
  case hgen => exact rfl
  case hkind => exact rfl
  case hs => exact (s_cons (s_asg rfl (by kernel_rfl) (e_call T.ok (c_folded T) (by decide) (by kernel_rfl) (by decide +kernel) (.cons (fun _ _ => rfl) (e_var rfl) (.cons (fun _ _ => rfl) (e_var rfl) .nil))) (fun _ => rfl)) (s_cons (s_for rfl (by kernel_rfl) (e_range2 T.ok (bi_range T) (by kernel_rfl) (fun _ _ => rfl) (fun _ _ => rfl) (e_var rfl) (e_bin p_add (e_bin p_sub (e_var rfl) (e_bi1 T.ok (bi_len T) kept_bi p_len (by kernel_rfl) (by decide +kernel) (fun _ _ => rfl) (e_var rfl))) e_int)) (s_cons (s_if (b_cmp p_eq (e_x (e_call T.ok (c_folded T) (by decide) (by kernel_rfl) (by decide +kernel) (.cons (fun _ _ => rfl) (e_sl (e_peek rfl) (e_var rfl) (e_bin p_add (e_var rfl) (e_bi1 T.ok (bi_len T) kept_bi p_len (by kernel_rfl) (by decide +kernel) (fun _ _ => rfl) (e_var rfl)))) (.cons (fun _ _ => rfl) (e_var rfl) .nil)))) (e_peek rfl) rfl) (s_cons (s_retvar rfl) s_nil) s_nil) s_nil) (fun _ _ => rfl)) (s_cons (s_ret (e_neg e_int)) s_nil)))

theorem c_common_head {w : World} {base : Heap} {D : Addr} {mg mb : PySem.Str → Option Value} (T : Top0 w base D mg mb) : Contract (gd w base D mg mb) "common_head" sp_common_head 4 := by
  refine' fn_c (l := 3) T (f := 146) (ps := [.texts, .is_folding]) (fb := f_common_head) ?hm ?hk ?ho ?hdata ?hcd ?hbody ?hglob ?hbi ?hclo ?hbind ?hn ?hco ?hgen ?hkind ?hs
  case hm => k_is
  case hk => k_is
  case ho => k_is
  case hdata => exact rfl
  case hcd => k_is
  case hbody => exact rfl
  case hglob => exact rfl
  case hbi => exact rfl
  case hclo => exact rfl
  case hbind => exact bv2 fun _ _ => rfl
  case hn => decide +kernel
  case hco => exact rfl
  case hgen => exact rfl
  case hkind => exact rfl
  case hs => exact (s_cons (s_asg rfl (by kernel_rfl) (e_bi1 T.ok (bi_min T) kept_bi p_min (by kernel_rfl) (by decide +kernel) (fun _ _ => rfl) (e_comp (x := .own) (fv := []) (by kernel_rfl) (e_var rfl) rfl (e_bi1 T.ok (bi_len T) kept_bi p_len (by kernel_rfl) (by decide +kernel) (fun _ _ => rfl) (e_var rfl)) (fun _ _ => rfl))) (fun _ => rfl)) (s_cons (s_asg rfl (by kernel_rfl) e_int (fun _ => rfl)) (s_cons (s_while (b_all (.cons (b_cmp p_lt (e_peek rfl) (e_peek rfl) rfl) (.cons (b_cmp p_eq (e_x (e_bi1 T.ok (bi_len T) kept_bi p_len (by kernel_rfl) (by decide +kernel) (fun _ _ => rfl) (e_bi1 T.ok (bi_set T) kept_ty p_set (by kernel_rfl) (by decide +kernel) (fun _ _ => rfl) (e_comp (x := .own) (fv := [.is_folding, .at_]) (by kernel_rfl) (e_var rfl) rfl (e_bi1 T.ok (bi_ord T) kept_bi p_ord (by kernel_rfl) (by decide +kernel) (fun _ _ => rfl) (e_idx (e_x (e_call T.ok (c_folded T) (by decide) (by kernel_rfl) (by decide +kernel) (.cons (fun _ _ => rfl) (e_idx (e_peek rfl) (e_var rfl)) (.cons (fun _ _ => rfl) (e_var rfl) .nil)))) e_int)) (fun _ _ => rfl))))) (e_x e_int) rfl) .nil))) (s_cons (s_asg rfl (by kernel_rfl) (e_bin p_add (e_var rfl) e_int) (fun _ => rfl)) s_nil)) (s_cons (s_retvar rfl) s_nil))))

theorem c_fit_of {w : World} {base : Heap} {D : Addr} {mg mb : PySem.Str → Option Value} (T : Top0 w base D mg mb) : Contract (gd w base D mg mb) "fit_of" sp_fit_of 5 := by
  refine' fn_c (l := 4) T (f := 129) (ps := [.pattern, .candidate, .is_folding]) (fb := f_fit_of) ?hm ?hk ?ho ?hdata ?hcd ?hbody ?hglob ?hbi ?hclo ?hbind ?hn ?hco ?hgen ?hkind ?hs
  case hm => k_is
  case hk => k_is
  case ho => k_is
  case hdata => exact rfl
  case hcd => k_is
  case hbody => exact rfl
  case hglob => exact rfl
  case hbi => exact rfl
  case hclo => exact rfl
  case hbind => exact bv3 fun _ _ _ => rfl
  case hn => decide +kernel
  case hco => exact rfl
  case hgen => exact rfl
  case hkind => exact rfl
  case hs => exact (s_cons (s_multiR' (.cons rfl (by kernel_rfl) (.cons rfl (by kernel_rfl) (.cons rfl (by kernel_rfl) .nil))) (.lst (.cons (fun _ _ => rfl) (e_tup (.cons (fun _ _ => rfl) e_int (.cons (fun _ _ => rfl) e_int (.cons (fun _ _ => rfl) (e_list .nil (by decide)) .nil))) (by decide)) .nil) (by decide) (.dic (.v (fun _ _ => rfl) (e_bin p_add (e_bi1 T.ok (bi_len T) kept_bi p_len (by kernel_rfl) (by decide +kernel) (fun _ _ => rfl) (e_var rfl)) e_int) .nil))) (by decide) (by kernel_rfl)) (s_cons (s_while (b_cmp p_ne (e_peek rfl) (e_x (e_list .nil (by decide))) rfl) (s_cons (s_pop rfl (.cons rfl (by kernel_rfl) (.cons rfl (by kernel_rfl) (.cons rfl (by kernel_rfl) .nil))) rfl) (s_cons (s_if (b_cmp p_in (e_x (e_bin p_add (e_bin p_mul (e_var rfl) (e_var rfl)) (e_var rfl))) (e_peek rfl) rfl) (s_cons s_cont s_nil) s_nil) (s_cons (s_setkey rfl (e_bin p_add (e_bin p_mul (e_var rfl) (e_var rfl)) (e_var rfl)) (fun _ => rfl)) (s_cons (s_if (b_cmp p_eq (e_peek rfl) (e_x (e_bi1 T.ok (bi_len T) kept_bi p_len (by kernel_rfl) (by decide +kernel) (fun _ _ => rfl) (e_var rfl))) rfl) (s_cons (s_if (b_cmp p_eq (e_peek rfl) (e_x (e_bi1 T.ok (bi_len T) kept_bi p_len (by kernel_rfl) (by decide +kernel) (fun _ _ => rfl) (e_var rfl))) rfl) (s_cons (s_ret (e_call T.ok (c_Fit T) (by decide) (by kernel_rfl) (by decide +kernel) (.cons (fun _ _ => rfl) (e_bin p_add (e_var rfl) (e_list (.cons (fun _ _ => rfl) (e_var rfl) .nil) (by decide))) .nil))) s_nil) s_nil) (s_cons s_cont s_nil)) s_nil) (s_cons (s_asg rfl (by kernel_rfl) (e_idx (e_peek rfl) (e_var rfl)) (fun _ => rfl)) (s_cons (s_if (b_not (b_of T.ok (k_cls T) (e_call T.ok (c_is_gap T) (by decide) (by kernel_rfl) (by decide +kernel) (.cons (fun _ _ => rfl) (e_var rfl) .nil)))) (s_cons (s_if (b_cmp p_eq (e_x (e_call T.ok (c_folded T) (by decide) (by kernel_rfl) (by decide +kernel) (.cons (fun _ _ => rfl) (e_sl (e_peek rfl) (e_var rfl) (e_bin p_add (e_var rfl) (e_bi1 T.ok (bi_len T) kept_bi p_len (by kernel_rfl) (by decide +kernel) (fun _ _ => rfl) (e_var rfl)))) (.cons (fun _ _ => rfl) (e_var rfl) .nil)))) (e_x (e_call T.ok (c_folded T) (by decide) (by kernel_rfl) (by decide +kernel) (.cons (fun _ _ => rfl) (e_var rfl) (.cons (fun _ _ => rfl) (e_var rfl) .nil)))) rfl) (s_cons (s_app rfl (fun _ _ => rfl) (e_tup (.cons (fun _ _ => rfl) (e_bin p_add (e_var rfl) e_int) (.cons (fun _ _ => rfl) (e_bin p_add (e_var rfl) (e_bi1 T.ok (bi_len T) kept_bi p_len (by kernel_rfl) (by decide +kernel) (fun _ _ => rfl) (e_var rfl))) (.cons (fun _ _ => rfl) (e_bin p_add (e_var rfl) (e_list (.cons (fun _ _ => rfl) (e_var rfl) .nil) (by decide))) .nil))) (by decide)) rfl) s_nil) s_nil) (s_cons s_cont s_nil)) s_nil) (s_cons (s_asg rfl (by kernel_rfl) (e_ite (b_cmp p_eq (e_peek rfl) (e_x (e_glob T.ok (k_WORDS T) (by kernel_rfl) (by decide +kernel))) rfl) e_fail (e_bi1 T.ok (bi_len T) kept_bi p_len (by kernel_rfl) (by decide +kernel) (fun _ _ => rfl) (e_var rfl))) (fun _ => rfl)) (s_cons (s_if (b_cmp p_eq (e_peek rfl) (e_x (e_bin p_sub (e_bi1 T.ok (bi_len T) kept_bi p_len (by kernel_rfl) (by decide +kernel) (fun _ _ => rfl) (e_var rfl)) e_int)) rfl) (s_cons (s_if (b_cmp p_eq (e_peek rfl) (e_x (e_bi1 T.ok (bi_len T) kept_bi p_len (by kernel_rfl) (by decide +kernel) (fun _ _ => rfl) (e_var rfl))) rfl) (s_cons (s_app rfl (fun _ _ => rfl) (e_tup (.cons (fun _ _ => rfl) (e_bin p_add (e_var rfl) e_int) (.cons (fun _ _ => rfl) (e_var rfl) (.cons (fun _ _ => rfl) (e_bin p_add (e_var rfl) (e_list (.cons (fun _ _ => rfl) (e_var rfl) .nil) (by decide))) .nil))) (by decide)) rfl) s_nil) s_nil) (s_cons s_cont s_nil)) s_nil) (s_cons (s_asg rfl (by kernel_rfl) (e_idx (e_peek rfl) (e_bin p_add (e_var rfl) e_int)) (fun _ => rfl)) (s_cons (s_own rfl (by kernel_rfl) .nil (by decide)) (s_cons (s_asg rfl (by kernel_rfl) (e_call T.ok (c_found_from T) (by decide) (by kernel_rfl) (by decide +kernel) (.cons (fun _ _ => rfl) (e_var rfl) (.cons (fun _ _ => rfl) (e_var rfl) (.cons (fun _ _ => rfl) (e_var rfl) (.cons (fun _ _ => rfl) (e_bin p_add (e_var rfl) (e_bi1 T.ok (bi_len T) kept_bi p_len (by kernel_rfl) (by decide +kernel) (fun _ _ => rfl) (e_var rfl))) (.cons (fun _ _ => rfl) (e_var rfl) .nil)))))) (fun _ => rfl)) (s_cons (s_while (b_all (.cons (b_cmp p_ge (e_peek rfl) (e_x e_int) rfl) (.cons (b_cmp p_le (e_peek rfl) (e_peek rfl) rfl) .nil))) (s_cons (s_app rfl (fun _ _ => rfl) (e_tup (.cons (fun _ _ => rfl) (e_bin p_add (e_var rfl) e_int) (.cons (fun _ _ => rfl) (e_var rfl) (.cons (fun _ _ => rfl) (e_bin p_add (e_var rfl) (e_list (.cons (fun _ _ => rfl) (e_var rfl) .nil) (by decide))) .nil))) (by decide)) rfl) (s_cons (s_asg rfl (by kernel_rfl) (e_call T.ok (c_found_from T) (by decide) (by kernel_rfl) (by decide +kernel) (.cons (fun _ _ => rfl) (e_var rfl) (.cons (fun _ _ => rfl) (e_var rfl) (.cons (fun _ _ => rfl) (e_bin p_add (e_var rfl) e_int) (.cons (fun _ _ => rfl) (e_bin p_add (e_var rfl) (e_bi1 T.ok (bi_len T) kept_bi p_len (by kernel_rfl) (by decide +kernel) (fun _ _ => rfl) (e_var rfl))) (.cons (fun _ _ => rfl) (e_var rfl) .nil)))))) (fun _ => rfl)) s_nil))) (s_cons (s_frz .further (s_ext rfl (fun _ _ => rfl) (e_rev (e_var rfl)) rfl)) s_nil)))))))))))))) (s_cons (s_ret e_none) s_nil)))

theorem c_common_tail {w : World} {base : Heap} {D : Addr} {mg mb : PySem.Str → Option Value} (T : Top0 w base D mg mb) : Contract (gd w base D mg mb) "common_tail" sp_common_tail 5 := by
  refine' fn_c (l := 4) T (f := 151) (ps := [.texts, .is_folding]) (fb := f_common_tail) ?hm ?hk ?ho ?hdata ?hcd ?hbody ?hglob ?hbi ?hclo ?hbind ?hn ?hco ?hgen ?hkind ?hs
  case hm => k_is
  case hk => k_is
  case ho => k_is
  case hdata => exact rfl
  case hcd => k_is
  case hbody => exact rfl
  case hglob => exact rfl
  case hbi => exact rfl
  case hclo => exact rfl
  case hbind => exact bv2 fun _ _ => rfl
  case hn => decide +kernel
  case hco => exact rfl
  case hgen => exact rfl
  case hkind => exact rfl
  case hs => exact (s_cons (s_ret (e_call T.ok (c_common_head T) (by decide) (by kernel_rfl) (by decide +kernel) (.cons (fun _ _ => rfl) (e_comp (x := .own) (fv := []) (by kernel_rfl) (e_var rfl) rfl (e_rev (e_var rfl)) (fun _ _ => rfl)) (.cons (fun _ _ => rfl) (e_var rfl) .nil)))) s_nil)

theorem c_fitting {w : World} {base : Heap} {D : Addr} {mg mb : PySem.Str → Option Value} (T : Top0 w base D mg mb) : Contract (gd w base D mg mb) "fitting" sp_fitting 6 := by
  refine' fn_c (l := 5) T (f := 134) (ps := [.pattern, .candidates, .is_folding]) (fb := f_fitting) ?hm ?hk ?ho ?hdata ?hcd ?hbody ?hglob ?hbi ?hclo ?hbind ?hn ?hco ?hgen ?hkind ?hs
  case hm => k_is
  case hk => k_is
  case ho => k_is
  case hdata => exact rfl
  case hcd => k_is
  case hbody => exact rfl
  case hglob => exact rfl
  case hbi => exact rfl
  case hclo => exact rfl
  case hbind => exact bv3 fun _ _ _ => rfl
  case hn => decide +kernel
  case hco => exact rfl
  case hgen => exact rfl
  case hkind => exact rfl
  case hs => exact (s_cons (s_ret (e_comp (x := .own) (fv := [.pattern, .is_folding]) (by kernel_rfl) (e_var rfl) (b_isNotNone (e_call T.ok (c_fit_of T) (by decide) (by kernel_rfl) (by decide +kernel) (.cons (fun _ _ => rfl) (e_var rfl) (.cons (fun _ _ => rfl) (e_var rfl) (.cons (fun _ _ => rfl) (e_var rfl) .nil))))) (e_var rfl) (fun _ _ => rfl))) s_nil)

theorem c_merged {w : World} {base : Heap} {D : Addr} {mg mb : PySem.Str → Option Value} (T : Top0 w base D mg mb) : Contract (gd w base D mg mb) "merged" sp_merged 6 := by
  refine' fn_c (l := 5) T (f := 184) (ps := [.pattern, .candidates, .is_folding]) (fb := f_merged) ?hm ?hk ?ho ?hdata ?hcd ?hbody ?hglob ?hbi ?hclo ?hbind ?hn ?hco ?hgen ?hkind ?hs
  case hm => k_is
  case hk => k_is
  case ho => k_is
  case hdata => exact rfl
  case hcd => k_is
  case hbody => exact rfl
  case hglob => exact rfl
  case hbi => exact rfl
  case hclo => exact rfl
  case hbind => exact bv3 fun _ _ _ => rfl
  case hn => decide +kernel
  case hco => exact rfl
  case hgen => exact rfl
  case hkind => exact rfl
  case hs => exact (s_cons (s_acomp (x := .own) (fv := [.pattern, .is_folding]) rfl (by kernel_rfl) (by kernel_rfl) (e_var rfl) rfl (e_call T.ok (c_fit_of T) (by decide) (by kernel_rfl) (by decide +kernel) (.cons (fun _ _ => rfl) (e_var rfl) (.cons (fun _ _ => rfl) (e_var rfl) (.cons (fun _ _ => rfl) (e_var rfl) .nil)))) (fun _ _ => rfl)) (s_cons (s_multi' (.cons rfl (by kernel_rfl) (.cons rfl (by kernel_rfl) (.cons rfl (by kernel_rfl) .nil))) (.v (fun _ _ => rfl) (e_str (by decide +kernel) (by decide)) (.v (fun _ _ => rfl) (e_neg e_int) (.v (fun _ _ => rfl) (e_neg e_int) .nil))) (by decide) (by kernel_rfl)) (s_cons (s_for rfl (by kernel_rfl) (e_bi1 T.ok (bi_range T) kept_ty p_range (by kernel_rfl) (by decide +kernel) (fun _ _ => rfl) (e_bi1 T.ok (bi_len T) kept_bi p_len (by kernel_rfl) (by decide +kernel) (fun _ _ => rfl) (e_var rfl))) (s_cons (s_asg rfl (by kernel_rfl) (e_call T.ok (c_gap_texts T) (by decide) (by kernel_rfl) (by decide +kernel) (.cons (fun _ _ => rfl) (e_var rfl) (.cons (fun _ _ => rfl) (e_var rfl) (.cons (fun _ _ => rfl) (e_var rfl) (.cons (fun _ _ => rfl) (e_var rfl) .nil))))) (fun _ => rfl)) (s_cons (s_if (b_not (b_of T.ok (k_cls T) (e_call T.ok (c_is_gap T) (by decide) (by kernel_rfl) (by decide +kernel) (.cons (fun _ _ => rfl) (e_idx (e_peek rfl) (e_var rfl)) .nil)))) (s_cons (s_asg rfl (by kernel_rfl) (e_bin p_add (e_var rfl) (e_idx (e_peek rfl) e_int)) (fun _ => rfl)) (s_cons s_cont s_nil)) s_nil) (s_cons (s_asg rfl (by kernel_rfl) (e_call T.ok (c_common_head T) (by decide) (by kernel_rfl) (by decide +kernel) (.cons (fun _ _ => rfl) (e_var rfl) (.cons (fun _ _ => rfl) (e_var rfl) .nil))) (fun _ => rfl)) (s_cons (s_asg rfl (by kernel_rfl) (e_bin p_add (e_var rfl) (e_sl (e_x (e_idx (e_peek rfl) e_int)) trivial (e_var rfl))) (fun _ => rfl)) (s_cons (s_acomp (x := .own) (fv := [.head]) rfl (by kernel_rfl) (by kernel_rfl) (e_var rfl) rfl (e_sl (e_peek rfl) (e_var rfl) trivial) (fun _ _ => rfl)) (s_cons (s_asg rfl (by kernel_rfl) (e_cmp p_ne (e_x (e_comp (x := .own) (fv := []) (by kernel_rfl) (e_var rfl) (b_cmp p_ne (e_peek rfl) (e_x (e_str (by decide +kernel) (by decide))) rfl) e_int (fun _ _ => rfl))) (e_x (e_list .nil (by decide))) rfl) (fun _ => rfl)) (s_cons (s_if (b_all (.cons (b_of T.ok (k_cls T) (e_var rfl)) (.cons (b_cmp p_lt (e_peek rfl) (e_x e_int) rfl) .nil))) (s_cons (s_asg rfl (by kernel_rfl) (e_bi1 T.ok (bi_len T) kept_bi p_len (by kernel_rfl) (by decide +kernel) (fun _ _ => rfl) (e_var rfl)) (fun _ => rfl)) s_nil) s_nil) (s_cons (s_if (b_cmp p_eq (e_x (e_idx (e_peek rfl) (e_var rfl))) (e_x (e_glob T.ok (k_POINT T) (by kernel_rfl) (by decide +kernel))) rfl) (s_cons (s_asg rfl (by kernel_rfl) (e_bi1 T.ok (bi_len T) kept_bi p_len (by kernel_rfl) (by decide +kernel) (fun _ _ => rfl) (e_var rfl)) (fun _ => rfl)) s_nil) s_nil) (s_cons (s_if (b_all (.cons (b_of T.ok (k_cls T) (e_var rfl)) (.cons (b_cmp p_lt (e_peek rfl) (e_x (e_bin p_sub (e_bi1 T.ok (bi_len T) kept_bi p_len (by kernel_rfl) (by decide +kernel) (fun _ _ => rfl) (e_var rfl)) e_int)) rfl) .nil))) (s_cons (s_asg rfl (by kernel_rfl) (e_call T.ok (c_common_tail T) (by decide) (by kernel_rfl) (by decide +kernel) (.cons (fun _ _ => rfl) (e_var rfl) (.cons (fun _ _ => rfl) (e_var rfl) .nil))) (fun _ => rfl)) (s_cons (s_asg rfl (by kernel_rfl) (e_bin p_add (e_var rfl) (e_sl (e_x (e_idx (e_peek rfl) e_int)) (e_bin p_sub (e_bi1 T.ok (bi_len T) kept_bi p_len (by kernel_rfl) (by decide +kernel) (fun _ _ => rfl) (e_idx (e_peek rfl) e_int)) (e_var rfl)) trivial)) (fun _ => rfl)) s_nil)) s_nil) s_nil))))))))) (fun _ _ => rfl)) (s_cons (s_if (b_all (.cons (b_cmp p_ge (e_peek rfl) (e_x e_int) rfl) (.cons (b_cmp p_lt (e_peek rfl) (e_x e_int) rfl) .nil))) (s_cons (s_ret (e_call T.ok (c_Merged T) (by decide) (by kernel_rfl) (by decide +kernel) (.cons (fun _ _ => rfl) (e_var rfl) (.cons (fun _ _ => rfl) (e_ite (b_cmp p_eq (e_peek rfl) (e_x (e_bi1 T.ok (bi_len T) kept_bi p_len (by kernel_rfl) (by decide +kernel) (fun _ _ => rfl) (e_var rfl))) rfl) (e_bi1 T.ok (bi_len T) kept_bi p_len (by kernel_rfl) (by decide +kernel) (fun _ _ => rfl) (e_var rfl)) (e_var rfl)) .nil)))) s_nil) s_nil) (s_cons (s_ret (e_call T.ok (c_Merged T) (by decide) (by kernel_rfl) (by decide +kernel) (.cons (fun _ _ => rfl) (e_var rfl) (.cons (fun _ _ => rfl) (e_ite (b_cmp p_ge (e_peek rfl) (e_x e_int) rfl) (e_var rfl) (e_bi1 T.ok (bi_len T) kept_bi p_len (by kernel_rfl) (by decide +kernel) (fun _ _ => rfl) (e_var rfl))) .nil)))) s_nil)))))

theorem c_first_style {w : World} {base : Heap} {D : Addr} {mg mb : PySem.Str → Option Value} (T : Top0 w base D mg mb) : Contract (gd w base D mg mb) "first_style" sp_first_style 7 := by
  refine' fn_c (l := 6) T (f := 141) (ps := [.styles, .text, .point, .candidates, .is_folding]) (fb := f_first_style) ?hm ?hk ?ho ?hdata ?hcd ?hbody ?hglob ?hbi ?hclo ?hbind ?hn ?hco ?hgen ?hkind ?hs
  case hm => k_is
  case hk => k_is
  case ho => k_is
  case hdata => exact rfl
  case hcd => k_is
  case hbody => exact rfl
  case hglob => exact rfl
  case hbi => exact rfl
  case hclo => exact rfl
  case hbind => exact bv5 fun _ _ _ _ _ => rfl
  case hn => decide +kernel
  case hco => exact rfl
  case hgen => exact rfl
  case hkind => exact rfl
  case hs => exact (s_cons (s_for rfl (by kernel_rfl) (e_var rfl) (s_cons (s_asg rfl (by kernel_rfl) (e_call T.ok (c_pattern_of T) (by decide) (by kernel_rfl) (by decide +kernel) (.cons (fun _ _ => rfl) (e_var rfl) (.cons (fun _ _ => rfl) (e_var rfl) (.cons (fun _ _ => rfl) (e_var rfl) .nil)))) (fun _ => rfl)) (s_cons (s_if (b_isNotNone (e_var rfl)) (s_cons (s_asg rfl (by kernel_rfl) (e_call T.ok (c_fitting T) (by decide) (by kernel_rfl) (by decide +kernel) (.cons (fun _ _ => rfl) (e_var rfl) (.cons (fun _ _ => rfl) (e_var rfl) (.cons (fun _ _ => rfl) (e_var rfl) .nil)))) (fun _ => rfl)) (s_cons (s_if (b_cmp p_ne (e_peek rfl) (e_x (e_list .nil (by decide))) rfl) (s_cons (s_ret (e_tup (.cons (fun _ _ => rfl) (e_var rfl) (.cons (fun _ _ => rfl) (e_var rfl) .nil)) (by decide))) s_nil) s_nil) s_nil)) s_nil) s_nil)) (fun _ _ => rfl)) (s_cons (s_ret (e_tup (.cons (fun _ _ => rfl) e_none (.cons (fun _ _ => rfl) (e_list .nil (by decide)) .nil)) (by decide))) s_nil))

theorem c_completed {w : World} {base : Heap} {D : Addr} {mg mb : PySem.Str → Option Value} (T : Top0 w base D mg mb) : Contract (gd w base D mg mb) "completed" sp_completed 8 := by
  refine' fn_c (l := 7) T (f := 189) (ps := [.styles, .text, .point, .candidates, .is_folding]) (fb := f_completed) ?hm ?hk ?ho ?hdata ?hcd ?hbody ?hglob ?hbi ?hclo ?hbind ?hn ?hco ?hgen ?hkind ?hs
  case hm => k_is
  case hk => k_is
  case ho => k_is
  case hdata => exact rfl
  case hcd => k_is
  case hbody => exact rfl
  case hglob => exact rfl
  case hbi => exact rfl
  case hclo => exact rfl
  case hbind => exact bv5 fun _ _ _ _ _ => rfl
  case hn => decide +kernel
  case hco => exact rfl
  case hgen => exact rfl
  case hkind => exact rfl
  case hs => exact (s_cons (s_unp (.cons rfl (by kernel_rfl) (.cons rfl (by kernel_rfl) .nil)) (e_call T.ok (c_first_style T) (by decide) (by kernel_rfl) (by decide +kernel) (.cons (fun _ _ => rfl) (e_var rfl) (.cons (fun _ _ => rfl) (e_var rfl) (.cons (fun _ _ => rfl) (e_var rfl) (.cons (fun _ _ => rfl) (e_var rfl) (.cons (fun _ _ => rfl) (e_var rfl) .nil)))))) (fun _ => rfl) (fun _ => rfl)) (s_cons (s_if (b_isNone (e_var rfl)) (s_cons (s_ret e_none) s_nil) s_nil) (s_cons (s_if (b_cmp p_eq (e_x (e_comp (x := .own) (fv := [.text]) (by kernel_rfl) (e_var rfl) (b_cmp p_ne (e_peek rfl) (e_peek rfl) rfl) e_int (fun _ _ => rfl))) (e_x (e_list .nil (by decide))) rfl) (s_cons (s_ret e_bool) s_nil) s_nil) (s_cons (s_ret (e_call T.ok (c_merged T) (by decide) (by kernel_rfl) (by decide +kernel) (.cons (fun _ _ => rfl) (e_var rfl) (.cons (fun _ _ => rfl) (e_var rfl) (.cons (fun _ _ => rfl) (e_var rfl) .nil))))) s_nil))))

theorem law_rest {w : World} {base : Heap} {D : Addr} {mg mb : PySem.Str → Option Value} (T : Top0 w base D mg mb) {o : Obj} {fd : FuncData} {st : Stmt} {body : List Stmt} (ho : (Mine.Kf w.params).lookup 235 = some o) (hdata : o.data = .func fd) (hbody : fd.body = .stmts (st :: body)) :
    SemSs (gd w base D mg mb) 8 fd.scope.names body f_law := by
  have e := Option.some.inj (ho.symm.trans (show List.lookup 235 (Mine.Kf w.params) = some _ from by k_is))
  subst e
  cases hdata
  cases hbody
  exact (s_cons (s_asg rfl (by kernel_rfl) (e_idx (e_x (e_list (.cons (fun _ _ => rfl) (e_str (by decide +kernel) (by decide)) (.cons (fun _ _ => rfl) (e_str (by decide +kernel) (by decide)) .nil)) (by decide))) (e_call T.ok (c_law_draw T) (by decide) (by kernel_rfl) (by decide +kernel) (.cons (fun _ _ => rfl) (e_var rfl) (.cons (fun _ _ => rfl) e_int .nil)))) (fun _ => rfl)) (s_cons (s_multi' (.cons rfl (by kernel_rfl) (.cons rfl (by kernel_rfl) .nil)) (.v (fun _ _ => rfl) (e_cmp p_eq (e_x (e_call T.ok (c_law_draw T) (by decide) (by kernel_rfl) (by decide +kernel) (.cons (fun _ _ => rfl) (e_var rfl) (.cons (fun _ _ => rfl) e_int .nil)))) (e_x e_int) rfl) (.v (fun _ _ => rfl) (e_cmp p_eq (e_peek rfl) (e_x (e_str (by decide +kernel) (by decide))) rfl) .nil)) (by decide) (by kernel_rfl)) (s_cons (s_multi' (.cons rfl (by kernel_rfl) (.cons rfl (by kernel_rfl) .nil)) (.v (fun _ _ => rfl) (e_bin p_mul (e_str (by decide +kernel) (by decide)) (e_bin p_add e_int (e_call T.ok (c_law_draw T) (by decide) (by kernel_rfl) (by decide +kernel) (.cons (fun _ _ => rfl) (e_var rfl) (.cons (fun _ _ => rfl) e_int .nil))))) (.v (fun _ _ => rfl) (e_idx (e_x (e_list (.cons (fun _ _ => rfl) (e_str (by decide +kernel) (by decide)) (.cons (fun _ _ => rfl) (e_str (by decide +kernel) (by decide)) (.cons (fun _ _ => rfl) (e_str (by decide +kernel) (by decide)) .nil))) (by decide))) (e_call T.ok (c_law_draw T) (by decide) (by kernel_rfl) (by decide +kernel) (.cons (fun _ _ => rfl) (e_var rfl) (.cons (fun _ _ => rfl) e_int .nil)))) .nil)) (by decide) (by kernel_rfl)) (s_cons (s_asg rfl (by kernel_rfl) (e_call T.ok (c_law_made T) (by decide) (by kernel_rfl) (by decide +kernel) (.cons (fun _ _ => rfl) (e_var rfl) (.cons (fun _ _ => rfl) (e_var rfl) (.cons (fun _ _ => rfl) (e_var rfl) (.cons (fun _ _ => rfl) (e_var rfl) (.cons (fun _ _ => rfl) (e_var rfl) .nil)))))) (fun _ => rfl)) (s_cons (s_acomp (x := .row) (fv := []) rfl (by kernel_rfl) (by kernel_rfl) (e_var rfl) rfl (e_join rfl (fun _ => rfl) (fun _ _ => rfl) (e_str (by decide +kernel) (by decide)) (e_var rfl)) (fun _ _ => rfl)) (s_cons (s_asg rfl (by kernel_rfl) (e_call T.ok (c_pattern_of T) (by decide) (by kernel_rfl) (by decide +kernel) (.cons (fun _ _ => rfl) (e_var rfl) (.cons (fun _ _ => rfl) (e_bin p_add (e_var rfl) (e_var rfl)) (.cons (fun _ _ => rfl) (e_bi1 T.ok (bi_len T) kept_bi p_len (by kernel_rfl) (by decide +kernel) (fun _ _ => rfl) (e_var rfl)) .nil)))) (fun _ => rfl)) (s_cons (s_acomp (x := .own) (fv := [.pattern, .is_folding]) rfl (by kernel_rfl) (by kernel_rfl) (e_var rfl) rfl (e_call T.ok (c_fit_of T) (by decide) (by kernel_rfl) (by decide +kernel) (.cons (fun _ _ => rfl) (e_var rfl) (.cons (fun _ _ => rfl) (e_var rfl) (.cons (fun _ _ => rfl) (e_var rfl) .nil)))) (fun _ _ => rfl)) (s_cons (s_if (b_cmp p_ne (e_x (e_comp (x := .own) (fv := []) (by kernel_rfl) (e_var rfl) (b_not (b_of T.ok (k_cls T) (e_var rfl))) (e_var rfl) (fun _ _ => rfl))) (e_x (e_list .nil (by decide))) rfl) (s_cons (s_ret e_bool) s_nil) s_nil) (s_cons (s_asg rfl (by kernel_rfl) (e_ite (b_of T.ok (k_cls T) (e_var rfl)) e_int e_int) (fun _ => rfl)) (s_cons (s_if (b_cmp p_ne (e_x (e_bi1 T.ok (bi_len T) kept_bi p_len (by kernel_rfl) (by decide +kernel) (fun _ _ => rfl) (e_var rfl))) (e_x (e_bin p_sub (e_bi1 T.ok (bi_len T) kept_bi p_len (by kernel_rfl) (by decide +kernel) (fun _ _ => rfl) (e_idx (e_peek rfl) e_int)) (e_var rfl))) rfl) (s_cons (s_ret e_bool) s_nil) s_nil) (s_cons (s_for rfl (by kernel_rfl) (e_bi1 T.ok (bi_range T) kept_ty p_range (by kernel_rfl) (by decide +kernel) (fun _ _ => rfl) (e_bi1 T.ok (bi_len T) kept_bi p_len (by kernel_rfl) (by decide +kernel) (fun _ _ => rfl) (e_var rfl))) (s_cons (s_if (b_cmp p_ne (e_x (e_call T.ok (c_gap_texts T) (by decide) (by kernel_rfl) (by decide +kernel) (.cons (fun _ _ => rfl) (e_var rfl) (.cons (fun _ _ => rfl) (e_var rfl) (.cons (fun _ _ => rfl) (e_var rfl) (.cons (fun _ _ => rfl) (e_var rfl) .nil)))))) (e_x (e_comp (x := .row) (fv := [.index, .begin_]) (by kernel_rfl) (e_var rfl) rfl (e_idx (e_peek rfl) (e_bin p_add (e_var rfl) (e_var rfl))) (fun _ _ => rfl))) rfl) (s_cons (s_ret e_bool) s_nil) s_nil) s_nil) (fun _ _ => rfl)) (s_cons (s_asg rfl (by kernel_rfl) (e_call T.ok (c_law_common T) (by decide) (by kernel_rfl) (by decide +kernel) (.cons (fun _ _ => rfl) (e_var rfl) (.cons (fun _ _ => rfl) (e_var rfl) .nil))) (fun _ => rfl)) (s_cons (s_asg rfl (by kernel_rfl) (e_call T.ok (c_merged T) (by decide) (by kernel_rfl) (by decide +kernel) (.cons (fun _ _ => rfl) (e_var rfl) (.cons (fun _ _ => rfl) (e_var rfl) (.cons (fun _ _ => rfl) (e_var rfl) .nil)))) (fun _ => rfl)) (s_cons (s_if (b_cmp p_ne (e_x (e_tup (.cons (fun _ _ => rfl) (e_attr .text rfl T.ok (k_cls T) (fun _ => rfl) (e_var rfl)) (.cons (fun _ _ => rfl) (e_attr .point rfl T.ok (k_cls T) (fun _ => rfl) (e_var rfl)) .nil)) (by decide))) (e_peek rfl) rfl) (s_cons (s_ret e_bool) s_nil) s_nil) (s_cons (s_asg rfl (by kernel_rfl) (e_call T.ok (c_completed T) (by decide) (by kernel_rfl) (by decide +kernel) (.cons (fun _ _ => rfl) (e_list (.cons (fun _ _ => rfl) (e_var rfl) .nil) (by decide)) (.cons (fun _ _ => rfl) (e_bin p_add (e_var rfl) (e_var rfl)) (.cons (fun _ _ => rfl) (e_bi1 T.ok (bi_len T) kept_bi p_len (by kernel_rfl) (by decide +kernel) (fun _ _ => rfl) (e_var rfl)) (.cons (fun _ _ => rfl) (e_var rfl) (.cons (fun _ _ => rfl) (e_var rfl) .nil)))))) (fun _ => rfl)) (s_cons (s_if (b_cmp p_eq (e_x (e_comp (x := .own) (fv := [.first, .last]) (by kernel_rfl) (e_var rfl) (b_cmp p_ne (e_peek rfl) (e_x (e_bin p_add (e_var rfl) (e_var rfl))) rfl) (e_var rfl) (fun _ _ => rfl))) (e_x (e_list .nil (by decide))) rfl) (s_cons (s_ret (e_cmp p_eq (e_x (e_bi1 T.ok (bi_repr T) kept_bi p_repr (by kernel_rfl) (by decide +kernel) (fun _ _ => rfl) (e_var rfl))) (e_x (e_str (by decide +kernel) (by decide))) rfl)) s_nil) s_nil) (s_cons (s_if (b_any (.cons (b_cmp p_ne (e_x (e_tup (.cons (fun _ _ => rfl) (e_attr .text rfl T.ok (k_cls T) (fun _ => rfl) (e_var rfl)) (.cons (fun _ _ => rfl) (e_attr .point rfl T.ok (k_cls T) (fun _ => rfl) (e_var rfl)) .nil)) (by decide))) (e_peek rfl) rfl) (.cons (b_of T.ok (k_cls T) (e_var rfl)) .nil))) (s_cons (s_ret (e_cmp p_eq (e_x (e_tup (.cons (fun _ _ => rfl) (e_attr .text rfl T.ok (k_cls T) (fun _ => rfl) (e_var rfl)) (.cons (fun _ _ => rfl) (e_attr .point rfl T.ok (k_cls T) (fun _ => rfl) (e_var rfl)) .nil)) (by decide))) (e_peek rfl) rfl)) s_nil) s_nil) (s_cons (s_asg rfl (by kernel_rfl) (e_call T.ok (c_completed T) (by decide) (by kernel_rfl) (by decide +kernel) (.cons (fun _ _ => rfl) (e_list (.cons (fun _ _ => rfl) (e_str (by decide +kernel) (by decide)) (.cons (fun _ _ => rfl) (e_str (by decide +kernel) (by decide)) .nil)) (by decide)) (.cons (fun _ _ => rfl) (e_attr .text rfl T.ok (k_cls T) (fun _ => rfl) (e_var rfl)) (.cons (fun _ _ => rfl) (e_attr .point rfl T.ok (k_cls T) (fun _ => rfl) (e_var rfl)) (.cons (fun _ _ => rfl) (e_var rfl) (.cons (fun _ _ => rfl) (e_var rfl) .nil)))))) (fun _ => rfl)) (s_cons (s_if (b_cmp p_eq (e_x (e_comp (x := .own) (fv := [.reply]) (by kernel_rfl) (e_var rfl) (b_cmp p_ne (e_peek rfl) (e_x (e_attr .text rfl T.ok (k_cls T) (fun _ => rfl) (e_var rfl))) rfl) (e_var rfl) (fun _ _ => rfl))) (e_x (e_list .nil (by decide))) rfl) (s_cons (s_ret (e_cmp p_eq (e_x (e_bi1 T.ok (bi_repr T) kept_bi p_repr (by kernel_rfl) (by decide +kernel) (fun _ _ => rfl) (e_var rfl))) (e_x (e_str (by decide +kernel) (by decide))) rfl)) s_nil) s_nil) (s_cons (s_ret (e_cmp p_eq (e_x (e_tup (.cons (fun _ _ => rfl) (e_attr .text rfl T.ok (k_cls T) (fun _ => rfl) (e_var rfl)) (.cons (fun _ _ => rfl) (e_attr .point rfl T.ok (k_cls T) (fun _ => rfl) (e_var rfl)) .nil)) (by decide))) (e_peek rfl) rfl)) s_nil))))))))))))))))))))
end Mine
end

section
open PySem PySem.W PyProof.Rows PySem.Calls PySem.Spec PyProof.V PySem.SeqAt
set_option maxRecDepth 100000
set_option maxHeartbeats 4000000
set_option linter.unusedVariables false
namespace Mine

noncomputable def cell1 (a : Int) : Int := (if a < 0 then -a else a).fmod 1000003
/-- a cell of the script, and what the deck holds for it -/
noncomputable def CellF (v y : Value) : Prop := ∃ a t u, v = .int a t ∧ y = .int (cell1 a) u
theorem cell_elt {w : World} {base : Heap} {mg mb : PySem.Str → Option Value} (G : GOK (gd w base 0 mg mb)) (ab : Bi (gd w base 0 mg mb) "abs" (.builtin "abs")) {env : Env} {nm : Nms} {A : Around} {s : Shared} {a : Int} {t : Tok} {m : PySem.Str → Option Value} {E : Value → Shared → Prop} {z} {p2 p3 p4 p5 p6 : Pos}
    (F : EnvF nm env) (hn : nm.lookup ("abs" : PySem.Str) = some .globalImplicit) (hc : env.kindOf ("cell" : PySem.Str) = some .local) (hb : ∀ b o, base.get? b = some o → s.heap.get? b = some o) (hns : s.heap.Ns env.locals m) (hm : m ("cell" : PySem.Str) = some (.int a t)) :
    wpAny (model PySem.Challenge.rw_rg0134_01.row.prog w) A (eval (.BinOp (.Call (.Name "abs" p2) [.Name "cell" p3] [] p4) .Mod (.Constant (.int 1000003) z p5) p6) env) (fun y s' => CellF (.int a t) y ∧ Keeps s s') E s := by
  refine wpAny_BinOp (wpAny_Call_ofName (load_bi (g := gd w base 0 mg mb) G F hb hn ab ?_))
  refine Calls.callWith_builtin rfl (Calls.evalArgs_plain (Calls.spliced_cons (wpAny_Name (wpAny_loadName_local F.kind hc hns hm (Calls.spliced_nil ?_)))))
  refine call_abs_int fun u tk => ?_
  refine wpAny_Constant_int ?_
  exact PyProof.Rows.mod_int (by decide) ⟨⟨a, t, _, rfl, rfl⟩, _, _, rfl, fun b o e => e⟩

theorem paired_reps {g : Gd} {h : Heap} {O : List Addr} : ∀ {vs : List Value} {xi : List Int} {ys : List Value}, IntsAre vs xi → Paired CellF vs ys → Reps g h O ((xi.map cell1).map T.int) ys
  | [], _, _, hI, hp => by cases hI; cases hp; exact Reps.nil
  | v :: vs, _, _, hI, hp => by
    cases hI with
    | cons n t hI =>
      cases hp with
      | cons hf hp =>
        obtain ⟨a, t', u, e, rfl⟩ := hf
        cases e
        exact Reps.cons (rep_int.mpr ⟨_, rfl⟩) (paired_reps hI hp)
theorem ints_at : ∀ {vs : List Value} {xi : List Int}, IntsAre vs xi → ∀ {i : Nat} {v : Value}, vs[i]? = some v → ∃ a t, v = .int a t
  | _, _, .cons n t h, 0, v, e => by cases e; exact ⟨n, t, rfl⟩
  | _, _, .cons n t h, i + 1, v, e => ints_at h (by simpa using e)
theorem ints_len : ∀ {vs : List Value} {xi : List Int}, IntsAre vs xi → vs.length = xi.length
  | _, _, .nil => rfl
  | _, _, .cons n t h => by simp [ints_len h]

theorem first_st {w : World} {base : Heap} {mg mb : PySem.Str → Option Value} (G : GOK (gd w base 0 mg mb)) (ab : Bi (gd w base 0 mg mb) "abs" (.builtin "abs")) {env : Env} {nm : Nms} {A : Around} {s : Shared} {m : PySem.Str → Option Value} {Q : Flow → Shared → Prop} {E : Value → Shared → Prop}
    {z z2} {p1 p2 p3 p4 p5 p6 p7 p8 p9 p10 p11 p12 : Pos} {sc : Scope} {la : Addr} {vs : List Value} {xi : List Int}
    (F : EnvF nm env) (hA : A.handled = none) (hd : env.kindOf ("deck" : PySem.Str) = some .local) (hs : env.kindOf ("script" : PySem.Str) = some .local) (hc : compOK nm sc .cell [] = true) (habs : sc.names.lookup ("abs" : PySem.Str) = some .globalImplicit)
    (hb : ∀ b o, base.get? b = some o → s.heap.get? b = some o) (hns : s.heap.Ns env.locals m) (hm : m ("script" : PySem.Str) = some (.ref la)) (hL : s.heap.IsList la vs.toArray) (hI : IntsAre vs xi) (hlen : xi.length ≤ 63)
    (k : ∀ h' tk D C t ys m', env.locals < D → s.heap.get? D = none → s.heap.get? C = none → D ≠ C → h'.Ns env.locals m' → m' ("deck" : PySem.Str) = some (.ref D) → h'.PlainList D #[.ref C, .int 0 t] → h'.PlainList C ys → Paired CellF vs ys.toList → (∀ b o, b ≠ env.locals → s.heap.get? b = some o → h'.get? b = some o) → Q .next { s with heap := h', toks := tk }) :
    wpAny (model PySem.Challenge.rw_rg0134_01.row.prog w) A (exec (.Assign [.Name "deck" p1] (.List [.ListComp (.BinOp (.Call (.Name "abs" p2) [.Name "cell" p3] [] p4) .Mod (.Constant (.int 1000003) z p5) p6) [⟨.Name "cell" p7, .Name "script" p8, [], 0⟩] sc p9, .Constant (.int 0) z2 p10] p11) p12) env) Q E s := by
  have c := compF_of hc
  have cells : ∀ p ∈ sc.names, p.2 = .free → ∃ c, env.cells.lookup p.1 = some c := fun p hp e => F.cells _ (c.allfree p hp e)
  have hz := ints_len hI
  refine wpAny_Assign_Name (wpAny_List_spliced ?_) rfl
  show wpAny _ A (spliced ((false, eval _ env) :: (false, eval _ env) :: [])) _ E s
  refine Calls.spliced_cons (wpAny_ListComp_free (fun _ => true) CellF (closureFor_eq cells) c.nocell c.kind c.locals c.hx ?_)
  refine wpAny_Name (wpAny_loadName_local F.kind hs hns hm ?_)
  refine wpAny_pyIter_list hL ?_
  have fresh : s.heap.get? s.heap.objs.size = none := by
    cases e : s.heap.get? s.heap.objs.size with
    | none => rfl
    | some o => exact absurd (Heap.lt_size e) (Nat.lt_irrefl _)
  have kp : ∀ (ob : Obj) c o, s.heap.get? c = some o → (s.heap.push ob).get? c = some o := fun ob c o e => Heap.get?_push_of_some _ e
  obtain ⟨ol, hol, hlc, ln, hld⟩ := id hL
  have hne : la ≠ s.heap.objs.size := by rintro rfl; rw [fresh] at hol; cases hol
  refine ⟨s.heap.objs.size, [s.heap.objs.size, la], [s.heap.objs.size], vs.toArray.size, fun i v => vs.toArray[i]? = some v, fun i h => h.IsListIter s.heap.objs.size la i ∧ h.IsList la vs.toArray, rfl, Walks.list hA _ _ hne _, ?_, ⟨⟨_, Heap.get?_push_size _ rfl, rfl, rfl⟩, ⟨ol, kp _ _ _ hol, hlc, ln, hld⟩⟩, ?_, ⟨?_, ?_⟩, ?_⟩
  · have : 1048576 ≤ sizeLine := szL_line
    simp; omega
  · intro b hbm
    simp only [List.mem_cons, List.not_mem_nil, or_false] at hbm
    rcases hbm with rfl | rfl
    · exact Heap.lt_size (Heap.get?_push_size _ rfl)
    · exact Heap.lt_size (kp _ _ _ hol)
  · intro C i v s₃ m₃ E' _ _ _ _ _ _
    exact wpAny_tests_nil ⟨rfl, s₃.heap, s₃.toks, rfl, fun b o e => e⟩
  · intro C i v s₃ m₃ E' hC hv _ hns3 hm3 hk3 _
    have hv' : vs[i]? = some v := by simpa using hv
    obtain ⟨a, t, rfl⟩ := ints_at hI hv'
    refine cell_elt G ab (comp_envF (C := C) F c) habs (lookup_relabel_local c.hx) (fun b o e => ?_) hns3 hm3
    refine hk3 b o ?_ (kp _ _ _ (hb b o e))
    simp only [List.mem_singleton]
    rintro rfl
    rw [hb _ o e] at fresh; cases fresh
  · intro C h' tk ys vs' hC hlC hpC hlen' hP hF hk
    have evs : vs' = vs := by
      apply List.ext_getElem?
      intro j
      rcases Nat.lt_or_ge j vs'.length with q | q
      · have e1 := List.getElem?_eq_getElem q
        have e2 := hP j _ e1
        rw [e1]; simpa using e2.symm
      · rw [List.getElem?_eq_none q, List.getElem?_eq_none (by simp at hlen'; omega)]
    subst evs
    have hF' : Paired CellF vs' ys.toList := by
      have e : List.filter (fun _ => true) vs' = vs' := List.filter_eq_self.mpr (fun _ _ => rfl)
      rw [e] at hF; exact hF
    have hC0 : s.heap.get? C = none := by
      cases e : s.heap.get? C with
      | none => rfl
      | some o => rw [kp _ _ _ e] at hC; cases hC
    have kk : ∀ b o, s.heap.get? b = some o → h'.get? b = some o := fun b o e => hk b o (by simp only [List.mem_singleton]; rintro rfl; rw [fresh] at e; cases e) (kp _ _ _ e)
    refine Calls.spliced_cons (wpAny_Constant_int (Calls.spliced_nil ⟨Nat.le_trans (show 2 ≤ szL by decide) szL_line, ?_⟩))
    have fresh' : h'.get? h'.objs.size = none := by
      cases e : h'.get? h'.objs.size with
      | none => rfl
      | some o => exact absurd (Heap.lt_size e) (Nat.lt_irrefl _)
    have kp' : ∀ (ob : Obj) c o, h'.get? c = some o → (h'.push ob).get? c = some o := fun ob c o e => Heap.get?_push_of_some _ e
    have hD0 : s.heap.get? h'.objs.size = none := by
      cases e : s.heap.get? h'.objs.size with
      | none => rfl
      | some o => rw [kk _ o e] at fresh'; cases fresh'
    have hDC : h'.objs.size ≠ C := by
      obtain ⟨nC, eC⟩ := hpC
      intro q; rw [q] at fresh'; rw [fresh'] at eC; cases eC
    refine wpAny_storeName_local hd (hns.at' fun o e => kp' _ _ _ (kk _ o e)) (fun h2 hn2 hs2 => ?_) (by rw [F.kind]; rfl)
    obtain ⟨oL, esL, epL, hLo, _⟩ := id hns
    have nD : h'.objs.size ≠ env.locals := by rintro q; rw [q, hLo] at hD0; cases hD0
    have nC : C ≠ env.locals := by rintro q; rw [q, hLo] at hC0; cases hC0
    refine k h2 _ h'.objs.size C _ ys _ (Heap.lt_size (kk _ _ hLo)) hD0 hC0 hDC hn2 (by simp) ⟨0, hs2.extBut _ _ nD (Heap.get?_push_size _ rfl)⟩ ?_ hF' fun b o hbL e => hs2.extBut b o hbL (kp' _ _ _ (kk b o e))
    obtain ⟨nn, eC⟩ := hpC
    exact ⟨nn, hs2.extBut _ _ nC (kp' _ _ _ eC)⟩
end Mine
end

section
open PySem PySem.W PyProof.Rows PySem.Calls PySem.Spec PyProof.V PySem.SeqAt
set_option maxRecDepth 100000
set_option maxHeartbeats 4000000
set_option linter.unusedVariables false
namespace Mine

theorem law_entry {w : World} {mg mb : PySem.Str → Option Value} {A : Around} {s : Shared} {R : Result → Shared → Prop} {o : Obj} {fd : FuncData} {st : Stmt} {body : List Stmt} {la : Addr} {vs : List Value} {xi : List Int}
    {z z2} {p1 p2 p3 p4 p5 p6 p7 p8 p9 p10 p11 p12 : Pos} {sc : Scope}
    (T0 : ∀ D, Top0 w s.heap D mg mb) (ho : (Mine.Kf w.params).lookup 235 = some o) (hdata : o.data = .func fd) (hcd : codeIn (Mine.Kf w.params) fd.code fd.qualname = true) (hbody : fd.body = .stmts (st :: body))
    (hst : st = .Assign [.Name "deck" p1] (.List [.ListComp (.BinOp (.Call (.Name "abs" p2) [.Name "cell" p3] [] p4) .Mod (.Constant (.int 1000003) z p5) p6) [⟨.Name "cell" p7, .Name "script" p8, [], 0⟩] sc p9, .Constant (.int 0) z2 p10] p11) p12)
    (hglob : fd.globals = mainGlobals) (hbi : fd.builtins = builtinsNs) (hclo : fd.closure = []) (hbind : ∀ v : Value, bindArgs fd ⟨[v], []⟩ = pure [(("script" : PySem.Str), v)]) (hn : nmOK fd.scope.names [.script] = true)
    (hco : fd.scope.isCoroutine = false) (hgen : fd.scope.isGenerator = false) (hkind : fd.scope.kind = .function) (hsl : fd.scope.names.lookup ("script" : PySem.Str) = some .local) (hdl : fd.scope.names.lookup ("deck" : PySem.Str) = some .local)
    (hc : compOK fd.scope.names sc .cell [] = true) (habs : sc.names.lookup ("abs" : PySem.Str) = some .globalImplicit)
    (hA : AOK A 9) (hL : s.heap.IsList la vs.toArray) (hI : IntsAre vs xi) (hlen : xi.length ≤ 63)
    (hR : ∀ h' tk, (∀ b o, s.heap.get? b = some o → h'.get? b = some o) → R (.ok (.ret (.bool true))) { s with heap := h', toks := tk }) :
    codeAny (model PySem.Challenge.rw_rg0134_01.row.prog w) A (.call (.ref 235) ⟨[.ref la], []⟩) R s := by
  have G := (T0 0).ok
  refine codeAny_call_cells (fd := fd) (binds := [(("script" : PySem.Str), .ref la)]) (by have := hA.2.1; omega) ((T0 0).hK _ _ ho) hdata (T0 0).hnl (codeRec_of (T0 0).hK hcd) hbody (hbind _) hclo ?_ ?_ hco hgen hkind
  · intro x hx
    simp only [List.mem_singleton] at hx
    subst hx
    exact .inl hsl
  · intro s₁ X
    obtain ⟨⟨h1, tk1, rfl⟩, ns, keep, above⟩ := id X.toInCall
    have F : EnvF fd.scope.names (callEnvC fd s.heap.objs.size 235) := fn_envF hkind hglob hbi
    have hkf : ∀ y, (callEnvC fd s.heap.objs.size 235).kindOf y = fd.scope.names.lookup y := fun y => rfl
    generalize hen : callEnvC fd s.heap.objs.size 235 = env at *
    have hm : bindL env.kindOf [(("script" : PySem.Str), .ref la)] (fun _ => none) ("script" : PySem.Str) = some (.ref la) := by
      unfold bindL bindL
      rw [hkf, if_pos hsl]; simp
    have hLk : h1.IsList la vs.toArray := by obtain ⟨o, ho, r⟩ := hL; exact ⟨o, keep _ _ ho, r⟩
    have frB : ∀ b, s.heap.get? b = none → s.heap.get? b = none := fun b e => e
    have fresh : ∀ b, Slot env b → s.heap.get? b = none := fun b hs => by
      cases e : s.heap.get? b with
      | none => rfl
      | some o =>
        have h1 : @LT.lt Nat instLTNat b s.heap.objs.size := Heap.lt_size e
        have h2 : @LE.le Nat instLENat s.heap.objs.size env.locals := above
        rcases hs with rfl | ⟨x, hx⟩
        · omega
        · have h3 : @LT.lt Nat instLTNat env.locals b := X.above x b (mem_of_lookup hx)
          omega
    subst hst
    refine wpAny_execs_cons (first_st (base := s.heap) (mg := mg) (mb := mb) G (bi_abs (T0 0)) F hA.1 ((hkf _).trans hdl) ((hkf _).trans hsl) hc habs keep ns hm hLk hI hlen ?_)
    intro h2 tk2 D C t ys m' hlD hD hC hDC hns hmd hpD hpC hF kk
    have hDs : s.heap.get? D = none := by
      cases e : s.heap.get? D with
      | none => rfl
      | some o => rw [keep _ _ e] at hD; cases hD
    have hCs : s.heap.get? C = none := by
      cases e : s.heap.get? C with
      | none => rfl
      | some o => rw [keep _ _ e] at hC; cases hC
    have slotIn : ∀ a, Slot env a → ∃ o, h1.get? a = some o := fun a hs => by
      rcases hs with rfl | ⟨x, hx⟩
      · obtain ⟨o, _, _, ho, _⟩ := ns; exact ⟨o, ho⟩
      · obtain ⟨o, ho, _⟩ := X.cell x a hx; exact ⟨o, ho⟩
    have nDs : ∀ a, Slot env a → a ≠ D ∧ a ≠ C := fun a hs => by
      obtain ⟨o, ho⟩ := slotIn a hs
      exact ⟨(by rintro rfl; have h' : h1.get? a = none := hD; rw [h'] at ho; cases ho), (by rintro rfl; have h' : h1.get? a = none := hC; rw [h'] at ho; cases ho)⟩
    let O₁ := D :: env.locals :: (env.cells.filterMap fun p => env.cells.lookup p.1)
    have mem : ∀ b, b ∈ O₁ ↔ (b = D ∨ b = env.locals ∨ (∃ x, env.cells.lookup x = some b)) := fun b => by
      simp only [O₁, List.mem_cons, List.mem_filterMap]
      constructor
      · rintro (q | q | ⟨p, _, q⟩)
        · exact .inl q
        · exact .inr (.inl q)
        · exact .inr (.inr ⟨_, q⟩)
      · rintro (q | q | ⟨x, q⟩)
        · exact .inl q
        · exact .inr (.inl q)
        · exact .inr (.inr ⟨(x, b), mem_of_lookup q, q⟩)
    have cellNe : ∀ x c, env.cells.lookup x = some c → c ≠ env.locals := fun x c e q => by
      have : @LT.lt Nat instLTNat env.locals c := X.above x c (mem_of_lookup e)
      have q' : @Eq Nat c env.locals := q
      omega
    have slot2 : ∀ a, Slot env a → ∃ o, h2.get? a = some o := fun a hs => by
      rcases hs with rfl | ⟨x, hx⟩
      · obtain ⟨o, _, _, ho, _⟩ := hns; exact ⟨o, ho⟩
      · obtain ⟨o, ho⟩ := slotIn a (.inr ⟨x, hx⟩); exact ⟨o, kk a o (cellNe x a hx) ho⟩
    have k02 : ∀ b o, s.heap.get? b = some o → h2.get? b = some o := fun b o e => kk b o (by rintro rfl; rw [fresh _ (.inl rfl)] at e; cases e) (keep b o e)
    have hbD : ∀ a ∈ O₁, s.heap.get? a = none := fun a ha => by
      rcases (mem a).mp ha with rfl | rfl | ⟨x, hx⟩
      · exact hDs
      · exact fresh _ (.inl rfl)
      · exact fresh _ (.inr ⟨x, hx⟩)
    have nsz : ∀ a, s.heap.get? a = none → (∃ o, h2.get? a = some o) → True := fun _ _ _ => trivial
    have hDsz : s.heap.objs.size ≤ D := Nat.le_trans above (Nat.le_of_lt hlD)
    let r : Rho := upd (fun _ => none) .deck (.val .deck)
    let d : Dk := ⟨xi.map cell1, 0⟩
    have hCO : C ∉ O₁ := fun q => by
      rcases (mem C).mp q with q | q | ⟨x, q⟩
      · exact hDC q.symm
      · exact (nDs _ (.inl rfl)).2 q.symm
      · exact (nDs C (.inr ⟨x, q⟩)).2 rfl
    have hlenY : ys.toList.length ≤ szL := by
      have := (paired_reps (g := gd w s.heap D mg mb) (h := h2) (O := O₁) hI hF).length
      rw [List.length_map, List.length_map] at this
      rw [this]; have := szL_eq; omega
    have S : SI (gd w s.heap D mg mb) env [] r O₁ d h2 := by
      refine ⟨⟨⟨⟨m', hns⟩, fun x c e => ?_, fun x y c e e' => name_of_addr X.apart (mem_of_lookup e) (mem_of_lookup e'), cellNe⟩, k02, hDsz, above, ?_, (mem _).mpr (.inl rfl), fun a ha => ?_, fun a hs => ⟨(mem a).mpr ?_, (nDs a hs).1⟩, fun x t' e => ?_, fun x t' e => ?_, hbD⟩, (fun a ha => by cases ha), ⟨fun _ => 0, fun x t' e => ?_⟩⟩
      · obtain ⟨o, ho, hd⟩ := X.cell x c e
        exact ⟨_, o, kk c o (cellNe x c e) ho, hd⟩
      · exact ⟨C, t, ys.toList, hpD, hCO, by rw [Array.toArray_toList]; exact hpC, hlenY, paired_reps hI hF⟩
      · rcases (mem a).mp ha with rfl | rfl | ⟨x, hx⟩
        · obtain ⟨n, e⟩ := hpD; exact ⟨_, e⟩
        · exact slot2 _ (.inl rfl)
        · exact slot2 _ (.inr ⟨x, hx⟩)
      · rcases hs with rfl | ⟨x, hx⟩
        · exact .inr (.inl rfl)
        · exact .inr (.inr ⟨x, hx⟩)
      · by_cases q : x = .deck
        · subst q
          have e : some (Ent.val T.deck) = some (Ent.val t') := e
          cases e
          exact ⟨.ref D, .inl ⟨(hkf _).trans hdl, m', hns, hmd⟩, by unfold Rep; rfl⟩
        · rw [show r x = none from upd_ne _ _ q] at e; cases e
      · by_cases q : x = .deck
        · subst q; rw [show r .deck = some (.val .deck) from rfl] at e; cases e
        · rw [show r x = none from upd_ne _ _ q] at e; cases e
      · by_cases q : x = .deck
        · subst q; rw [show r .deck = some (.val .deck) from rfl] at e; cases e
        · rw [show r x = none from upd_ne _ _ q] at e; cases e
    obtain ⟨r', d', e⟩ := law_body (r := r) (d := d) rfl ⟨by simp [d]; exact hlen, Int.le_refl 0, Int.le_refl 0⟩
    refine law_rest (T0 D) ho hdata hbody env [] r r' O₁ d d' (.ret (.bool true)) (A.deeper env) _ _ _ F ⟨hA.1, ?_, ?_⟩ S e fun fv h3 tk3 O3 hf S3 kp gr => ?_
    · have := hA.2.1; show A.depth + 1 + 8 < _; omega
    · have := hA.2.2; show A.units + 3 + 4 * 8 + 300 < _; omega
    · obtain ⟨v, rfl, rv⟩ := hf
      have := rep_bool.mp rv
      subst this
      exact hR h3 tk3 fun b o e => kp b o (.inl fun q => by rw [hbD b q] at e; cases e) (k02 b o e)
end Mine
end

open PySem PySem.W PyProof.Rows PySem.Calls
set_option maxRecDepth 100000 in
set_option maxHeartbeats 8000000 in
theorem PySem.Challenge.cw_rg0134_01_holds : PySem.Challenge.rw_rg0134_01.Holds := by
  refine Mine.hd (by rfl) (by rfl) (by rfl) (by w_witness2) ?_
  have fk : (Mine.Kf = Mine.Kf) ∧ (PySem.Challenge.rw_rg0134_01 = PySem.Challenge.rw_rg0134_01) := by k_fill; exact ⟨rfl, rfl⟩
  clear fk
  intro w s₀ s₁ mg mb G Y fa o pm cd doc dV kV ho hd hcd hD hmg hg args vals as hpre hlay hrd hwl hlo
  have KX := kIn_of Y
  refine Ground.open G ?_
  intro T B D TE TW
  try (refine guard_noD D (by decide +kernel) ?_; clear D)
  have h235 : mg "law" = some (.ref 235) := mg_of KX T.g (by k_is)
  have hfa : fa = 235 := by
    have e : some (Value.ref fa) = some (Value.ref 235) := hmg.symm.trans h235
    injection e with e
    injection e
  subst hfa
  wrow_args hpre hlay hrd hwl hlo
  all_goals (
    first | refine callC_kw (enter_call ?_) | refine enter_call ?_ | refine callC_kw (enter_callW ?_) | refine enter_callW ?_ | w_how
    w_top on
    try refine codeAny_mono ?_ (fun _ _ g => GoodW.toG g))
  rename_i hI hr hlen htrue
  refine' Mine.law_entry (mg := mg) (mb := mb) (fun D => ⟨KX, T.g, T.b, T.nolimit, T.builtins⟩) ?ho ?hdata ?hcd ?hbody ?hst ?hglob ?hbi ?hclo ?hbind ?hn ?hco ?hgen ?hkind ?hsl ?hdl ?hc ?habs ?hA ?hL hI ?hlen ?hR
  case ho => k_is
  case hdata => exact rfl
  case hcd => k_is
  case hbody => exact rfl
  case hst => exact rfl
  case hglob => exact rfl
  case hbi => exact rfl
  case hclo => exact rfl
  case hbind => exact fun _ => rfl
  case hn => decide +kernel
  case hco => exact rfl
  case hgen => exact rfl
  case hkind => exact rfl
  case hsl => decide +kernel
  case hdl => decide +kernel
  case hc => decide +kernel
  case habs => decide +kernel
  case hA => exact ⟨rfl, by decide, by decide⟩
  case hL => assumption
  case hlen => omega
  case hR =>
    intro h' tk hk
    refine ⟨.inl ⟨.bool true, .bool true, [], rfl, raisesW_false ?_, .bool true, ?_, unshared_nil⟩, hk, rfl, hg⟩
    · wrow_none_raised
    · first | wrow_post | kc_post
