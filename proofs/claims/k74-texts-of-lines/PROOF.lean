import PyProof.Rows.All
import Wide.All
import OpenK.AllK
import Wide.FinOn
import PySem.Syntax
import HandS.ForMost
import HandS.Exc
import HandS.TryOnly
import HandS.ExcOwn
import HandS.CallSlots
import HandS.Gcd
import HandS.IsInst
import HandS.Wide
import HandS.TupAny
import HandS.Lambda
import HandS.Style
import HandS.StrMore
import HandS.Conv
import KE.KIntText
import KE.IntTextLaws
import KE.SortData
import HandS.ExcField
import HandS.Walk
import HandS.Zip
import PyProof.Draws
import KE.GoesMore
import PyProof.EnumMake
import PyProof.TupleIter
import KE.KDictCopyH
import KE.KDictDisplayH
import KE.SortUse
import HandS.Defaults
import HandS.HeadHook1
import HandS.ExcSuper
import KE.KExcSuper
import KE.KSuper
import PyProof.Rows.StrKeys3
import HandS.HeadHook2
import HandS.Head3
import KE.KStateDown
import HandS.HeadEnd
import HandS.EndTab
import PySem.Challenge.RW_nearplain_k74_whole_texts_of_lines
set_option autoImplicit false
set_option linter.all false
/-! PV1: the small language and its evaluator. Values are trees; what is changed in place lives in a store. -/
namespace PV
inductive D where
  | non | bl (b : Bool) | int (i : Int) | str (s : List Nat)
  | tup (k : Bool) (ds : List D) | lst (ds : List D)
  | dct (ks : List (List Int)) (vs : List D)
  | ref (i : Nat) | fn (f : Nat) | scr (ns : List Int) | exn (c : Nat) (p : D)
inductive MO where
  | lst (ds : List D)
  | dct (ks : List (List Int)) (vs : List D)
abbrev Sto := List (Option MO)
abbrev Sl := List (Option D)
inductive R (α : Type) where
  | ok (a : α) (st : Sto)
  | exc (c : Nat) (p : D) (st : Sto)
  | bad
def R.bind {α β : Type} (r : R α) (f : α → Sto → R β) : R β := match r with
  | .ok a st => f a st
  | .exc c p st => .exc c p st
  | .bad => .bad
inductive BO where | add | sub | mul | fdiv | mod | pow
inductive CO where | lt | le | gt | ge | eq | ne | isin | notin | is_ | isnot
inductive Ty where | int | str | bool | tuple | list
inductive BF where
  | len | abs | maxl | max2 | min2 | int | str | gcd | sorted | tuple | list | any | all | isinst (t : Ty)
inductive MF where | index | get2 | join | isdigit | isalpha | isalnum | append
inductive T where
  | n (i : Nat)
  | t2 (a b : T)
  | t3 (a b c : T)
mutual
inductive E where
  | c (d : D) | v (i : Nat)
  | bin (o : BO) (a b : E) | neg (a : E)
  | not (a : E) | and (a b : E) | or (a b : E)
  | cmp (o : CO) (a b : E) | cmp2 (o p : CO) (a b c : E)
  | ite (t a b : E)
  | call (f : Nat) (es : Es)
  | bf (f : BF) (es : Es)
  | mt (m : MF) (o : E) (es : Es)
  | idx (a b : E) | slc (a : E) (lo hi : Eo)
  | tup (es : Es) | lst (m : Bool) (es : Es)
  | dnew (m : Bool) | dstar (a k v : E) | srtS (a : E) | rev (a : E)
  | rep (m : Bool) (a n : E)
  | lc (ws : List Nat) (t : T) (it : I) (cond : Eo) (e : E)
  | lcK (ws : List Nat) (t : T) (i : Nat) (cond : Eo) (e : E)
  | bad
inductive Es where
  | nil | cons (e : E) (es : Es)
inductive Eo where
  | none | some (e : E)
inductive I where
  | of (e : E) | rng (a : E) | rng2 (a b : E) | enum (e : E) | zip (a b : E)
end
mutual
inductive S where
  | asg (t : T) (e : E) | par (i j : Nat) (a b : E)
  | sub (o i e : E) | ex (e : E) | ret (e : E) | retN
  | ite (t : E) (a b : Ss) | fr (t : T) (it : I) (b : Ss) | wh (t : E) (b : Ss)
  | frK (t : T) (i : Nat) (b : Ss)
  | rse (c : Nat) (e : E) | tryPl (c i : Nat) (b : Ss)
  | fz (i : Nat) | pass | bk | ct | bad
inductive Ss where
  | nil | cons (s : S) (ss : Ss)
end
/-! ### data -/
mutual
def D.eqv : D → D → Bool
  | .non, .non => true
  | .bl a, .bl b => a == b
  | .bl a, .int j => decide ((if a then 1 else 0) = j)
  | .int i, .bl b => decide (i = (if b then 1 else 0))
  | .int i, .int j => decide (i = j)
  | .str x, .str y => x == y
  | .tup _ xs, .tup _ ys => D.eqvs xs ys
  | .lst xs, .lst ys => D.eqvs xs ys
  | _, _ => false
def D.eqvs : List D → List D → Bool
  | [], [] => true
  | x :: xs, y :: ys => D.eqv x y && D.eqvs xs ys
  | _, _ => false
end
/-- plain data of a depth of at most n -/
def D.data : Nat → D → Bool
  | _, .non => true
  | _, .bl _ => true
  | _, .int _ => true
  | _, .str s => s.all fun c => Nat.blt c 1114112
  | n + 1, .tup _ xs => xs.all (D.data n)
  | n + 1, .lst xs => xs.all (D.data n)
  | _, _ => false
def D.flat : D → Bool
  | .non => true
  | .bl _ => true
  | .int _ => true
  | .str _ => true
  | _ => false
def line : Nat := 16777216
def fits (n : Nat) : Bool := Nat.ble n 1000000
def truth : D → Option Bool
  | .non => some false
  | .bl b => some b
  | .int i => some (i != 0)
  | .str s => if fits s.length then some (!s.isEmpty) else none
  | .tup _ ds => some (!ds.isEmpty)
  | .lst ds => some (!ds.isEmpty)
  | _ => none
def okb (c : Bool) (d : D) (st : Sto) : R D := match c with
  | true => .ok d st
  | false => .bad
/-! ### numbers -/
def small (i : Int) : Bool := Nat.blt i.natAbs (2 ^ 64)
def wide (i : Int) : Bool := Nat.blt i.natAbs (2 ^ 8000)
def okMul (i j : Int) : Bool := small j || small i || (wide i && wide j)
def okDiv (i j : Int) : Bool := (decide (j ≠ 0) && Nat.blt j.natAbs 1073741824) || (decide (0 < j) && wide i && wide j)
def okPow (i j : Int) : Bool := decide (0 ≤ j) && decide (j ≤ 1000000) && small i
def intsD : List D → Option (List Int)
  | [] => some []
  | .int i :: ds => (intsD ds).map (i :: ·)
  | _ => none
def boolsD : List D → Option (List Bool)
  | [] => some []
  | .bl i :: ds => (boolsD ds).map (i :: ·)
  | _ => none
def strsD : List D → Option (List (List Nat))
  | [] => some []
  | .str i :: ds => (strsD ds).map (i :: ·)
  | _ => none
def keyOf : D → Option (List Int)
  | .tup false ds => intsD ds
  | _ => none
def ofKey (k : List Int) : D := .tup false (k.map .int)
def lookK (k : List Int) : List (List Int) → List D → Option D
  | [], _ => none
  | _, [] => none
  | a :: ks, v :: vs => if a = k then some v else lookK k ks vs
def putV (k : List Int) (x : D) : List (List Int) → List D → List D
  | a :: ks, v :: vs => (if a = k then x else v) :: putV k x ks vs
  | _, _ => []
def hasK (k : List Int) : List (List Int) → Bool
  | [] => false
  | a :: ks => if a = k then true else hasK k ks
def putK (k : List Int) (x : D) (ks : List (List Int)) (vs : List D) : List (List Int) × List D := match hasK k ks with
  | true => (ks, putV k x ks vs)
  | false => (ks ++ [k], vs ++ [x])
def binD (o : BO) (x y : D) (st : Sto) : R D := match o, x, y with
  | .add, .int i, .int j => .ok (.int (i + j)) st
  | .sub, .int i, .int j => .ok (.int (i - j)) st
  | .mul, .int i, .int j => okb (okMul i j) (.int (i * j)) st
  | .fdiv, .int i, .int j => okb (okDiv i j) (.int (i.fdiv j)) st
  | .mod, .int i, .int j => okb (decide (j ≠ 0)) (.int (i.fmod j)) st
  | .pow, .int i, .int j => okb (okPow i j) (.int (i ^ j.toNat)) st
  | .add, .str a, .str b => okb (fits (a.length + b.length)) (.str (a ++ b)) st
  | .add, .lst a, .lst b => okb (fits (a.length + b.length)) (.lst (a ++ b)) st
  | .add, .tup j a, .tup k b => okb (fits (a.length + b.length)) (if a.isEmpty then .tup k b else if b.isEmpty then .tup j a else .tup false (a ++ b)) st
  | _, _, _ => .bad
def isIn (x : D) : D → Option Bool
  | .tup _ ds => if x.flat && ds.all D.flat then some (ds.any fun y => D.eqv y x) else none
  | .lst ds => if x.flat && ds.all D.flat then some (ds.any fun y => D.eqv y x) else none
  | .str s => match x with
    | .str [c] => some (s.any fun b => b == c)
    | _ => none
  | _ => none
def isSame : D → D → Option Bool
  | x, .non => match x with
    | .non => some true
    | _ => some false
  | .bl a, .bl b => some (decide (a = b))
  | _, _ => none
def lexI : List Int → List Int → Bool
  | [], [] => false
  | [], _ :: _ => true
  | _ :: _, [] => false
  | x :: xs, y :: ys => if x = y then lexI xs ys else decide (x < y)
def cmpD (o : CO) (x y : D) : Option Bool := match o with
  | .lt => match x, y with
    | .int i, .int j => some (decide (i < j))
    | .tup _ ds, .tup _ es => match intsD ds, intsD es with
      | some is, some js => some (lexI is js)
      | _, _ => none
    | _, _ => none
  | .le => match x, y with
    | .int i, .int j => some (decide (i ≤ j))
    | _, _ => none
  | .gt => match x, y with
    | .int i, .int j => some (decide (j < i))
    | _, _ => none
  | .ge => match x, y with
    | .int i, .int j => some (decide (j ≤ i))
    | _, _ => none
  | .eq => if D.data 20 x && D.data 20 y then some (D.eqv x y) else none
  | .ne => if D.data 20 x && D.data 20 y then some (!D.eqv x y) else none
  | .isin => isIn x y
  | .notin => (isIn x y).map (!·)
  | .is_ => isSame x y
  | .isnot => (isSame x y).map (!·)
def okO (b : Option Bool) (st : Sto) : R D := match b with
  | some b => .ok (.bl b) st
  | none => .bad
/-! ### items, slices -/
def ixN (n : Nat) (i : Int) : Option Nat := if 0 ≤ i then (if i < n then some i.toNat else none) else if -(n : Int) ≤ i then some (i + n).toNat else none
def atI {α : Type} (xs : List α) (i : Int) : Option α := (ixN xs.length i).bind fun j => xs[j]?
def sIx (n d : Nat) : Option Int → Nat
  | none => d
  | some v => if v < 0 then (v + n).toNat else min v.toNat n
def cut {α : Type} (xs : List α) (lo hi : Option Int) : List α := (xs.drop (sIx xs.length 0 lo)).take (sIx xs.length xs.length hi - sIx xs.length 0 lo)
def okd (o : Option D) (st : Sto) : R D := match o with
  | some d => .ok d st
  | none => .bad
def getMO (st : Sto) (j : Nat) : Option MO := match st[j]? with
  | some (some m) => some m
  | _ => none
def idxD (x i : D) (st : Sto) : R D := match x, i with
  | .tup _ ds, .int k => okd (atI ds k) st
  | .lst ds, .int k => okd (atI ds k) st
  | .str s, .int k => match fits s.length, atI s k with
    | true, some c => .ok (.str [c]) st
    | _, _ => .bad
  | .ref j, .int k => match getMO st j with
    | some (.lst ds) => okd (atI ds k) st
    | _ => .bad
  | .dct ks vs, .tup q t => match keyOf (.tup q t) with
    | some k => okd (lookK k ks vs) st
    | none => .bad
  | _, _ => .bad
def slcD (x : D) (lo hi : Option Int) (st : Sto) : R D := match x with
  | .str s => okb (fits s.length) (.str (cut s lo hi)) st
  | .lst ds => .ok (.lst (cut ds lo hi)) st
  | .tup k ds => .ok (if sIx ds.length 0 lo = 0 ∧ sIx ds.length ds.length hi = ds.length then .tup k ds else .tup false (cut ds lo hi)) st
  | _ => .bad
def setD (x i v : D) (st : Sto) : R Unit := match x, i with
  | .ref j, .int k => match getMO st j with
    | some (.lst ds) => match ixN ds.length k with
      | some m => .ok () (st.set j (some (.lst (ds.set m v))))
      | none => .bad
    | _ => .bad
  | .ref j, .tup q t => match keyOf (.tup q t), getMO st j with
    | some k, some (.dct ks vs) => match fits ks.length with
      | true => .ok () (st.set j (some (.dct (putK k v ks vs).1 (putK k v ks vs).2)))
      | false => .bad
    | _, _ => .bad
  | _, _ => .bad
def alloc (m : MO) (st : Sto) : R D := .ok (.ref st.length) (st ++ [some m])
/-! ### built-ins -/
def maxL : List Int → Option Int
  | [] => none
  | i :: is => some (is.foldl (fun a b => if b > a then b else a) i)
def isDig (c : Nat) : Bool := Nat.ble 48 c && Nat.ble c 57
def isLow (c : Nat) : Bool := Nat.ble 97 c && Nat.ble c 122
def isUp (c : Nat) : Bool := Nat.ble 65 c && Nat.ble c 90
def digs : Nat → Nat → List Nat → List Nat
  | 0, _, acc => acc
  | f + 1, n, acc => if n < 10 then (48 + n) :: acc else digs f (n / 10) ((48 + n % 10) :: acc)
def natText (n : Nat) : List Nat := digs (n.log2 + 1) n []
def numOf (s : List Nat) : Nat := s.foldl (fun a c => 10 * a + (c - 48)) 0
def isTy : Ty → D → Option Bool
  | .int, .int _ => some true
  | .int, .bl _ => some true
  | .int, .non => some false
  | .int, .str _ => some false
  | .int, .tup _ _ => some false
  | .int, .lst _ => some false
  | .str, .str _ => some true
  | .str, .int _ => some false
  | .str, .bl _ => some false
  | .str, .non => some false
  | .str, .tup _ _ => some false
  | .str, .lst _ => some false
  | .bool, .bl _ => some true
  | .bool, .int _ => some false
  | .bool, .str _ => some false
  | .bool, .non => some false
  | .bool, .tup _ _ => some false
  | .bool, .lst _ => some false
  | .tuple, .tup _ _ => some true
  | .tuple, .int _ => some false
  | .tuple, .bl _ => some false
  | .tuple, .str _ => some false
  | .tuple, .non => some false
  | .tuple, .lst _ => some false
  | _, _ => none
mutual
/-- x < y, where both are alike: ints, texts, tuples of alike ones of one length -/
def D.lt : D → D → Bool
  | .int i, .int j => decide (i < j)
  | .str x, .str y => decide (x < y)
  | .tup _ xs, .tup _ ys => D.lts xs ys
  | _, _ => false
def D.lts : List D → List D → Bool
  | x :: xs, y :: ys => if D.eqv x y then D.lts xs ys else D.lt x y
  | [], _ :: _ => true
  | _, _ => false
end
mutual
/-- of one shape -/
def D.alike : D → D → Bool
  | .int _, .int _ => true
  | .str _, .str _ => true
  | .tup _ xs, .tup _ ys => D.alikes xs ys
  | _, _ => false
def D.alikes : List D → List D → Bool
  | x :: xs, y :: ys => D.alike x y && D.alikes xs ys
  | [], [] => true
  | _, _ => false
end
/-- put ahead of those that are not less -/
def insR (lt : D → D → Bool) (x : D) : List D → List D
  | [] => [x]
  | y :: ys => if lt y x then y :: insR lt x ys else x :: y :: ys
/-- the stable sort -/
def isort (lt : D → D → Bool) : List D → List D
  | [] => []
  | x :: xs => insR lt x (isort lt xs)
def sortD (ds : List D) : List D := isort D.lt ds
/-- sorted by the key (-own[0][0] - own[0][1], -own[0][0]) -/
def okS : D → Bool
  | .tup _ (.tup _ [.int _, .int _] :: _) => true
  | _ => false
def kfS : D → Int
  | .tup _ (.tup _ [.int i, .int j] :: _) => -i - j
  | _ => 0
def kgS : D → Int
  | .tup _ (.tup _ [.int i, .int _] :: _) => -i
  | _ => 0
def ltS (a b : D) : Bool := decide (kfS a < kfS b) || (decide (kfS a = kfS b) && decide (kgS a < kgS b))
def srtSD (ds : List D) : List D := isort ltS ds
def firstOk : D → Bool
  | .int _ => true
  | .str _ => true
  | .tup _ (_ :: _) => true
  | _ => false
def sortable : List D → Bool
  | [] => true
  | d :: ds => firstOk d && (d :: ds).all fun e => D.data 20 e && D.alike d e
def joinD (sep : List Nat) : List (List Nat) → List Nat
  | [] => []
  | [x] => x
  | x :: y :: r => x ++ sep ++ joinD sep (y :: r)
def bfD (f : BF) (as : List D) (st : Sto) : R D := match f, as with
  | .len, [.str s] => okb (fits s.length) (.int s.length) st
  | .len, [.tup _ ds] => .ok (.int ds.length) st
  | .len, [.lst ds] => .ok (.int ds.length) st
  | .abs, [.int i] => .ok (.int (if i < 0 then -i else i)) st
  | .maxl, [.lst ds] => match intsD ds with
    | some is => match maxL is with
      | some m => .ok (.int m) st
      | none => .bad
    | none => .bad
  | .max2, [.int i, .int j] => .ok (.int (if j > i then j else i)) st
  | .min2, [.int i, .int j] => .ok (.int (if j < i then j else i)) st
  | .int, [.int i] => .ok (.int i) st
  | .int, [.str s] => okb (!s.isEmpty && s.all isDig && Nat.ble s.length 600) (.int (numOf s)) st
  | .str, [.int i] => okb (decide (0 ≤ i) && Nat.blt i.natAbs (2 ^ 1900)) (.str (natText i.natAbs)) st
  | .gcd, [.int i, .int j] => .ok (.int (Int.gcd i j)) st
  | .sorted, [.lst ds] => okb (sortable ds) (.lst (sortD ds)) st
  | .sorted, [.dct ks _] => okb (sortable (ks.map ofKey)) (.lst (sortD (ks.map ofKey))) st
  | .tuple, [.lst ds] => .ok (.tup false ds) st
  | .tuple, [.tup k ds] => .ok (.tup k ds) st
  | .list, [.lst ds] => .ok (.lst ds) st
  | .list, [.tup _ ds] => .ok (.lst ds) st
  | .list, [.scr ns] => .ok (.lst (ns.map .int)) st
  | .list, [.str s] => okb (fits s.length) (.lst (s.map fun c => .str [c])) st
  | .any, [.lst ds] => match boolsD ds with
    | some bs => .ok (.bl (bs.any id)) st
    | none => .bad
  | .all, [.lst ds] => match boolsD ds with
    | some bs => .ok (.bl (bs.all id)) st
    | none => .bad
  | .isinst t, [d] => okO (isTy t d) st
  | _, _ => .bad
def findIx (c : Nat) : List Nat → Nat → Option Nat
  | [], _ => none
  | a :: r, i => if a = c then some i else findIx c r (i + 1)
def mtD (m : MF) (o : D) (as : List D) (st : Sto) : R D := match m, o, as with
  | .index, .str s, [.str [c]] => match fits s.length, findIx c s 0 with
    | true, some i => .ok (.int i) st
    | _, _ => .bad
  | .get2, .dct ks vs, [.tup q t, d] => match keyOf (.tup q t) with
    | some k => .ok ((lookK k ks vs).getD d) st
    | none => .bad
  | .get2, .ref j, [.tup q t, d] => match keyOf (.tup q t), getMO st j with
    | some k, some (.dct ks vs) => .ok ((lookK k ks vs).getD d) st
    | _, _ => .bad
  | .join, .str s, [.lst ds] => match strsD ds with
    | some xs => okb (fits ((xs.map List.length).foldl (· + ·) (s.length * xs.length))) (.str (joinD s xs)) st
    | none => .bad
  | .isdigit, .str s, [] => okb (s.all fun c => Nat.blt c 128) (.bl (!s.isEmpty && s.all isDig)) st
  | .isalpha, .str s, [] => okb (s.all fun c => Nat.blt c 128) (.bl (!s.isEmpty && s.all fun c => isLow c || isUp c)) st
  | .isalnum, .str s, [] => okb (s.all fun c => Nat.blt c 128) (.bl (!s.isEmpty && s.all fun c => isDig c || isLow c || isUp c)) st
  | .append, .ref j, [d] => match getMO st j with
    | some (.lst ds) => match fits ds.length with
      | true => .ok .non (st.set j (some (.lst (ds ++ [d]))))
      | false => .bad
    | _ => .bad
  | _, _, _ => .bad
def mtTy (m : MF) (o : D) (st : Sto) : Bool := match m, o with
  | .get2, .dct _ _ => true
  | .get2, .ref j => match getMO st j with
    | some (.dct _ _) => true
    | _ => false
  | .append, .ref j => match getMO st j with
    | some (.lst _) => true
    | _ => false
  | .get2, _ => false
  | .append, _ => false
  | _, .str _ => true
  | _, _ => false
/-! ### targets, what is walked -/
def T.ix : T → List Nat
  | .n i => [i]
  | .t2 a b => a.ix ++ b.ix
  | .t3 a b c => a.ix ++ b.ix ++ c.ix
def asgT : T → D → Sl → Option Sl
  | .n i, d, δ => if i < δ.length then some (δ.set i (some d)) else none
  | .t2 a b, d, δ => match d with
    | .tup _ [x, y] => (asgT a x δ).bind fun δ1 => asgT b y δ1
    | _ => none
  | .t3 a b c, d, δ => match d with
    | .tup _ [x, y, z] => (asgT a x δ).bind fun δ1 => (asgT b y δ1).bind fun δ2 => asgT c z δ2
    | _ => none
def wipe (δ : Sl) : List Nat → Sl
  | [] => δ
  | v :: vs => (wipe δ vs).set v none
def rangeD (lo : Int) : Nat → List D
  | 0 => []
  | n + 1 => .int lo :: rangeD (lo + 1) n
def enumD (i : Int) : List D → List D
  | [] => []
  | d :: ds => .tup false [.int i, d] :: enumD (i + 1) ds
def zipD : List D → List D → List D
  | x :: xs, y :: ys => .tup false [x, y] :: zipD xs ys
  | _, _ => []
def okR (i : Int) : Bool := decide (-(2 ^ 60) ≤ i) && decide (i < 2 ^ 60)
def seqOf : D → Option (List D)
  | .tup _ ds => some ds
  | .lst ds => some ds
  | .str s => if fits s.length then some (s.map fun c => .str [c]) else none
  | _ => none
def seqE : D → Option (List D)
  | .lst ds => some ds
  | .tup _ ds => some ds
  | .str s => if fits s.length then some (s.map fun c => .str [c]) else none
  | _ => none
def zipS : D → D → Option (List D)
  | .lst xs, .lst ys => some (zipD xs ys)
  | .tup _ xs, .tup _ ys => some (zipD xs ys)
  | _, _ => none
/-- one by one -/
def mapR (f : D → Sto → R (Option D)) : List D → List D → Sto → R (List D)
  | [], acc, st => .ok acc.reverse st
  | d :: ds, acc, st => (f d st).bind fun o st1 => match o with
    | some y => mapR f ds (y :: acc) st1
    | none => mapR f ds acc st1
def repD (m : Bool) (x y : D) (st : Sto) : R D := match x, y with
  | .lst ds, .int k => match decide (k < 1000000) && decide (-1000000 < k) && fits (ds.length * k.toNat), m with
    | true, false => .ok (.lst (List.replicate k.toNat ds).flatten) st
    | true, true => alloc (.lst (List.replicate k.toNat ds).flatten) st
    | false, _ => .bad
  | _, _ => .bad
def keyOk : List Int → Bool
  | [i, j] => decide (0 ≤ i) && decide (i < 256) && decide (0 ≤ j) && decide (j < 256)
  | _ => false
/-- nothing is raised -/
def noX {α : Type} : R α → R α
  | .ok a st => .ok a st
  | _ => .bad
/-! ### expressions -/
def tst (t : Bool) (r : R D) : R D := match t with
  | false => r
  | true => r.bind fun d st => okO (truth d) st
section
variable (call : Nat → List D → Sto → R D)
mutual
def ev : E → Bool → Sl → Sto → R D
  | .c d => fun t _ st => tst t (.ok d st)
  | .v i => fun t δ st => tst t (match δ[i]? with
    | some (some d) => .ok d st
    | _ => .bad)
  | .bin o a b => fun t δ st => tst t ((ev a false δ st).bind fun x st1 => (ev b false δ st1).bind fun y st2 => binD o x y st2)
  | .neg a => fun t δ st => tst t ((ev a false δ st).bind fun x st1 => match x with
    | .int i => .ok (.int (-i)) st1
    | _ => .bad)
  | .not a => fun t δ st => (ev a t δ st).bind fun x st1 => match x with
    | .bl b => .ok (.bl (!b)) st1
    | _ => .bad
  | .and a b => fun t δ st => (ev a t δ st).bind fun x st1 => match x with
    | .bl true => ev b t δ st1
    | .bl false => .ok (.bl false) st1
    | _ => .bad
  | .or a b => fun t δ st => (ev a t δ st).bind fun x st1 => match x with
    | .bl false => ev b t δ st1
    | .bl true => .ok (.bl true) st1
    | _ => .bad
  | .cmp o a b => fun _ δ st => (ev a false δ st).bind fun x st1 => (ev b false δ st1).bind fun y st2 => okO (cmpD o x y) st2
  | .cmp2 o p a b c => fun _ δ st => (ev a false δ st).bind fun x st1 => (ev b false δ st1).bind fun y st2 => match cmpD o x y with
    | some true => (ev c false δ st2).bind fun z st3 => okO (cmpD p y z) st3
    | some false => .ok (.bl false) st2
    | none => .bad
  | .ite c a b => fun t δ st => tst t ((ev c true δ st).bind fun x st1 => match x with
    | .bl true => ev a false δ st1
    | .bl false => ev b false δ st1
    | _ => .bad)
  | .call f es => fun t δ st => tst t ((evs es δ st).bind fun ds st1 => call f ds st1)
  | .bf f es => fun t δ st => tst t ((evs es δ st).bind fun ds st1 => bfD f ds st1)
  | .mt m o es => fun t δ st => tst t ((ev o false δ st).bind fun x st1 => match mtTy m x st1 with
    | true => (evs es δ st1).bind fun ds st2 => mtD m x ds st2
    | false => .bad)
  | .idx a b => fun t δ st => tst t ((ev a false δ st).bind fun x st1 => (ev b false δ st1).bind fun y st2 => idxD x y st2)
  | .slc a lo hi => fun t δ st => tst t ((ev a false δ st).bind fun x st1 => (evo lo δ st1).bind fun l st2 => (evo hi δ st2).bind fun h st3 => slcD x l h st3)
  | .tup es => fun t δ st => tst t ((evs es δ st).bind fun ds st1 => okb (fits ds.length) (.tup false ds) st1)
  | .lst m es => fun t δ st => tst t ((evs es δ st).bind fun ds st1 => match fits ds.length, m with
    | true, false => .ok (.lst ds) st1
    | true, true => alloc (.lst ds) st1
    | false, _ => .bad)
  | .dnew m => fun t _ st => tst t (match m with
    | false => .ok (.dct [] []) st
    | true => alloc (.dct [] []) st)
  | .srtS a => fun t δ st => tst t ((ev a false δ st).bind fun x st1 => match x with
    | .lst ds => okb (ds.all okS) (.lst (srtSD ds)) st1
    | _ => .bad)
  | .rev a => fun t δ st => tst t ((ev a false δ st).bind fun x st1 => match x with
    | .lst ds => .ok (.lst ds.reverse) st1
    | _ => .bad)
  | .dstar a k v => fun t δ st => tst t ((noX (ev a false δ st)).bind fun x st1 => match x with
    | .dct ks vs => match ks.all keyOk && fits ks.length with
      | true => (noX (ev k false δ st1)).bind fun y st2 => (noX (ev v false δ st2)).bind fun z st3 => match keyOf y with
        | some k => .ok (.dct (putK k z ks vs).1 (putK k z ks vs).2) st3
        | none => .bad
      | false => .bad
    | _ => .bad)
  | .rep m a n => fun t δ st => tst t ((ev a false δ st).bind fun x st1 => (ev n false δ st1).bind fun y st2 => repD m x y st2)
  | .lc ws tg it cond e => fun t δ st => tst t ((evI it δ st).bind fun ds st1 =>
      (noX (mapR (fun d st => match (tg.ix.all fun i => ws.contains i), asgT tg d (wipe δ ws) with
        | true, some δ1 => (evc cond δ1 st).bind fun b st2 => match b with
          | true => (ev e false δ1 st2).bind fun y st3 => .ok (some y) st3
          | false => .ok none st2
        | _, _ => .bad) ds [] st1)).bind fun ys st2 => okb (fits ds.length) (.lst ys) st2)
  | .lcK ws tg i cond e => fun t δ st => tst t (match δ[i]? with
    | some (some (.dct ks _)) => (noX (mapR (fun d st => match (tg.ix.all fun i => ws.contains i), asgT tg d (wipe δ ws) with
        | true, some δ1 => (evc cond δ1 st).bind fun b st2 => match b with
          | true => (ev e false δ1 st2).bind fun y st3 => .ok (some y) st3
          | false => .ok none st2
        | _, _ => .bad) (ks.map ofKey) [] st)).bind fun ys st2 => okb (fits ks.length) (.lst ys) st2
    | _ => .bad)
  | .bad => fun _ _ _ => .bad
def evs : Es → Sl → Sto → R (List D)
  | .nil => fun _ st => .ok [] st
  | .cons e es => fun δ st => (ev e false δ st).bind fun d st1 => (evs es δ st1).bind fun ds st2 => .ok (d :: ds) st2
def evo : Eo → Sl → Sto → R (Option Int)
  | .none => fun _ st => .ok none st
  | .some e => fun δ st => (ev e false δ st).bind fun d st1 => match d with
    | .int i => .ok (some i) st1
    | _ => .bad
def evc : Eo → Sl → Sto → R Bool
  | .none => fun _ st => .ok true st
  | .some e => fun δ st => (ev e true δ st).bind fun d st1 => match d with
    | .bl b => .ok b st1
    | _ => .bad
def evI : I → Sl → Sto → R (List D)
  | .of e => fun δ st => (ev e false δ st).bind fun d st1 => match seqOf d with
    | some ds => .ok ds st1
    | none => .bad
  | .rng a => fun δ st => (ev a false δ st).bind fun d st1 => match d with
    | .int j => match okR j with
      | true => .ok (rangeD 0 j.toNat) st1
      | false => .bad
    | _ => .bad
  | .rng2 a b => fun δ st => (ev a false δ st).bind fun d st1 => (ev b false δ st1).bind fun e st2 => match d, e with
    | .int i, .int j => match okR i && okR j with
      | true => .ok (rangeD i (j - i).toNat) st2
      | false => .bad
    | _, _ => .bad
  | .enum e => fun δ st => (ev e false δ st).bind fun d st1 => match seqE d with
    | some ds => .ok (enumD 0 ds) st1
    | none => .bad
  | .zip a b => fun δ st => (ev a false δ st).bind fun x st1 => (ev b false δ st1).bind fun y st2 => match zipS x y with
    | some ds => .ok ds st2
    | none => .bad
end
/-! ### statements -/
inductive Fl where
  | nx (δ : Sl) | rt (d : D) | bk (δ : Sl) | ct (δ : Sl)
inductive RS where
  | ok (f : Fl) (st : Sto)
  | exc (c : Nat) (p : D) (δ : Sl) (st : Sto)
  | bad
def R.thn {α : Type} (r : R α) (δ : Sl) (f : α → Sto → RS) : RS := match r with
  | .ok a st => f a st
  | .exc c p st => .exc c p δ st
  | .bad => .bad
def nxt (o : Option Sl) (st : Sto) : RS := match o with
  | some δ => .ok (.nx δ) st
  | none => .bad
def RS.seq (r : RS) (f : Sl → Sto → RS) : RS := match r with
  | .ok (.nx δ) st => f δ st
  | r => r
/-- a for over known items -/
def forR (tg : T) (b : Sl → Sto → RS) : List D → Sl → Sto → RS
  | [], δ, st => .ok (.nx δ) st
  | d :: ds, δ, st => match asgT tg d δ with
    | some δ1 => match b δ1 st with
      | .ok (.nx δ2) st2 => forR tg b ds δ2 st2
      | .ok (.ct δ2) st2 => forR tg b ds δ2 st2
      | .ok (.bk δ2) st2 => .ok (.nx δ2) st2
      | r => r
    | none => .bad
def whR (c : Sl → Sto → R D) (b : Sl → Sto → RS) : Nat → Sl → Sto → RS
  | 0, _, _ => .bad
  | n + 1, δ, st => (c δ st).thn δ fun x st1 => match x with
    | .bl true => match b δ st1 with
      | .ok (.nx δ2) st2 => whR c b n δ2 st2
      | .ok (.ct δ2) st2 => whR c b n δ2 st2
      | .ok (.bk δ2) st2 => .ok (.nx δ2) st2
      | r => r
    | .bl false => .ok (.nx δ) st1
    | _ => .bad
def turns : Nat := 1000000
/-- what an exception of the class c may carry: the one with a place, the ones with a text -/
def excOk : Nat → D → Bool
  | 0, .int i => decide (0 ≤ i) && Nat.blt i.natAbs 1000000000
  | _ + 1, .str s => Nat.ble s.length 1000
  | _, _ => false
def noXS : RS → RS
  | .exc _ _ _ _ => .bad
  | r => r
variable (room : Bool)
mutual
def evS : S → Sl → Sto → RS
  | .asg tg e => fun δ st => (ev call e false δ st).thn δ fun d st1 => nxt (asgT tg d δ) st1
  | .par i j a b => fun δ st => (ev call a false δ st).thn δ fun x st1 => (ev call b false δ st1).thn δ fun y st2 =>
      match Nat.blt i δ.length, Nat.blt j δ.length with
      | true, true => .ok (.nx ((δ.set i (some x)).set j (some y))) st2
      | _, _ => .bad
  | .sub o i e => fun δ st => (ev call e false δ st).thn δ fun v st1 => (ev call o false δ st1).thn δ fun x st2 => (ev call i false δ st2).thn δ fun k st3 =>
      (setD x k v st3).thn δ fun _ st4 => .ok (.nx δ) st4
  | .ex e => fun δ st => (ev call e false δ st).thn δ fun _ st1 => .ok (.nx δ) st1
  | .ret e => fun δ st => (ev call e false δ st).thn δ fun d st1 => .ok (.rt d) st1
  | .retN => fun _ st => .ok (.rt .non) st
  | .ite t a b => fun δ st => (ev call t true δ st).thn δ fun x st1 => match x with
    | .bl true => evSs a δ st1
    | .bl false => evSs b δ st1
    | _ => .bad
  | .fr tg it b => fun δ st => (evI call it δ st).thn δ fun ds st1 => forR tg (fun δ st => evSs b δ st) ds δ st1
  | .wh t b => fun δ st => whR (fun δ st => ev call t true δ st) (fun δ st => evSs b δ st) turns δ st
  | .rse c e => fun δ st => match room with
    | true => (ev call e false δ st).thn δ fun d st1 => match excOk c d with
      | true => .exc c d δ st1
      | false => .bad
    | false => .bad
  | .frK tg i b => fun δ st => match δ[i]? with
    | some (some (.dct ks _)) => noXS (forR tg (fun δ st => evSs b δ st) (ks.map ofKey) δ st)
    | _ => .bad
  | .tryPl c i b => fun δ st => match evSs b δ st with
    | .exc c' p δ1 st1 => match Nat.beq c 0 && Nat.beq c' 0 && Nat.blt i δ1.length with
      | true => .ok (.rt p) st1
      | false => .bad
    | r => r
  | .fz i => fun δ st => match δ[i]? with
    | some (some (.ref j)) => match getMO st j with
      | some (.lst ds) => .ok (.nx (δ.set i (some (.lst ds)))) (st.set j none)
      | some (.dct ks vs) => .ok (.nx (δ.set i (some (.dct ks vs)))) (st.set j none)
      | none => .bad
    | _ => .bad
  | .pass => fun δ st => .ok (.nx δ) st
  | .bk => fun δ st => .ok (.bk δ) st
  | .ct => fun δ st => .ok (.ct δ) st
  | .bad => fun _ _ => .bad
def evSs : Ss → Sl → Sto → RS
  | .nil => fun δ st => .ok (.nx δ) st
  | .cons s ss => fun δ st => (evS s δ st).seq fun δ1 st1 => evSs ss δ1 st1
end
end
/-- a def: how many parameters, how many names, the body -/
structure Fn where
  np : Nat
  nn : Nat
  body : Ss
def start (nn : Nat) (ds : List D) : Sl := ds.map some ++ List.replicate (nn - ds.length) none
def outR (r : RS) : R D := match r with
  | .ok (.rt d) st => .ok d st
  | .ok (.nx _) st => .ok .non st
  | .exc c p _ st => .exc c p st
  | _ => .bad
def callF (F : Nat → Option Fn) : Nat → Nat → List D → Sto → R D
  | 0, _, _, _ => .bad
  | k + 1, f, ds, st => match F f with
    | some fn => match Nat.beq ds.length fn.np with
      | true => outR (evSs (callF F k) (Nat.blt 2 k) fn.body (start fn.nn ds) st)
      | false => .bad
    | none => .bad
end PV
set_option maxRecDepth 100000
namespace PVH
open PySem
def m : Nat := 18446744073709551616
def rot (a : Nat) : Nat := (a * 2147483648) % 18446744073709551616 + a / 8589934592
def unrot (b : Nat) : Nat := b / 2147483648 + (b % 2147483648) * 8589934592
theorem unrot_rot {a : Nat} (h : a < 18446744073709551616) : unrot (rot a) = a := by
  have e : a * 2147483648 % 18446744073709551616 = (a % 8589934592) * 2147483648 := Nat.mul_mod_mul_right 2147483648 a 8589934592
  unfold unrot rot
  rw [e]
  omega
theorem rot_lt {a : Nat} (h : a < 18446744073709551616) : rot a < 18446744073709551616 := by unfold rot; omega
def stp (acc h : Nat) : Nat := rot ((acc + h * 14029467366897019727) % 18446744073709551616) * 11400714785074694791 % 18446744073709551616
/-- taken back -/
def ust (y : Nat) : Nat := unrot (y * 614540362697595703 % 18446744073709551616)
theorem ust_stp (acc h : Nat) : ust (stp acc h) = (acc + h * 14029467366897019727) % 18446744073709551616 := by
  have h1 : (acc + h * 14029467366897019727) % 18446744073709551616 < 18446744073709551616 := Nat.mod_lt _ (by decide)
  unfold ust stp
  generalize (acc + h * 14029467366897019727) % 18446744073709551616 = a at h1 ⊢
  have h2 := rot_lt h1
  have e : rot a * 11400714785074694791 % 18446744073709551616 * 614540362697595703 % 18446744073709551616 = rot a := by
    rw [Nat.mod_mul_mod, Nat.mul_assoc, Nat.mul_mod, show 11400714785074694791 * 614540362697595703 % 18446744073709551616 = 1 from by decide +kernel, Nat.mul_one, Nat.mod_mod, Nat.mod_eq_of_lt h2]
  rw [e, unrot_rot h1]
/-- where the first number leads, by the second prime -/
def lead (i : Nat) : Nat := stp 2870177450012600261 i * 839798700976720815 % 18446744073709551616
theorem ust_lead (i j : Nat) : ust (stp (stp 2870177450012600261 i) j) * 839798700976720815 % 18446744073709551616 = (lead i + j) % 18446744073709551616 := by
  rw [ust_stp, Nat.mod_mul_mod, Nat.add_mul, Nat.mul_assoc, Nat.add_mod, Nat.mul_mod j, show 14029467366897019727 * 839798700976720815 % 18446744073709551616 = 1 from by decide +kernel, Nat.mul_one, Nat.mod_mod, lead]
  simp only [Nat.add_mod, Nat.mod_mod]
def leads : List Nat := [7306349728055554319, 12418310136014612966, 10049765409666327412, 7996499203468434507, 5627954477120148953, 10739914885079207600, 8686648678881314695, 6318103952533029141, 4264837746335136236, 1896293019986850682, 7008253427945909329, 4639708701597623775, 2586442495399730870, 533176289201837965, 5329858177010503963, 3276591970812611058, 908047244464325504, 17301525111975984215, 3651462926075098597, 1598196719877205692, 17991674587388864403, 15623129861040578849, 2288346195290085880, 18366545542651351942, 16313279336453459037, 13944734610105173483, 609950944354680514, 17003428811866339225, 14634884085518053671, 12581617879320160766, 17378299767128826764, 15325033560930933859, 13271767354733040954, 10903222628384755400, 8849956422186862495, 13646638309995528493, 11593372103797635588, 9224827377449350034, 7171561171251457129, 12283521579210515776, 9914976852862230222, 7861710646664337317, 5493165920316051763, 10605126328275110410, 8236581601926824856, 6183315395728931951, 4130049189531039046, 8926731077339705044, 6873464871141812139, 4504920144793526585, 2451653938595633680, 7563614346554692327, 5195069620206406773, 3141803414008513868, 773258687660228314, 5885219095619286961, 3516674369271001407, 1463408163073108502, 17856886030584767213, 15488341304236481659, 2153557638485988690, 18231756985847254752, 16178490779649361847, 13809946053301076293, 475162387550583324, 16868640255062242035, 14500095528713956481, 12446829322516063576, 17243511210324729574, 15190245004126836669, 12821700277778551115, 10768434071580658210, 15880394479539716857, 13511849753191431303, 11458583546993538398, 9090038820645252844, 14201999228604311491, 12148733022406418586, 9780188296058133032, 7726922089860240127, 12523603977668906125, 10470337771471013220, 8101793045122727666, 6048526838924834761, 3995260632726941856, 8791942520535607854, 6738676314337714949, 4370131587989429395, 2316865381791536490, 7113547269600202488, 5060281063402309583, 3007014857204416678, 638470130856131124, 5750430538815189771, 3381885812466904217, 1328619606269011312, 17722097473780670023, 4072035287879784405, 2018769081681891500, 18096968429043157562, 16043702222845264657, 2393640036944379039, 340373830746486134, 16733851698258144845, 14365306971909859291, 12312040765711966386, 17108722653520632384, 15055456447322739479, 12686911720974453925, 10633645514776561020, 15745605922735619667, 13377061196387334113, 11323794990189441208, 8955250263841155654, 14067210671800214301, 11698665945451928747, 9645399739254035842, 7592133533056142937, 12388815420864808935, 10335549214666916030, 7967004488318630476, 5913738282120737571, 11025698690079796218, 8657153963731510664, 6603887757533617759, 4235343031185332205, 9347303439144390852, 6978758712796105298, 4925492506598212393, 2872226300400319488, 503681574052033934, 5615641982011092581, 3247097255662807027, 1193831049464914122, 17272030396826180184, 3937246731075687215, 1883980524877794310, 17962179872239060372, 15908913666041167467, 2258851480140281849, 205585273942388944, 16599063141454047655, 14230518415105762101, 895734749355269132, 16973934096716535194, 14920667890518642289, 12552123164170356735, 17664083572129415382, 15610817365931522477, 13242272639583236923, 11189006433385344018, 15985688321194010016, 13932422114996117111, 11563877388647831557, 9510611182449938652, 7457344976252045747, 12254026864060711745, 10200760657862818840, 7832215931514533286, 5778949725316640381, 10575631613125306379, 8522365406927413474, 6469099200729520569, 4100554474381235015, 9212514882340293662, 6843970155992008108, 4790703949794115203, 2737437743596222298, 7534119631404888296, 5480853425206995391, 3112308698858709837, 1059042492660816932, 5855724380469482930, 3802458174271590025, 1749191968073697120, 17827391315434963182, 15774125109237070277, 2124062923336184659, 70796717138291754, 16148996064499557816, 14095729858301664911, 760946192551171942, 16839145539912438004, 14785879333714545099, 12417334607366259545, 17529295015325318192, 15476028809127425287, 13107484082779139733, 11054217876581246828, 15850899764389912826, 13797633558192019921, 11429088831843734367, 9375822625645841462, 14487783033604900109, 12119238307256614555, 10065972101058721650, 7697427374710436096, 12809387782669494743, 10440843056321209189, 8387576850123316284, 6334310643925423379, 3965765917577137825, 9077726325536196472, 6709181599187910918, 4655915392990018013, 2287370666641732459, 7399331074600791106, 5346064868402898201, 2977520142054612647, 924253935856719742, 5720935823665385740, 3667669617467492835, 1614403411269599930, 17692602758630865992, 4357819092880373023, 1989274366532087469, 18382752234043746180, 16014207507695460626, 2679423841944967657, 626157635747074752, 16704356983108340814, 14651090776910447909, 1001028591009562291, 17394506458521221002, 15025961732172935448, 12972695525975042543, 10919429319777149638, 15716111207585815636, 13662845001387922731, 11294300275039637177, 9241034068841744272, 14352994476800802919, 11984449750452517365, 9931183544254624460, 7562638817906338906, 12674599225865397553, 10306054499517111999, 8252788293319219094, 6199522087121326189, 10996203974929992187, 8942937768732099282, 6574393042383813728, 4521126836185920823, 9317808723994586821, 7264542517796693916, 5211276311598801011, 2842731585250515457, 789465379052622552, 5586147266861288550, 3532881060663395645, 1164336334315110091, 17557814201826768802, 4223030536076275833, 1854485809727990279, 18247963677239648990, 15879418950891363436]
theorem leads_eq : (List.range 256).map lead = leads := by decide +kernel
def apart : List Nat → Bool
  | [] => true
  | a :: l => l.all (fun b => Nat.blt (a + 256) b || Nat.blt (b + 256) a) && Nat.blt (a + 256) 18446744073709551616 && apart l
theorem apart_ok : apart leads = true := by decide +kernel
theorem apart_get : ∀ {l : List Nat} {i j a b : Nat}, apart l = true → l[i]? = some a → l[j]? = some b → i ≠ j → a + 256 < b ∨ b + 256 < a
  | [], _, _, _, _, _, h, _, _ => by simp at h
  | x :: l, i, j, a, b, h, h1, h2, hn => by
    unfold apart at h
    simp only [Bool.and_eq_true, List.all_eq_true, Bool.or_eq_true, Nat.blt_eq] at h
    cases i with
    | zero => cases j with
      | zero => exact absurd rfl hn
      | succ j =>
        simp at h1 h2
        subst h1
        have := h.1.1 b (List.mem_of_getElem? h2)
        omega
    | succ i => cases j with
      | zero =>
        simp at h1 h2
        subst h2
        have := h.1.1 a (List.mem_of_getElem? h1)
        omega
      | succ j =>
        simp at h1 h2
        exact apart_get h.2 h1 h2 (by omega)
theorem apart_lt : ∀ {l : List Nat} {i a : Nat}, apart l = true → l[i]? = some a → a + 256 < 18446744073709551616
  | [], _, _, _, h => by simp at h
  | x :: l, i, a, h, h1 => by
    unfold apart at h
    simp only [Bool.and_eq_true, List.all_eq_true, Bool.or_eq_true, Nat.blt_eq] at h
    cases i with
    | zero => simp at h1; subst h1; exact h.1.2
    | succ i => simp at h1; exact apart_lt h.2 h1
theorem lead_get {i : Nat} (h : i < 256) : leads[i]? = some (lead i) := by
  rw [← leads_eq, List.getElem?_map, List.getElem?_range h]; rfl
theorem lead_inj {i j i' j' : Nat} (h1 : i < 256) (h2 : j < 256) (h3 : i' < 256) (h4 : j' < 256) (h : (lead i + j) % 18446744073709551616 = (lead i' + j') % 18446744073709551616) : i = i' ∧ j = j' := by
  have l1 := apart_lt apart_ok (lead_get h1)
  have l2 := apart_lt apart_ok (lead_get h3)
  rw [Nat.mod_eq_of_lt (by omega), Nat.mod_eq_of_lt (by omega)] at h
  by_cases e : i = i'
  · subst e; exact ⟨rfl, by omega⟩
  · have := apart_get apart_ok (lead_get h1) (lead_get h3) e
    omega
/-- what is added last -/
def fin (x : Nat) : Nat := (x + 2870177450013471924) % 18446744073709551616
def sgn (a : Nat) : Int := if a == 18446744073709551615 then 1546275796 else if a < 2 ^ 63 then (a : Int) else (a : Int) - 18446744073709551616
def fF (acc : Nat) (h : Int) : Nat :=
  let m : Nat := 2 ^ 64
  let prime1 : Nat := 11400714785074694791
  let prime2 : Nat := 14029467366897019727
  let acc := (acc + (h % (m : Int)).toNat * prime2) % m
  let acc := (acc * 2 ^ 31) % m + acc / 2 ^ 33
  (acc * prime1) % m
def fG (acc n : Nat) : Int :=
  let m : Nat := 2 ^ 64
  let prime5 : Nat := 2870177450012600261
  let acc := (acc + (n ^^^ (prime5 ^^^ 3527539))) % m
  if acc == m - 1 then 1546275796 else if acc < 2 ^ 63 then acc else (acc : Int) - m
theorem tup_fG (l : List Int) : Builtin.Tuple.tupleHashOf l = fG (l.foldl fF 2870177450012600261) l.length := rfl
theorem fF_eq (acc i : Nat) (h : i < 256) : fF acc (i : Int) = stp acc i := by
  have e1 : ((i : Int) % ((2 ^ 64 : Nat) : Int)).toNat = i := by omega
  unfold fF stp rot
  dsimp only
  rw [e1]
theorem fG_eq (a : Nat) : fG a 2 = sgn (fin a) := by
  have e3 : (2 ^^^ (2870177450012600261 ^^^ 3527539)) = 2870177450013471924 := by decide +kernel
  unfold fG sgn fin
  dsimp only
  rw [e3]
  generalize (a + 2870177450013471924) % 18446744073709551616 = z
  rfl
theorem tup_eq (i j : Nat) (h1 : i < 256) (h2 : j < 256) : Builtin.Tuple.tupleHashOf [(i : Int), (j : Int)] = sgn (fin (stp (stp 2870177450012600261 i) j)) := by
  rw [tup_fG, List.foldl_cons, List.foldl_cons, List.foldl_nil, fF_eq _ _ h1, fF_eq _ _ h2]
  exact fG_eq _
/-- the one value that is told twice is met by none -/
theorem z_eq : ust 15576566625242355488 * 839798700976720815 % 18446744073709551616 = 6933820525814994759 := by decide +kernel
def odd (i : Nat) : Bool := Nat.blt 6933820525814994759 (lead i) || Nat.blt (lead i + 256) 6933820525814994759
theorem odd_all : (List.range 256).all odd = true := by decide +kernel
theorem fin_ne {i j : Nat} (h1 : i < 256) (h2 : j < 256) : fin (stp (stp 2870177450012600261 i) j) ≠ 1546275796 := by
  intro h
  have l1 := apart_lt apart_ok (lead_get h1)
  have q := ust_lead i j
  have hx : stp (stp 2870177450012600261 i) j < 18446744073709551616 := Nat.mod_lt _ (by decide)
  have e : stp (stp 2870177450012600261 i) j = 15576566625242355488 := by
    unfold fin at h; omega
  rw [e, z_eq] at q
  have o := List.all_eq_true.mp odd_all i (List.mem_range.mpr h1)
  unfold odd at o
  have q2 : (lead i + j) % 18446744073709551616 = lead i + j := Nat.mod_eq_of_lt (by omega)
  rw [q2] at q
  simp only [Bool.or_eq_true, Nat.blt_eq] at o
  omega
theorem sgn_inj {a b : Nat} (ha : a < 18446744073709551616) (hb : b < 18446744073709551616) (na : a ≠ 1546275796) (nb : b ≠ 1546275796) (h : sgn a = sgn b) : a = b := by
  unfold sgn at h
  simp only [beq_iff_eq] at h
  repeat' split at h
  all_goals omega
theorem sgn_range {a : Nat} (ha : a < 18446744073709551616) : -(2 ^ 63) ≤ sgn a ∧ sgn a < 2 ^ 63 ∧ sgn a ≠ -1 := by
  unfold sgn
  simp only [beq_iff_eq]
  repeat' split
  all_goals omega
theorem tup_inj {i j i' j' : Nat} (h1 : i < 256) (h2 : j < 256) (h3 : i' < 256) (h4 : j' < 256) (h : reduceHash (Builtin.Tuple.tupleHashOf [(i : Int), (j : Int)]) = reduceHash (Builtin.Tuple.tupleHashOf [(i' : Int), (j' : Int)])) : i = i' ∧ j = j' := by
  rw [tup_eq _ _ h1 h2, tup_eq _ _ h3 h4] at h
  have f1 : fin (stp (stp 2870177450012600261 i) j) < 18446744073709551616 := Nat.mod_lt _ (by decide)
  have f2 : fin (stp (stp 2870177450012600261 i') j') < 18446744073709551616 := Nat.mod_lt _ (by decide)
  have r : ∀ a, a < 18446744073709551616 → reduceHash (sgn a) = sgn a := fun a ha => by
    have q := sgn_range ha
    unfold reduceHash
    rw [if_pos (by simp only [Bool.and_eq_true, decide_eq_true_eq]; omega), if_neg (by simp only [beq_iff_eq]; omega)]
  rw [r _ f1, r _ f2] at h
  have e := sgn_inj f1 f2 (fin_ne h1 h2) (fin_ne h3 h4) h
  have x1 : stp (stp 2870177450012600261 i) j < 18446744073709551616 := Nat.mod_lt _ (by decide)
  have x2 : stp (stp 2870177450012600261 i') j' < 18446744073709551616 := Nat.mod_lt _ (by decide)
  have e2 : stp (stp 2870177450012600261 i) j = stp (stp 2870177450012600261 i') j' := by unfold fin at e; omega
  have q1 := ust_lead i j
  have q2 := ust_lead i' j'
  rw [e2, q2] at q1
  exact lead_inj h1 h2 h3 h4 q1.symm
end PVH
set_option Elab.async false
set_option linter.all false
set_option maxRecDepth 100000
set_option maxHeartbeats 4000000
/-! PV2: how the evaluator's values and store lie in the abstract heap. -/
namespace PV
open PySem PySem.Spec PyProof.Rows L2
/-- the evaluator's store in the heap: object j stands at β[j] -/
structure Wd where
  β : List Addr
  st : Sto
  H : Hp
  ho : List Addr
theorem getMO_some {st : Sto} {j : Nat} {m : MO} : getMO st j = some m ↔ st[j]? = some (some m) := by
  unfold getMO
  split
  · rename_i x e; rw [e]; simp
  · rename_i h
    constructor
    · intro z; cases z
    · intro z; exact absurd z (h m)
/-- of the store, or a list that is being built -/
def live (w : Wd) (a : Addr) : Prop := a ∈ w.ho ∨ ∃ j m, w.β[j]? = some a ∧ getMO w.st j = some m
/-- what stays as it is, once it stands outside the store -/
def imm : HO → Prop
  | .lst _ => True
  | .tup _ => True
  | .frz _ _ => True
  | .xd _ => True
  | .dT _ => True
  | _ => False
/-- all that lies still lies so -/
structure Mv (w w' : Wd) : Prop where
  pre : ∃ t, w'.β = w.β ++ t
  keep : ∀ a o, w.H a = some o → imm o → ¬ live w a → w'.H a = some o ∧ ¬ live w' a
theorem Mv.trans {a b c : Wd} (x : Mv a b) (y : Mv b c) : Mv a c := by
  refine ⟨?_, fun p o h i n => ?_⟩
  · obtain ⟨t, e⟩ := x.pre
    obtain ⟨u, f⟩ := y.pre
    exact ⟨t ++ u, by rw [f, e, List.append_assoc]⟩
  · obtain ⟨h1, n1⟩ := x.keep p o h i n
    exact y.keep p o h1 i n1
theorem Mv.refl (w : Wd) : Mv w w := ⟨⟨[], by simp⟩, fun _ _ h _ n => ⟨h, n⟩⟩
structure Ext (w w' : Wd) : Prop where
  pre : ∃ t, w'.β = w.β ++ t
  keep : ∀ a o, w.H a = some o → imm o → ¬ live w a → w'.H a = some o ∧ ¬ live w' a
  ho : w'.ho = w.ho
  hol : ∀ a ∈ w.ho, ∀ o, w.H a = some o → w'.H a = some o
theorem Ext.mv {w w' : Wd} (x : Ext w w') : Mv w w' := ⟨x.pre, x.keep⟩
theorem Mv.dict {w w' : Wd} (x : Mv w w') (a : Addr) (kvs : List (List Key × V)) (h : Rd w.H a (.dT kvs)) (n : ¬ live w a) : Rd w'.H a (.dT kvs) ∧ ¬ live w' a := by
  rcases h with h | ⟨o, h⟩
  · obtain ⟨h1, h2⟩ := x.keep a _ h trivial n
    exact ⟨.inl h1, h2⟩
  · obtain ⟨h1, h2⟩ := x.keep a _ h trivial n
    exact ⟨.inr ⟨o, h1⟩, h2⟩
theorem Ext.refl (w : Wd) : Ext w w := ⟨⟨[], by simp⟩, fun _ _ h _ n => ⟨h, n⟩, rfl, fun _ _ _ h => h⟩
theorem Ext.trans {a b c : Wd} (x : Ext a b) (y : Ext b c) : Ext a c := by
  refine ⟨?_, fun p o h i n => ?_, y.ho.trans x.ho, fun p hp o h => y.hol p (by rw [x.ho]; exact hp) o (x.hol p hp o h)⟩
  · obtain ⟨t, e⟩ := x.pre
    obtain ⟨u, f⟩ := y.pre
    exact ⟨t ++ u, by rw [f, e, List.append_assoc]⟩
  · obtain ⟨h1, n1⟩ := x.keep p o h i n
    exact y.keep p o h1 i n1
theorem Mv.at {w w' : Wd} (x : Mv w w') {j : Nat} {a : Addr} (h : w.β[j]? = some a) : w'.β[j]? = some a := by
  obtain ⟨t, e⟩ := x.pre
  rw [e, List.getElem?_append_left]
  · exact h
  · exact (List.getElem?_eq_some_iff.mp h).1
section
variable (K : PySem.W.Frag)
/-- a tuple of the text's own top -/
def KTup (a : Addr) (xs : List V) : Prop := ∃ (o : Obj) (its : Array Value) (n : Nat), K.lookup a = some o ∧ o.cls = .type "tuple" ∧ o.data = .seq its n ∧ its.size ≤ sizeLine ∧ Vals xs its.toList
mutual
def RD (w : Wd) : D → V → Prop
  | .non, v => v = .non
  | .bl b, v => v = .bl b
  | .int i, v => v = .int i
  | .str s, v => v = .str ⟨s.toArray⟩
  | .tup k ds, v => ∃ a xs, v = .ref a ∧ (if k = true then KTup K a xs else w.H a = some (.tup xs) ∧ ¬ live w a) ∧ RDs w ds xs
  | .lst ds, v => ∃ a xs, v = .ref a ∧ w.H a = some (.lst xs) ∧ ¬ live w a ∧ RDs w ds xs
  | .dct ks ds, v => ∃ a kvs, v = .ref a ∧ Rd w.H a (.dT kvs) ∧ ¬ live w a ∧ kvs.map (·.1) = ks.map (·.map Sum.inl) ∧ RDs w ds (kvs.map (·.2))
  | .ref j, v => ∃ a, v = .ref a ∧ w.β[j]? = some a
  | .fn _, _ => False
  | .scr ns, v => ∃ a, v = .ref a ∧ ((Rd w.H a (.lst (ns.map V.int)) ∧ ¬ live w a) ∨
      ∃ (o : Obj) (its : Array Value) (n : Nat), K.lookup a = some o ∧ o.cls = .type "list" ∧ o.dict = none ∧ o.data = .seq its n ∧ its.size ≤ sizeLine ∧ Vals (ns.map V.int) its.toList)
  | .exn _ _, _ => False
def RDs (w : Wd) : List D → List V → Prop
  | [], vs => vs = []
  | d :: ds, vs => ∃ v r, vs = v :: r ∧ RD w d v ∧ RDs w ds r
end
end
variable {K : PySem.W.Frag}
theorem RDs.nil {w : Wd} : RDs K w [] [] := by simp [RDs]
theorem RDs.cons {w : Wd} {d : D} {ds : List D} {v : V} {vs : List V} (h : RD K w d v) (t : RDs K w ds vs) : RDs K w (d :: ds) (v :: vs) := by
  rw [RDs]; exact ⟨v, vs, rfl, h, t⟩
theorem RDs.nil_inv {w : Wd} {vs : List V} (h : RDs K w [] vs) : vs = [] := by simpa [RDs] using h
theorem RDs.cons_inv {w : Wd} {d : D} {ds : List D} {vs : List V} (h : RDs K w (d :: ds) vs) : ∃ v r, vs = v :: r ∧ RD K w d v ∧ RDs K w ds r := by rw [RDs] at h; exact h
mutual
theorem RD.mv {w w' : Wd} (x : Mv w w') : ∀ {d : D} {v : V}, RD K w d v → RD K w' d v
  | .non, v, h => by simpa [RD] using h
  | .bl b, v, h => by simpa [RD] using h
  | .int i, v, h => by simpa [RD] using h
  | .str s, v, h => by simpa [RD] using h
  | .tup k ds, v, h => by
    rw [RD] at h ⊢
    obtain ⟨a, xs, e, h1, h2⟩ := h
    refine ⟨a, xs, e, ?_, RDs.mv x h2⟩
    cases k with
    | true => exact h1
    | false =>
      simp only [Bool.false_eq_true, if_false] at h1 ⊢
      exact x.keep a _ h1.1 trivial h1.2
  | .lst ds, v, h => by
    rw [RD] at h ⊢
    obtain ⟨a, xs, e, h1, h3, h2⟩ := h
    obtain ⟨k1, k2⟩ := x.keep a _ h1 trivial h3
    exact ⟨a, xs, e, k1, k2, RDs.mv x h2⟩
  | .dct ks ds, v, h => by
    rw [RD] at h ⊢
    obtain ⟨a, kvs, e, h1, h3, h4, h2⟩ := h
    obtain ⟨k1, k2⟩ := x.dict a _ h1 h3
    exact ⟨a, kvs, e, k1, k2, h4, RDs.mv x h2⟩
  | .ref j, v, h => by
    rw [RD] at h ⊢
    obtain ⟨a, e, h⟩ := h
    exact ⟨a, e, x.at h⟩
  | .fn _, v, h => by simp [RD] at h
  | .scr ns, v, h => by
    rw [RD] at h ⊢
    obtain ⟨a, e, h⟩ := h
    refine ⟨a, e, ?_⟩
    rcases h with ⟨h1 | ⟨o, h1⟩, h2⟩ | h
    · obtain ⟨k1, k2⟩ := x.keep a _ h1 trivial h2
      exact .inl ⟨.inl k1, k2⟩
    · obtain ⟨k1, k2⟩ := x.keep a _ h1 trivial h2
      exact .inl ⟨.inr ⟨o, k1⟩, k2⟩
    · exact .inr h
  | .exn _ _, v, h => by simp [RD] at h
theorem RDs.mv {w w' : Wd} (x : Mv w w') : ∀ {ds : List D} {vs : List V}, RDs K w ds vs → RDs K w' ds vs
  | [], vs, h => by simpa [RDs] using h
  | d :: ds, vs, h => by
    obtain ⟨v, r, e, h1, h2⟩ := RDs.cons_inv h
    subst e
    exact .cons (RD.mv x h1) (RDs.mv x h2)
end
theorem RD.ext {w w' : Wd} (x : Ext w w') {d : D} {v : V} (h : RD K w d v) : RD K w' d v := RD.mv x.mv h
theorem RDs.ext {w w' : Wd} (x : Ext w w') {ds : List D} {vs : List V} (h : RDs K w ds vs) : RDs K w' ds vs := RDs.mv x.mv h
theorem RDs.length {w : Wd} : ∀ {ds : List D} {vs : List V}, RDs K w ds vs → vs.length = ds.length
  | [], vs, h => by rw [h.nil_inv]; rfl
  | d :: ds, vs, h => by
    obtain ⟨v, r, e, _, t⟩ := h.cons_inv
    subst e
    simp [RDs.length t]
theorem RDs.get {w : Wd} : ∀ {ds : List D} {vs : List V} {i : Nat} {d : D}, RDs K w ds vs → ds[i]? = some d → ∃ v, vs[i]? = some v ∧ RD K w d v
  | [], _, _, _, _, e => by simp at e
  | d :: ds, vs, 0, d', h, e => by
    obtain ⟨v, r, e1, h1, _⟩ := h.cons_inv
    subst e1
    simp at e; subst e
    exact ⟨v, rfl, h1⟩
  | d :: ds, vs, i + 1, d', h, e => by
    obtain ⟨v, r, e1, _, t⟩ := h.cons_inv
    subst e1
    obtain ⟨u, h1, h2⟩ := RDs.get (i := i) t (by simpa using e)
    exact ⟨u, by simpa using h1, h2⟩
theorem RDs.get' {w : Wd} : ∀ {ds : List D} {vs : List V} {i : Nat} {v : V}, RDs K w ds vs → vs[i]? = some v → ∃ d, ds[i]? = some d ∧ RD K w d v
  | [], vs, i, v, h, e => by rw [h.nil_inv] at e; simp at e
  | d :: ds, vs, 0, v', h, e => by
    obtain ⟨v, r, e1, h1, _⟩ := h.cons_inv
    subst e1
    simp at e; subst e
    exact ⟨d, rfl, h1⟩
  | d :: ds, vs, i + 1, v', h, e => by
    obtain ⟨v, r, e1, _, t⟩ := h.cons_inv
    subst e1
    obtain ⟨u, h1, h2⟩ := RDs.get' (i := i) t (by simpa using e)
    exact ⟨u, by simpa using h1, h2⟩
theorem RDs.append {w : Wd} : ∀ {ds es : List D} {vs us : List V}, RDs K w ds vs → RDs K w es us → RDs K w (ds ++ es) (vs ++ us)
  | [], _, vs, us, h, t => by rw [h.nil_inv]; exact t
  | d :: ds, es, vs, us, h, t => by
    obtain ⟨v, r, e1, h1, h2⟩ := h.cons_inv
    subst e1
    exact .cons h1 (RDs.append h2 t)
theorem RDs.take {w : Wd} : ∀ {ds : List D} {vs : List V} (n : Nat), RDs K w ds vs → RDs K w (ds.take n) (vs.take n)
  | ds, vs, 0, h => by simpa using RDs.nil
  | [], vs, n + 1, h => by rw [h.nil_inv]; simpa using RDs.nil
  | d :: ds, vs, n + 1, h => by
    obtain ⟨v, r, e1, h1, h2⟩ := h.cons_inv
    subst e1
    exact .cons h1 (RDs.take n h2)
theorem RDs.drop {w : Wd} : ∀ {ds : List D} {vs : List V} (n : Nat), RDs K w ds vs → RDs K w (ds.drop n) (vs.drop n)
  | ds, vs, 0, h => h
  | [], vs, n + 1, h => by rw [h.nil_inv]; simpa using RDs.nil
  | d :: ds, vs, n + 1, h => by
    obtain ⟨v, r, e1, h1, h2⟩ := h.cons_inv
    subst e1
    exact RDs.drop n h2
theorem RDs.set {w : Wd} {d : D} {v : V} (hd : RD K w d v) : ∀ {ds : List D} {vs : List V} (n : Nat), RDs K w ds vs → RDs K w (ds.set n d) (vs.set n v)
  | [], vs, n, h => by rw [h.nil_inv]; simpa using RDs.nil
  | e :: ds, vs, 0, h => by
    obtain ⟨u, r, e1, h1, h2⟩ := h.cons_inv
    subst e1
    exact .cons hd h2
  | e :: ds, vs, n + 1, h => by
    obtain ⟨u, r, e1, h1, h2⟩ := h.cons_inv
    subst e1
    exact .cons h1 (RDs.set hd n h2)
theorem RDs.rep {w : Wd} {ds : List D} {vs : List V} (h : RDs K w ds vs) : ∀ n : Nat, RDs K w (List.replicate n ds).flatten (List.replicate n vs).flatten
  | 0 => by simpa using RDs.nil
  | n + 1 => by
    rw [List.replicate_succ, List.replicate_succ, List.flatten_cons, List.flatten_cons]
    exact h.append (RDs.rep h n)
/-- the store's objects stand in the heap -/
def MOat (K : PySem.W.Frag) (w : Wd) (a : Addr) : MO → Prop
  | .lst ds => ∃ xs, w.H a = some (.lst xs) ∧ RDs K w ds xs
  | .dct ks ds => ∃ kvs, w.H a = some (.dT kvs) ∧ kvs.map (·.1) = ks.map (·.map Sum.inl) ∧ RDs K w ds (kvs.map (·.2))
/-- neither a tuple nor what is known of code -/
def noT (o : HO) : Prop := (∀ xs, o ≠ .tup xs) ∧ (∀ ps, o ≠ .tbl ps) ∧ ∀ f, o ≠ .ext f
/-- the tables of code objects that are written when a lambda is made: of the text's defs, those that stand outside the written part -/
def tabsK (K : PySem.W.Frag) : List (Addr × Str) := K.filterMap fun e => match e.2.data with
  | .func fd => (match fd.code with
    | .ref c => (match K.lookup c with
      | some ⟨_, _, .fields vs, _⟩ => (match (vs[11]? : Option Value) with
        | some (.ref P) => (match K.lookup P with
          | none => some (P, fd.qualname ++ ".<locals>." ++ "<lambda>")
          | some _ => none)
        | _ => none)
      | _ => none)
    | _ => none)
  | _ => none
theorem tabs_upd {T : List (Addr × Str)} {H : Hp} {p : Addr} {o : HO} (t : LamX.Tabs T H) (h : ∀ u, H p = some u → noT u ∨ ∃ xs, u = .tup xs) : LamX.Tabs T (upd H p o) := fun q hq => by
  obtain ⟨ps, h1, h2, h3⟩ := t q hq
  have nP : q.1 ≠ p := fun z => by
    rcases h _ (by rw [← z]; exact h1) with k | ⟨xs, k⟩
    · exact k.2.1 ps rfl
    · cases k
  refine ⟨ps, by rw [upd_ne nP]; exact h1, h2, fun pos cv hc => ?_⟩
  obtain ⟨c, e1, e2⟩ := h3 pos cv hc
  refine ⟨c, e1, ?_⟩
  rw [upd_ne fun z => ?_]
  · exact e2
  · rcases h _ (by rw [← z]; exact e2) with k | ⟨xs, k⟩
    · exact k.2.2 _ rfl
    · unfold LamX.CodeO at k; cases k
theorem tabs_new {T : List (Addr × Str)} {H : Hp} {p : Addr} {o : HO} (t : LamX.Tabs T H) (h : H p = none) : LamX.Tabs T (upd H p o) := tabs_upd t fun u e => by rw [h] at e; cases e
/-- nothing, or a table of code objects -/
def NoO (o : Option HO) : Prop := o = none ∨ ∃ ps, o = some (.tbl ps)
theorem noO_upd {H : Hp} {p a : Addr} {o : HO} (n : noT o) (k : a ≠ p → ¬ NoO (H a)) : ¬ NoO (upd H p o a) := by
  by_cases q : a = p
  · subst q
    rw [upd_same]
    rintro (z | ⟨ps, z⟩)
    · cases z
    · injection z with z
      exact n.2.1 ps z
  · rw [upd_ne q]
    exact k q
theorem noO_new {H : Hp} {p a : Addr} {o : HO} (h : H p = none) (k : ¬ NoO (H a)) : ¬ NoO (upd H p o a) := by
  rw [upd_ne fun z => k (.inl (by rw [z]; exact h))]
  exact k
structure StoOk (K : PySem.W.Frag) (w : Wd) : Prop where
  len : w.β.length = w.st.length
  nd : w.β.Nodup
  at_ : ∀ j m, getMO w.st j = some m → ∃ a, w.β[j]? = some a ∧ MOat K w a m
  occ : ∀ a ∈ w.β, ¬ NoO (w.H a)
  hoL : ∀ a ∈ w.ho, ∃ o, w.H a = some o ∧ noT o
  sep : ∀ a ∈ w.ho, a ∉ w.β
  tab : LamX.Tabs (tabsK K) w.H
theorem MOat.mv {w w' : Wd} {a : Addr} {m : MO} (x : Mv w w') (e : w'.H a = w.H a) (h : MOat K w a m) : MOat K w' a m := by
  cases m with
  | lst ds =>
    obtain ⟨xs, h1, h2⟩ := h
    exact ⟨xs, e.trans h1, h2.mv x⟩
  | dct ks ds =>
    obtain ⟨kvs, h1, h3, h2⟩ := h
    exact ⟨kvs, e.trans h1, h3, h2.mv x⟩
theorem MOat.ext {w w' : Wd} {a : Addr} {m : MO} (x : Ext w w') (e : w'.H a = w.H a) (h : MOat K w a m) : MOat K w' a m := MOat.mv x.mv e h
theorem MOat.some {w : Wd} {a : Addr} {m : MO} (h : MOat K w a m) : ∃ o, w.H a = some o := by
  cases m with
  | lst ds => obtain ⟨xs, h1, _⟩ := h; exact ⟨_, h1⟩
  | dct ks ds => obtain ⟨xs, h1, _⟩ := h; exact ⟨_, h1⟩
theorem StoOk.live {w : Wd} (S : StoOk K w) {a : Addr} (h : live w a) : ∃ o, w.H a = some o := by
  rcases h with h | ⟨j, m, e1, e2⟩
  · obtain ⟨o, e, _⟩ := S.hoL a h
    exact ⟨_, e⟩
  obtain ⟨b, e3, h3⟩ := S.at_ j m e2
  rw [e1] at e3; cases e3
  exact h3.some
theorem StoOk.nlive {w : Wd} (S : StoOk K w) {a : Addr} (h : w.H a = none) : ¬ PV.live w a := fun z => by
  obtain ⟨o, e⟩ := S.live z
  rw [h] at e; cases e
/-- a new object outside the store -/
abbrev Wd.new (w : Wd) (p : Addr) (o : HO) : Wd := ⟨w.β, w.st, upd w.H p o, w.ho⟩
theorem live_new {w : Wd} {p : Addr} {o : HO} {a : Addr} : live (w.new p o) a ↔ live w a := Iff.rfl
theorem Ext.new {w : Wd} {p : Addr} {o : HO} (h : w.H p = none) : Ext w (w.new p o) := by
  refine ⟨⟨[], by simp⟩, fun a o' e _ n => ⟨?_, n⟩, rfl, fun a _ o' e => ?_⟩
  · show upd w.H p o a = some o'
    rw [upd_ne (ne_of_none e h)]; exact e
  · show upd w.H p o a = some o'
    rw [upd_ne (ne_of_none e h)]; exact e
theorem StoOk.new {w : Wd} {p : Addr} {o : HO} (S : StoOk K w) (h : w.H p = none) : StoOk K (w.new p o) := by
  refine ⟨S.len, S.nd, fun j m e => ?_, fun a m => noO_new h (S.occ a m), fun a m => ?_, S.sep, tabs_new S.tab h⟩
  case refine_2 =>
    obtain ⟨o', e, n⟩ := S.hoL a m
    exact ⟨o', by show upd w.H p o a = _; rw [upd_ne (ne_of_none e h)]; exact e, n⟩
  obtain ⟨a, e1, h1⟩ := S.at_ j m e
  refine ⟨a, e1, h1.ext (Ext.new h) ?_⟩
  obtain ⟨o', e2⟩ := h1.some
  show upd w.H p o a = _
  rw [upd_ne (ne_of_none e2 h)]
theorem StoOk.nlive_new {w : Wd} {p : Addr} {o : HO} (S : StoOk K w) (h : w.H p = none) : ¬ PV.live (w.new p o) p := S.nlive h
/-- a new object of the store -/
abbrev Wd.alloc (w : Wd) (p : Addr) (m : MO) (o : HO) : Wd := ⟨w.β ++ [p], w.st ++ [some m], upd w.H p o, w.ho⟩
theorem live_alloc {w : Wd} {p : Addr} {m : MO} {o : HO} {a : Addr} (l : w.β.length = w.st.length) (h : live (w.alloc p m o) a) : a = p ∨ live w a := by
  rcases h with h | ⟨j, m', e1, e2⟩
  · exact .inr (.inl h)
  have e1 : (w.β ++ [p])[j]? = some a := e1
  have e2 : (w.st ++ [some m])[j]? = some (some m') := getMO_some.mp e2
  by_cases hj : j < w.β.length
  · rw [List.getElem?_append_left hj] at e1
    rw [List.getElem?_append_left (by omega)] at e2
    exact .inr (.inr ⟨j, m', e1, getMO_some.mpr e2⟩)
  · rw [List.getElem?_append_right (by omega)] at e1
    have : j - w.β.length = 0 := by
      have := (List.getElem?_eq_some_iff.mp e1).1
      simp at this; omega
    rw [this] at e1
    simp at e1
    exact .inl e1.symm
theorem Ext.alloc {w : Wd} {p : Addr} {m : MO} {o : HO} (S : StoOk K w) (h : w.H p = none) : Ext w (w.alloc p m o) := by
  refine ⟨⟨[p], rfl⟩, fun a o' e _ n => ⟨?_, fun z => ?_⟩, rfl, fun a _ o' e => by show upd w.H p o a = some o'; rw [upd_ne (ne_of_none e h)]; exact e⟩
  · show upd w.H p o a = some o'
    rw [upd_ne (ne_of_none e h)]; exact e
  · rcases live_alloc S.len z with z | z
    · exact ne_of_none e h z
    · exact n z
theorem StoOk.mem {w : Wd} {j : Nat} {a : Addr} {m : MO} (S : StoOk K w) (e : getMO w.st j = some m) (h : w.β[j]? = some a) : MOat K w a m := by
  obtain ⟨b, e1, h1⟩ := S.at_ j m e
  rw [h] at e1; cases e1
  exact h1
end PV
set_option Elab.async false
set_option linter.all false
set_option maxRecDepth 100000
set_option maxHeartbeats 4000000
/-! PV3: what is wanted behind a result; the operators. -/
namespace PV
open PySem PySem.Spec PyProof.Rows L2
variable {K : PySem.W.Frag}
/-- how the exception of the class c with the payload p lies -/
abbrev XR := Wd → Nat → D → Value → Option Addr → Prop
/-- what is wanted behind a result -/
def Pst (K : PySem.W.Frag) (xr : XR) (w : Wd) {α γ : Type} (r : R α) (rel : Wd → α → γ → Prop) (Q : γ → Hp → Prop) (E : XK) : Prop := match r with
  | .ok d st' => ∀ (β' : List Addr) (H' : Hp) (v : γ), Ext w ⟨β', st', H', w.ho⟩ → StoOk K ⟨β', st', H', w.ho⟩ → rel ⟨β', st', H', w.ho⟩ d v → Q v H'
  | .exc c p st' => ∀ (β' : List Addr) (H' : Hp) (cls : Value) (od : Option Addr), Ext w ⟨β', st', H', w.ho⟩ → StoOk K ⟨β', st', H', w.ho⟩ → xr ⟨β', st', H', w.ho⟩ c p cls od → E cls od H'
  | .bad => False
section
variable {xr : XR} {w w1 : Wd} {α β γ δ : Type}
theorem Pst.ext {r : R α} {rel : Wd → α → γ → Prop} {Q : γ → Hp → Prop} {E : XK} (x : Ext w w1) (h : Pst K xr w r rel Q E) : Pst K xr w1 r rel Q E := by
  cases r with
  | ok d st =>
    intro β' H' v y S q
    have e := x.ho
    rw [e] at y S q
    exact h β' H' v (x.trans y) S q
  | exc c p st =>
    intro β' H' v od y S q
    have e := x.ho
    rw [e] at y S q
    exact h β' H' v od (x.trans y) S q
  | bad => exact h
theorem Pst.bind {r : R α} {f : α → Sto → R β} {rel : Wd → α → γ → Prop} {rel2 : Wd → β → δ → Prop} {Q : δ → Hp → Prop} {Q1 : γ → Hp → Prop} {E : XK} (h : Pst K xr w (r.bind f) rel2 Q E)
    (k : ∀ (a : α) (w1 : Wd) (v : γ), Ext w w1 → StoOk K w1 → rel w1 a v → Pst K xr w1 (f a w1.st) rel2 Q E → Q1 v w1.H) : Pst K xr w r rel Q1 E := by
  cases r with
  | ok d st => exact fun β' H' v x S q => k d ⟨β', st, H', w.ho⟩ v x S q (Pst.ext x h)
  | exc c p st => exact h
  | bad => exact h
/-- no exception: any wish will do -/
theorem Pst.okb {c : Bool} {d : D} {st : Sto} {rel : Wd → D → γ → Prop} {Q : γ → Hp → Prop} {E : XK} (h : Pst K xr w (okb c d st) rel Q E) : c = true ∧ Pst K xr w (.ok d st) rel Q E := by
  cases c with
  | true => exact ⟨rfl, h⟩
  | false => exact h.elim
theorem Pst.okd {o : Option D} {st : Sto} {rel : Wd → D → γ → Prop} {Q : γ → Hp → Prop} {E : XK} (h : Pst K xr w (okd o st) rel Q E) : ∃ d, o = some d ∧ Pst K xr w (.ok d st) rel Q E := by
  cases o with
  | some d => exact ⟨d, rfl, h⟩
  | none => exact h.elim
theorem Pst.okO {o : Option Bool} {st : Sto} {rel : Wd → D → γ → Prop} {Q : γ → Hp → Prop} {E : XK} (h : Pst K xr w (okO o st) rel Q E) : ∃ b, o = some b ∧ Pst K xr w (.ok (.bl b) st) rel Q E := by
  cases o with
  | some d => exact ⟨d, rfl, h⟩
  | none => exact h.elim
/-- the value comes where it stands -/
theorem Pst.here {d : α} {rel : Wd → α → γ → Prop} {Q : γ → Hp → Prop} {E : XK} {v : γ} (S : StoOk K w) (h : Pst K xr w (.ok d w.st) rel Q E) (r : rel w d v) : Q v w.H := h w.β w.H v (Ext.refl w) S r
/-- the value is a new object -/
theorem Pst.mk {d : α} {rel : Wd → α → γ → Prop} {Q : γ → Hp → Prop} {E : XK} {v : γ} {p : Addr} {o : HO} (S : StoOk K w) (h : Pst K xr w (.ok d w.st) rel Q E) (hp : w.H p = none) (r : rel (w.new p o) d v) : Q v (upd w.H p o) :=
  h w.β (upd w.H p o) v (Ext.new hp) (S.new hp) r
end
theorem fits_le {n : Nat} (h : fits n = true) : n ≤ sizeLine := by
  have := Nat.le_of_ble_eq_true h
  rw [sizeLine_eq]; omega
theorem fits_lt {n : Nat} (h : fits n = true) : n < sizeLine := by
  have := Nat.le_of_ble_eq_true h
  rw [sizeLine_eq]; omega
/-- tuples: read -/
theorem RD.tup_inv {w : Wd} {k : Bool} {ds : List D} {v : V} (h : RD K w (.tup k ds) v) : ∃ a xs, v = .ref a ∧ SqT K w.H a xs ∧ RDs K w ds xs := by
  rw [RD] at h
  obtain ⟨a, xs, e, h1, h2⟩ := h
  refine ⟨a, xs, e, ?_, h2⟩
  cases k with
  | true => exact .inr h1
  | false =>
    rw [if_neg Bool.false_ne_true] at h1
    exact .of h1.1
theorem RD.lst_inv {w : Wd} {ds : List D} {v : V} (h : RD K w (.lst ds) v) : ∃ a xs, v = .ref a ∧ w.H a = some (.lst xs) ∧ ¬ live w a ∧ RDs K w ds xs := by rw [RD] at h; exact h
theorem RD.int_inv {w : Wd} {i : Int} {v : V} (h : RD K w (.int i) v) : v = .int i := by simpa [RD] using h
theorem RD.bl_inv {w : Wd} {i : Bool} {v : V} (h : RD K w (.bl i) v) : v = .bl i := by simpa [RD] using h
theorem RD.str_inv {w : Wd} {i : List Nat} {v : V} (h : RD K w (.str i) v) : v = .str ⟨i.toArray⟩ := by simpa [RD] using h
theorem RD.non_inv {w : Wd} {v : V} (h : RD K w .non v) : v = .non := by simpa [RD] using h
theorem RD.int {w : Wd} {i : Int} : RD K w (.int i) (.int i) := by simp [RD]
theorem RD.bl {w : Wd} {i : Bool} : RD K w (.bl i) (.bl i) := by simp [RD]
theorem RD.str {w : Wd} {i : List Nat} : RD K w (.str i) (.str ⟨i.toArray⟩) := by simp [RD]
theorem RD.non {w : Wd} : RD K w .non .non := by simp [RD]
theorem RD.newTup {w : Wd} {ds : List D} {xs : List V} {p : Addr} (S : StoOk K w) (hp : w.H p = none) (h : RDs K w ds xs) : RD K (w.new p (.tup xs)) (.tup false ds) (.ref p) := by
  rw [RD]
  exact ⟨p, xs, rfl, by rw [if_neg Bool.false_ne_true]; exact ⟨upd_same, S.nlive_new hp⟩, h.ext (Ext.new hp)⟩
theorem RD.newLst {w : Wd} {ds : List D} {xs : List V} {p : Addr} (S : StoOk K w) (hp : w.H p = none) (h : RDs K w ds xs) : RD K (w.new p (.lst xs)) (.lst ds) (.ref p) := by
  rw [RD]
  exact ⟨p, xs, rfl, upd_same, S.nlive_new hp, h.ext (Ext.new hp)⟩
theorem str_eq {x : List Nat} {z : Str} (h : z = ⟨x.toArray⟩) : z.length = x.length ∧ z.cps.toList = x := by subst h; exact ⟨by simp [Str.length], by simp⟩
/-! ### two-place operators -/
def rB (K : PySem.W.Frag) (xr : XR) (f : D → D → Sto → R D) : R2 := fun x y H Q => ∃ (w : Wd) (d e : D), w.H = H ∧ StoOk K w ∧ RD K w d x ∧ RD K w e y ∧ Pst K xr w (f d e w.st) (RD K) Q fun _ _ _ => False
section
variable {X : Cx} {xr : XR}
def opOf : BO → Operator
  | .add => .Add
  | .sub => .Sub
  | .mul => .Mult
  | .fdiv => .FloorDiv
  | .mod => .Mod
  | .pow => .Pow
theorem small_spec {i : Int} (h : small i = true) : -(2 ^ 64) < i ∧ i < 2 ^ 64 := by
  have : i.natAbs < 2 ^ 64 := by
    have := Nat.ble_eq.mp h
    omega
  omega
theorem wide_spec {i : Int} (h : wide i = true) : i.natAbs < 2 ^ 8000 := Nat.lt_of_lt_of_le (Nat.lt_succ_self _) (Nat.ble_eq.mp h)
theorem op_mulD {i j : Int} (h : okMul i j = true) {pins : List (Addr × Obj)} {s : Shared} {σ : L2.St} {H : Hp} {v u : Value} {Q : VK} (I : Inv X pins σ H s) (r1 : RelV (.int i) v) (r2 : RelV (.int j) u) (q : Q (.int (i * j)) H) :
    wpAny (model X.prog X.w) X.A (binaryOp .Mult v u) (EP X pins σ Q) X.xe s := by
  unfold okMul at h
  simp only [Bool.or_eq_true, Bool.and_eq_true] at h
  rcases h with (h | h) | ⟨h1, h2⟩
  · exact op_mul pins s σ H _ _ v u Q I r1 r2 ⟨i, j, rfl, rfl, .inr (small_spec h), q⟩
  · exact op_mul pins s σ H _ _ v u Q I r1 r2 ⟨i, j, rfl, rfl, .inl (small_spec h), q⟩
  · exact op_mulW pins s σ H _ _ v u Q I r1 r2 ⟨i, j, rfl, rfl, wide_mul (wide_spec h1) (wide_spec h2) (by decide) (by decide) (by decide), q⟩
theorem op_divD {i j : Int} (h : okDiv i j = true) {pins : List (Addr × Obj)} {s : Shared} {σ : L2.St} {H : Hp} {v u : Value} {Q : VK} (I : Inv X pins σ H s) (r1 : RelV (.int i) v) (r2 : RelV (.int j) u) (q : Q (.int (i.fdiv j)) H) :
    wpAny (model X.prog X.w) X.A (binaryOp .FloorDiv v u) (EP X pins σ Q) X.xe s := by
  unfold okDiv at h
  simp only [Bool.or_eq_true, Bool.and_eq_true, decide_eq_true_eq] at h
  rcases h with ⟨h1, h2⟩ | ⟨⟨h1, h2⟩, h3⟩
  · exact op_fdivN pins s σ H _ _ v u Q I r1 r2 ⟨i, j, rfl, rfl, ⟨h1, Nat.lt_of_lt_of_le (Nat.lt_succ_self _) (Nat.ble_eq.mp h2)⟩, q⟩
  · exact op_fdivW pins s σ H _ _ v u Q I r1 r2 ⟨i, j, rfl, rfl, wide_div h1 (wide_spec h3) (by decide) (by decide), by show Q (.int (i / j)) H; rw [← Int.fdiv_eq_ediv_of_nonneg i (show (0 : Int) ≤ j by omega)]; exact q⟩
theorem op_bin (o : BO) : OpR X (binaryOp (opOf o)) (rB X.K xr (binD o)) := by
  intro pins s σ H x y v u Q I rx ry h
  obtain ⟨w, d, e, rfl, S, hd, he, h⟩ := h
  unfold binD at h
  split at h
  · cases hd.int_inv; cases he.int_inv
    exact op_add pins s σ _ _ _ v u Q I rx ry ⟨_, _, rfl, rfl, h.here S RD.int⟩
  · cases hd.int_inv; cases he.int_inv
    exact op_sub pins s σ _ _ _ v u Q I rx ry ⟨_, _, rfl, rfl, h.here S RD.int⟩
  · cases hd.int_inv; cases he.int_inv
    obtain ⟨c, h⟩ := h.okb
    exact op_mulD c I rx ry (h.here S RD.int)
  · cases hd.int_inv; cases he.int_inv
    obtain ⟨c, h⟩ := h.okb
    exact op_divD c I rx ry (h.here S RD.int)
  · cases hd.int_inv; cases he.int_inv
    obtain ⟨c, h⟩ := h.okb
    exact op_modN pins s σ _ _ _ v u Q I rx ry ⟨_, _, rfl, rfl, of_decide_eq_true c, h.here S RD.int⟩
  · cases hd.int_inv; cases he.int_inv
    obtain ⟨c, h⟩ := h.okb
    unfold okPow at c
    simp only [Bool.and_eq_true, decide_eq_true_eq] at c
    exact op_pow pins s σ _ _ _ v u Q I rx ry ⟨_, _, rfl, rfl, ⟨c.1.1, c.1.2, by have := small_spec c.2; omega⟩, h.here S RD.int⟩
  · rename_i a b
    cases hd.str_inv; cases he.str_inv
    obtain ⟨c, h'⟩ := h.okb
    refine op_add_str pins s σ _ _ _ v u Q I rx ry ⟨_, _, rfl, rfl, by simpa [Str.length] using fits_le c, h'.here S ?_⟩
    rw [RD]
    congr 1
    show (⟨a.toArray ++ b.toArray⟩ : Str) = _
    simp
  · obtain ⟨a, xs, rfl, ha, la, ra⟩ := hd.lst_inv
    obtain ⟨b, ys, rfl, hb, lb, rb⟩ := he.lst_inv
    obtain ⟨c, h⟩ := h.okb
    refine op_cat pins s σ _ _ _ v u Q I rx ry ⟨a, b, xs, ys, rfl, rfl, ha, hb, by rw [ra.length, rb.length]; exact fits_le c, fun p hp => h.mk S hp (.newLst S hp (ra.append rb))⟩
  · rename_i ja da jb db
    obtain ⟨a, xs, rfl, ha, ra⟩ := hd.tup_inv
    obtain ⟨b, ys, rfl, hb, rb⟩ := he.tup_inv
    obtain ⟨c, h'⟩ := h.okb
    have lx := ra.length
    have ly := rb.length
    refine op_catA pins s σ _ _ _ v u Q I rx ry ⟨a, b, xs, ys, rfl, rfl, ha, hb, by rw [lx, ly]; exact fits_le c, fun e => ?_, fun n e => ?_, fun n n2 p hp => ?_⟩
    · have ea : da = [] := List.eq_nil_of_length_eq_zero (by rw [← lx, e]; rfl)
      subst ea
      exact h'.here S (by simpa using he)
    · have eb : db = [] := List.eq_nil_of_length_eq_zero (by rw [← ly, e]; rfl)
      subst eb
      have na : da.isEmpty = false := by
        cases da with
        | nil => exact absurd (ra.nil_inv) n
        | cons _ _ => rfl
      exact h'.here S (by rw [na]; simpa using hd)
    · have nb : db.isEmpty = false := by
        cases db with
        | nil => exact absurd (rb.nil_inv) n2
        | cons _ _ => rfl
      have na : da.isEmpty = false := by
        cases da with
        | nil => exact absurd (ra.nil_inv) n
        | cons _ _ => rfl
      refine h'.mk S hp ?_
      rw [nb, na]
      simpa using RD.newTup S hp (ra.append rb)
  · exact h.elim
end
end PV
set_option Elab.async false
set_option linter.all false
set_option maxRecDepth 100000
set_option maxHeartbeats 4000000
/-! PV4: comparisons. -/
namespace PV
open PySem PySem.Spec PyProof.Rows L2
variable {K : PySem.W.Frag}
mutual
def D.py : D → PyData
  | .non => .none
  | .bl b => .bool b
  | .int i => .int i
  | .str s => .str ⟨s.toArray⟩
  | .tup _ ds => .tuple (D.pys ds)
  | .lst ds => .list (D.pys ds)
  | _ => .none
def D.pys : List D → List PyData
  | [] => []
  | d :: ds => D.py d :: D.pys ds
end
mutual
theorem dp_of {w : Wd} : ∀ (d : D) (n : Nat) (v : V), D.data n d = true → RD K w d v → Dp K w.H v d.py
  | .non, n, v, _, r => by cases r.non_inv; exact .non
  | .bl b, n, v, _, r => by cases r.bl_inv; exact .bl b
  | .int b, n, v, _, r => by cases r.int_inv; exact .int b
  | .str b, n, v, _, r => by cases r.str_inv; exact .str _
  | .tup k ds, 0, v, h, r => by simp [D.data] at h
  | .tup k ds, n + 1, v, h, r => by
    obtain ⟨a, xs, rfl, ha, rs⟩ := r.tup_inv
    exact .tup ha (dps_of ds n xs (by simpa [D.data] using h) rs)
  | .lst ds, 0, v, h, r => by simp [D.data] at h
  | .lst ds, n + 1, v, h, r => by
    obtain ⟨a, xs, rfl, ha, _, rs⟩ := r.lst_inv
    exact .lst (.of ha) (dps_of ds n xs (by simpa [D.data] using h) rs)
  | .dct _ _, n, v, h, r => by simp [D.data] at h
  | .ref _, n, v, h, r => by simp [D.data] at h
  | .fn _, n, v, h, r => by simp [D.data] at h
  | .scr _, n, v, h, r => by simp [D.data] at h
  | .exn _ _, n, v, h, r => by simp [D.data] at h
theorem dps_of {w : Wd} : ∀ (ds : List D) (n : Nat) (vs : List V), (∀ d ∈ ds, D.data n d = true) → RDs K w ds vs → DpAll K w.H vs (D.pys ds)
  | [], n, vs, _, r => by rw [r.nil_inv]; exact .nil
  | d :: ds, n, vs, h, r => by
    obtain ⟨v, u, rfl, h1, h2⟩ := r.cons_inv
    exact .cons (dp_of d n v (h d List.mem_cons_self) h1) (dps_of ds n u (fun e he => h e (List.mem_cons_of_mem _ he)) h2)
end
mutual
theorem shaped_of : ∀ (d : D) (n : Nat), D.data n d = true → d.py.canLay0 = true ∧ d.py.depth ≤ n
  | .non, n, _ => ⟨rfl, Nat.zero_le _⟩
  | .bl b, n, _ => ⟨rfl, Nat.zero_le _⟩
  | .int b, n, _ => ⟨rfl, Nat.zero_le _⟩
  | .str s, n, h => by
    refine ⟨?_, Nat.zero_le _⟩
    have h : (s.all fun c => Nat.blt c 1114112) = true := by cases n <;> exact h
    show PyData.strOk ⟨s.toArray⟩ = true
    unfold PyData.strOk
    rw [List.all_eq_true] at h
    simp only [List.all_toArray', List.all_eq_true, decide_eq_true_eq]
    intro c hc
    have := h c hc
    exact Nat.lt_of_lt_of_le (Nat.lt_succ_self _) (Nat.ble_eq.mp this)
  | .tup k ds, 0, h => by simp [D.data] at h
  | .tup k ds, n + 1, h => by
    obtain ⟨h1, h2⟩ := shapeds_of ds n (by simpa [D.data] using h)
    exact ⟨h1, Nat.succ_le_succ h2⟩
  | .lst ds, 0, h => by simp [D.data] at h
  | .lst ds, n + 1, h => by
    obtain ⟨h1, h2⟩ := shapeds_of ds n (by simpa [D.data] using h)
    exact ⟨h1, Nat.succ_le_succ h2⟩
  | .dct _ _, n, h => by simp [D.data] at h
  | .ref _, n, h => by simp [D.data] at h
  | .fn _, n, h => by simp [D.data] at h
  | .scr _, n, h => by simp [D.data] at h
  | .exn _ _, n, h => by simp [D.data] at h
theorem shapeds_of : ∀ (ds : List D) (n : Nat), (∀ d ∈ ds, D.data n d = true) → PyData.canLayAll0 (D.pys ds) = true ∧ PyData.depthAll (D.pys ds) ≤ n
  | [], n, _ => ⟨rfl, Nat.zero_le _⟩
  | d :: ds, n, h => by
    obtain ⟨a1, a2⟩ := shaped_of d n (h d List.mem_cons_self)
    obtain ⟨b1, b2⟩ := shapeds_of ds n (fun e he => h e (List.mem_cons_of_mem _ he))
    refine ⟨?_, ?_⟩
    · show (PyData.canLay0 d.py && PyData.canLayAll0 (D.pys ds)) = true
      rw [a1, b1]; rfl
    · show max (PyData.depth d.py) (PyData.depthAll (D.pys ds)) ≤ n
      omega
end
theorem shaped_data {d : D} (h : D.data 20 d = true) : SeqAt.shaped d.py = true := by
  obtain ⟨h1, h2⟩ := shaped_of d 20 h
  unfold SeqAt.shaped
  rw [h1, decide_eq_true (by omega)]; rfl
theorem str_beq (x y : List Nat) : ((⟨x.toArray⟩ : Str) == ⟨y.toArray⟩) = (x == y) := by
  rw [← L2.dec_str]
  by_cases e : x = y
  · subst e; simp
  · have h1 : (x == y) = false := by simpa using e
    rw [h1]
    apply decide_eq_false
    intro z
    injection z with z
    injection z with z
    exact e (by simpa using z)
mutual
theorem eqv_py : ∀ (d e : D) (n m : Nat), D.data n d = true → D.data m e = true → PyData.eqv d.py e.py = D.eqv d e
  | .non, e, n, m, hd, he => by cases e <;> first | (simp [D.data] at he; done) | rfl
  | .bl b, e, n, m, hd, he => by
    cases e with
    | bl c => rfl
    | int c => simp [D.py, PyData.eqv, D.eqv]; rw [Bool.beq_eq_decide_eq]
    | non => rfl
    | str s => rfl
    | tup k ds => rfl
    | lst ds => rfl
    | _ => simp [D.data] at he
  | .int b, e, n, m, hd, he => by
    cases e with
    | bl c => simp [D.py, PyData.eqv, D.eqv]; rw [Bool.beq_eq_decide_eq]
    | int c => simp [D.py, PyData.eqv, D.eqv]; rw [Bool.beq_eq_decide_eq]
    | non => rfl
    | str s => rfl
    | tup k ds => rfl
    | lst ds => rfl
    | _ => simp [D.data] at he
  | .str b, e, n, m, hd, he => by
    cases e with
    | str c => exact str_beq b c
    | non => rfl
    | int s => rfl
    | bl s => rfl
    | tup k ds => rfl
    | lst ds => rfl
    | _ => simp [D.data] at he
  | .tup k ds, e, 0, m, hd, he => by simp [D.data] at hd
  | .tup k ds, e, n + 1, m, hd, he => by
    cases e with
    | tup k2 es =>
      cases m with
      | zero => simp [D.data] at he
      | succ m => exact eqvs_py ds es n m (by simpa [D.data] using hd) (by simpa [D.data] using he)
    | non => rfl
    | int s => rfl
    | bl s => rfl
    | str ds => rfl
    | lst ds => rfl
    | _ => simp [D.data] at he
  | .lst ds, e, 0, m, hd, he => by simp [D.data] at hd
  | .lst ds, e, n + 1, m, hd, he => by
    cases e with
    | lst es =>
      cases m with
      | zero => simp [D.data] at he
      | succ m => exact eqvs_py ds es n m (by simpa [D.data] using hd) (by simpa [D.data] using he)
    | non => rfl
    | int s => rfl
    | bl s => rfl
    | str ds => rfl
    | tup k ds => rfl
    | _ => simp [D.data] at he
  | .dct _ _, e, n, m, hd, he => by simp [D.data] at hd
  | .ref _, e, n, m, hd, he => by simp [D.data] at hd
  | .fn _, e, n, m, hd, he => by simp [D.data] at hd
  | .scr _, e, n, m, hd, he => by simp [D.data] at hd
  | .exn _ _, e, n, m, hd, he => by simp [D.data] at hd
theorem eqvs_py : ∀ (ds es : List D) (n m : Nat), (∀ d ∈ ds, D.data n d = true) → (∀ d ∈ es, D.data m d = true) → PyData.eqvAll (D.pys ds) (D.pys es) = D.eqvs ds es
  | [], [], n, m, _, _ => rfl
  | [], e :: es, n, m, _, _ => rfl
  | d :: ds, [], n, m, _, _ => rfl
  | d :: ds, e :: es, n, m, hd, he => by
    show (PyData.eqv d.py e.py && PyData.eqvAll (D.pys ds) (D.pys es)) = (D.eqv d e && D.eqvs ds es)
    rw [eqv_py d e n m (hd d List.mem_cons_self) (he e List.mem_cons_self), eqvs_py ds es n m (fun x hx => hd x (List.mem_cons_of_mem _ hx)) (fun x hx => he x (List.mem_cons_of_mem _ hx))]
end
theorem flat_of {w : Wd} {d : D} {v : V} (h : d.flat = true) (r : RD K w d v) : flatV v = true := by
  cases d <;> first | (simp [D.flat] at h; done) | skip
  · cases r.non_inv; rfl
  · cases r.bl_inv; rfl
  · cases r.int_inv; rfl
  · cases r.str_inv; rfl
theorem eqV_of {w : Wd} {d e : D} {v u : V} (hd : d.flat = true) (he : e.flat = true) (rd : RD K w d v) (re : RD K w e u) : eqV v u = D.eqv d e := by
  cases d <;> first | (simp [D.flat] at hd; done) | skip
  all_goals cases e <;> first | (simp [D.flat] at he; done) | skip
  all_goals first | (cases rd.non_inv) | (cases rd.bl_inv) | (cases rd.int_inv) | (cases rd.str_inv)
  all_goals first | (cases re.non_inv) | (cases re.bl_inv) | (cases re.int_inv) | (cases re.str_inv)
  all_goals first
    | rfl
    | (simp only [eqV, D.eqv]; exact str_beq _ _)
    | (simp only [eqV, D.eqv]; rw [Bool.beq_eq_decide_eq])
theorem flats_of {w : Wd} : ∀ {ds : List D} {vs : List V}, ds.all D.flat = true → RDs K w ds vs → vs.all flatV = true
  | [], vs, _, r => by rw [r.nil_inv]; rfl
  | d :: ds, vs, h, r => by
    obtain ⟨v, u, rfl, h1, h2⟩ := r.cons_inv
    simp only [List.all_cons, Bool.and_eq_true] at h ⊢
    exact ⟨flat_of h.1 h1, flats_of h.2 h2⟩
theorem inV_of {w : Wd} {d : D} {x : V} (hd : d.flat = true) (rd : RD K w d x) : ∀ {ds : List D} {vs : List V}, ds.all D.flat = true → RDs K w ds vs → inV x vs = ds.any fun y => D.eqv y d
  | [], vs, _, r => by rw [r.nil_inv]; rfl
  | e :: ds, vs, h, r => by
    obtain ⟨v, u, rfl, h1, h2⟩ := r.cons_inv
    simp only [List.all_cons, Bool.and_eq_true] at h
    have := inV_of hd rd h.2 h2
    unfold inV at this ⊢
    rw [List.any_cons, List.any_cons, this, eqV_of h.1 hd h1 rd]
def cmpOf : CO → CmpOp
  | .lt => .Lt
  | .le => .LtE
  | .gt => .Gt
  | .ge => .GtE
  | .eq => .Eq
  | .ne => .NotEq
  | .isin => .In
  | .notin => .NotIn
  | .is_ => .Is
  | .isnot => .IsNot
section
variable {X : Cx} {xr : XR}
theorem mem_any (c : Nat) (s : List Nat) : decide (c ∈ s.toArray.toList) = s.any fun b => b == c := by
  rw [Bool.eq_iff_iff]
  simp
theorem in_D (neg : Bool) {w : Wd} {d e : D} {x y : V} {b : Bool} {Q : VK} (hd : RD X.K w d x) (he : RD X.K w e y) (h : isIn d e = some b) (q : Q (.bl (if neg then !b else b)) w.H) :
    rIn X.K neg x y w.H Q ∨ ∃ (c : Nat) (z : Str), x = .str ⟨#[c]⟩ ∧ y = .str z ∧ Q (.bl (if neg then !decide (c ∈ z.cps.toList) else decide (c ∈ z.cps.toList))) w.H := by
  unfold isIn at h
  split at h
  · obtain ⟨a, xs, rfl, ha, ra⟩ := he.tup_inv
    split at h
    · rename_i c
      simp only [Bool.and_eq_true] at c
      injection h with h
      subst h
      exact .inl ⟨a, xs, rfl, .inr ha, flat_of c.1 hd, flats_of c.2 ra, by rw [inV_of c.1 hd c.2 ra]; exact q⟩
    · cases h
  · obtain ⟨a, xs, rfl, ha, _, ra⟩ := he.lst_inv
    split at h
    · rename_i c
      simp only [Bool.and_eq_true] at c
      injection h with h
      subst h
      exact .inl ⟨a, xs, rfl, .inl (.of ha), flat_of c.1 hd, flats_of c.2 ra, by rw [inV_of c.1 hd c.2 ra]; exact q⟩
    · cases h
  · cases he.str_inv
    split at h
    · cases hd.str_inv
      injection h with h
      subst h
      exact .inr ⟨_, _, rfl, rfl, by rw [mem_any]; exact q⟩
    · cases h
  · cases h
theorem same_D {w : Wd} {d e : D} {x y : V} {b : Bool} (hd : RD X.K w d x) (he : RD X.K w e y) (h : isSame d e = some b) : (y = .non ∧ b = decide (x = .non)) ∨ ∃ p q, x = .bl p ∧ y = .bl q ∧ b = decide (p = q) := by
  unfold isSame at h
  split at h
  · cases he.non_inv
    refine .inl ⟨rfl, ?_⟩
    cases d <;> simp at h <;> subst h
    · cases hd.non_inv; rfl
    · cases hd.bl_inv; rfl
    · cases hd.int_inv; rfl
    · cases hd.str_inv; rfl
    · obtain ⟨a, xs, rfl, _⟩ := hd.tup_inv; rfl
    · obtain ⟨a, xs, rfl, _⟩ := hd.lst_inv; rfl
    · rw [RD] at hd; obtain ⟨a, xs, rfl, _⟩ := hd; rfl
    · rw [RD] at hd; obtain ⟨a, rfl, _⟩ := hd; rfl
    · simp [RD] at hd
    · rw [RD] at hd; obtain ⟨a, rfl, _⟩ := hd; rfl
    · simp [RD] at hd
  · cases hd.bl_inv; cases he.bl_inv
    injection h with h
    exact .inr ⟨_, _, rfl, rfl, h.symm⟩
  · cases h
theorem lexI_lex : ∀ xs ys : List Int, lexI xs ys = HT.lexLt xs ys
  | [], [] => rfl
  | [], _ :: _ => rfl
  | _ :: _, [] => rfl
  | x :: xs, y :: ys => by unfold lexI HT.lexLt; rw [lexI_lex xs ys]
theorem rds_ints {w : Wd} : ∀ {ds : List D} {is : List Int} {xs : List V}, intsD ds = some is → RDs K w ds xs → xs = is.map V.int
  | [], is, xs, h, r => by
    cases r.nil_inv
    simp [intsD] at h
    subst h
    rfl
  | d :: ds, is, xs, h, r => by
    obtain ⟨v, t, rfl, h1, h2⟩ := r.cons_inv
    cases d <;> first | (simp [intsD] at h; done) | skip
    rename_i i
    cases q : intsD ds with
    | none => simp [intsD, q] at h
    | some js =>
      simp [intsD, q] at h
      subst h
      cases h1.int_inv
      rw [rds_ints q h2]
      rfl
theorem op_cmp (hu : X.A.units + 64 < cLine) (o : CO) : OpR X (compareOp (cmpOf o)) (rB X.K xr fun d e st => okO (cmpD o d e) st) := by
  intro pins s σ H x y v u Q I rx ry h
  obtain ⟨w, d, e, rfl, S, hd, he, h⟩ := h
  obtain ⟨b, hb, h'⟩ := h.okO
  have q : Q (.bl b) w.H := h'.here S RD.bl
  cases o with
  | lt =>
    unfold cmpD at hb
    dsimp only at hb
    split at hb
    · cases hd.int_inv; cases he.int_inv
      injection hb with hb; subst hb
      exact op_lt pins s σ _ _ _ v u Q I rx ry ⟨_, _, rfl, rfl, q⟩
    · split at hb
      · rename_i is js e1 e2
        injection hb with hb; subst hb
        obtain ⟨a, xs, rfl, h1, h2⟩ := hd.tup_inv
        obtain ⟨b, ys, rfl, k1, k2⟩ := he.tup_inv
        rw [rds_ints e1 h2] at h1
        rw [rds_ints e2 k2] at k1
        rw [lexI_lex] at q
        exact op_ltT (by omega) pins s σ _ _ _ v u Q I rx ry ⟨_, _, _, _, rfl, rfl, h1, k1, q⟩
      · cases hb
    · cases hb
  | le =>
    unfold cmpD at hb
    dsimp only at hb
    split at hb
    · cases hd.int_inv; cases he.int_inv
      injection hb with hb; subst hb
      exact op_le pins s σ _ _ _ v u Q I rx ry ⟨_, _, rfl, rfl, q⟩
    · cases hb
  | gt =>
    unfold cmpD at hb
    dsimp only at hb
    split at hb
    · cases hd.int_inv; cases he.int_inv
      injection hb with hb; subst hb
      exact op_gt pins s σ _ _ _ v u Q I rx ry ⟨_, _, rfl, rfl, q⟩
    · cases hb
  | ge =>
    unfold cmpD at hb
    dsimp only at hb
    split at hb
    · cases hd.int_inv; cases he.int_inv
      injection hb with hb; subst hb
      exact op_ge pins s σ _ _ _ v u Q I rx ry ⟨_, _, rfl, rfl, q⟩
    · cases hb
  | eq =>
    unfold cmpD at hb
    dsimp only at hb
    split at hb
    · rename_i c
      simp only [Bool.and_eq_true] at c
      injection hb with hb; subst hb
      exact op_eqD hu pins s σ _ _ _ v u Q I rx ry ⟨d.py, e.py, dp_of d 20 x c.1 hd, dp_of e 20 y c.2 he, shaped_data c.1, shaped_data c.2, by rw [eqv_py d e 20 20 c.1 c.2]; exact q⟩
    · cases hb
  | ne =>
    unfold cmpD at hb
    dsimp only at hb
    split at hb
    · rename_i c
      simp only [Bool.and_eq_true] at c
      injection hb with hb; subst hb
      exact op_neD hu pins s σ _ _ _ v u Q I rx ry ⟨d.py, e.py, dp_of d 20 x c.1 hd, dp_of e 20 y c.2 he, shaped_data c.1, shaped_data c.2, by rw [eqv_py d e 20 20 c.1 c.2]; exact q⟩
    · cases hb
  | isin =>
    rcases in_D (X := X) false hd he hb q with z | ⟨c, z, rfl, rfl, z2⟩
    · exact op_in_seq pins s σ _ _ _ v u Q I rx ry z
    · exact op_in_sign pins s σ _ _ _ v u Q I rx ry ⟨c, z, rfl, rfl, by simpa using z2⟩
  | notin =>
    have hb : (isIn d e).map (!·) = some b := hb
    obtain ⟨b', h1, h2⟩ := Option.map_eq_some_iff.mp hb
    subst h2
    rcases in_D (X := X) true hd he h1 q with z | ⟨c, z, rfl, rfl, z2⟩
    · exact op_notIn_seq pins s σ _ _ _ v u Q I rx ry z
    · exact op_notIn_sign pins s σ _ _ _ v u Q I rx ry ⟨c, z, rfl, rfl, by simpa using z2⟩
  | is_ =>
    rcases same_D hd he hb with ⟨rfl, rfl⟩ | ⟨p, r, rfl, rfl, rfl⟩
    · exact op_isN pins s σ _ _ _ v u Q I rx ry ⟨rfl, q⟩
    · exact op_isBl pins s σ _ _ _ v u Q I rx ry ⟨p, r, rfl, rfl, by simpa [Bool.beq_eq_decide_eq] using q⟩
  | isnot =>
    have hb : (isSame d e).map (!·) = some b := hb
    obtain ⟨b', h1, h2⟩ := Option.map_eq_some_iff.mp hb
    subst h2
    rcases same_D hd he h1 with ⟨rfl, rfl⟩ | ⟨p, r, rfl, rfl, rfl⟩
    · exact op_notN pins s σ _ _ _ v u Q I rx ry ⟨rfl, q⟩
    · exact op_notBl pins s σ _ _ _ v u Q I rx ry ⟨p, r, rfl, rfl, by simpa [Bool.beq_eq_decide_eq] using q⟩
end
end PV
set_option Elab.async false
set_option linter.all false
set_option maxRecDepth 100000
set_option maxHeartbeats 4000000
/-! PV5: items, slices, stores. -/
namespace PV
open PySem PySem.Spec PyProof.Rows L2
variable {K : PySem.W.Frag}
theorem PE.or {X : Cx} {e : Expr} {t u : TE} (h : PE X e t) (h' : PE X e u) : PE X e (fun σ H Q => t σ H Q ∨ u σ H Q) :=
  ⟨fun pins s σ H Q I q => q.elim (h.run pins s σ H Q I) (h'.run pins s σ H Q I)⟩
theorem PE.weak {X : Cx} {e : Expr} {t u : TE} (h : PE X e t) (k : ∀ σ H Q, u σ H Q → t σ H Q) : PE X e u :=
  ⟨fun pins s σ H Q I q => h.run pins s σ H Q I (k σ H Q q)⟩
theorem PT.weak {X : Cx} {e : Expr} {t u : TT} (h : PT X e t) (k : ∀ σ H Q, u σ H Q → t σ H Q) : PT X e u :=
  ⟨fun pins s σ H Q I q => h.run pins s σ H Q I (k σ H Q q)⟩
theorem PW.weak {X : Cx} {e : Expr} {t u : TT} (h : PW X e t) (k : ∀ σ H Q, u σ H Q → t σ H Q) : PW X e u :=
  ⟨fun wh pins s σ H Q I q => h.run wh pins s σ H Q I (k σ H Q q)⟩
theorem PS.weak {X : Cx} {e : Stmt} {t u : TS} (h : PS X e t) (k : ∀ D σ H, u D σ H → t D σ H) : PS X e u :=
  ⟨fun pins s σ H D I q => h.run pins s σ H D I (k D σ H q)⟩
theorem PSs.weak {X : Cx} {e : List Stmt} {t u : TS} (h : PSs X e t) (k : ∀ D σ H, u D σ H → t D σ H) : PSs X e u :=
  ⟨fun pins s σ H D I q => h.run pins s σ H D I (k D σ H q)⟩
theorem PA.weak {X : Cx} {e : List Expr} {t u : TA} (h : PA X e t) (k : ∀ σ H Q, u σ H Q → t σ H Q) : PA X e u :=
  ⟨fun pos pins s σ H Q I q => h.run pos pins s σ H Q I (k σ H Q q)⟩
theorem PI.weak {X : Cx} {tg e : Expr} {t u : TI} (h : PI X tg e t) (k : ∀ σ H Q, u σ H Q → t σ H Q) : PI X tg e u :=
  ⟨fun pins s σ H Q I q => h.run pins s σ H Q I (k σ H Q q)⟩
theorem PO.weak {X : Cx} {e : Option Expr} {t u : TO} (h : PO X e t) (k : ∀ σ H Q, u σ H Q → t σ H Q) : PO X e u :=
  ⟨fun pins s σ H Q I q => h.run pins s σ H Q I (k σ H Q q)⟩
theorem atI_of {w : Wd} {ds : List D} {xs : List V} (h : RDs K w ds xs) {i : Int} {d : D} (e : atI ds i = some d) : ∃ v, L2.atI xs i = some v ∧ RD K w d v := by
  unfold atI at e
  unfold L2.atI
  have hl := h.length
  rw [hl]
  cases q : ixN ds.length i with
  | none => rw [q] at e; cases e
  | some j =>
    rw [q] at e
    have q' : L2.ixN ds.length i = some j := q
    rw [q']
    exact h.get e
theorem ints_spec : ∀ {ds : List D} {k : List Int}, intsD ds = some k → ds = k.map .int
  | [], k, h => by simp [intsD] at h; subst h; rfl
  | d :: ds, k, h => by
    cases d <;> simp only [intsD, Option.map_eq_some_iff] at h <;> first | (cases h; done) | skip
    obtain ⟨r, h1, h2⟩ := h
    subst h2
    rw [ints_spec h1]; rfl
theorem bools_spec : ∀ {ds : List D} {k : List Bool}, boolsD ds = some k → ds = k.map .bl
  | [], k, h => by simp [boolsD] at h; subst h; rfl
  | d :: ds, k, h => by
    cases d <;> simp only [boolsD, Option.map_eq_some_iff] at h <;> first | (cases h; done) | skip
    obtain ⟨r, h1, h2⟩ := h
    subst h2
    rw [bools_spec h1]; rfl
theorem strs_spec : ∀ {ds : List D} {k : List (List Nat)}, strsD ds = some k → ds = k.map .str
  | [], k, h => by simp [strsD] at h; subst h; rfl
  | d :: ds, k, h => by
    cases d <;> simp only [strsD, Option.map_eq_some_iff] at h <;> first | (cases h; done) | skip
    obtain ⟨r, h1, h2⟩ := h
    subst h2
    rw [strs_spec h1]; rfl
theorem keyOf_spec {d : D} {k : List Int} (h : keyOf d = some k) : d = .tup false (k.map .int) := by
  unfold keyOf at h
  split at h
  · rw [ints_spec h]
  · cases h
theorem RDs.ints_inv {w : Wd} : ∀ {k : List Int} {xs : List V}, RDs K w (k.map .int) xs → xs = k.map V.int
  | [], xs, h => h.nil_inv
  | i :: k, xs, h => by
    obtain ⟨v, r, rfl, h1, h2⟩ := h.cons_inv
    cases h1.int_inv
    rw [RDs.ints_inv h2]; rfl
theorem RDs.ints {w : Wd} : ∀ {k : List Int}, RDs K w (k.map .int) (k.map V.int)
  | [] => .nil
  | _ :: _ => .cons .int RDs.ints
theorem kVs_map (k : List Int) : (k.map Sum.inl : List Key).map kV = k.map V.int := by
  rw [List.map_map]; rfl
/-- a key's tuple -/
theorem key_at {w : Wd} {d : D} {k : List Int} {v : V} (h : keyOf d = some k) (r : RD K w d v) : ∃ b, v = .ref b ∧ w.H b = some (.tup ((k.map Sum.inl : List Key).map kV)) ∧ ¬ live w b := by
  have e := keyOf_spec h
  subst e
  rw [RD] at r
  obtain ⟨a, xs, e1, h1, h2⟩ := r
  rw [if_neg Bool.false_ne_true] at h1
  cases h2.ints_inv
  exact ⟨a, e1, by rw [kVs_map]; exact h1.1, h1.2⟩
theorem map_inl_inj {a b : List Int} (h : (a.map Sum.inl : List Key) = b.map Sum.inl) : a = b := by
  have := congrArg (List.map fun k : Key => match k with | .inl i => i | .inr _ => 0) h
  simpa [List.map_map, Function.comp_def] using this
theorem lookK_of {w : Wd} {k : List Int} : ∀ {ks : List (List Int)} {vs : List D} {kvs : List (List Key × V)}, kvs.map (·.1) = ks.map (·.map Sum.inl) → RDs K w vs (kvs.map (·.2)) →
    (∀ d, lookK k ks vs = some d → ∃ v, valV kvs (k.map Sum.inl) = some v ∧ RD K w d v) ∧ (lookK k ks vs = none → valV kvs (k.map Sum.inl) = none)
  | [], vs, kvs, h1, h2 => by
    have e : kvs = [] := by simpa using h1
    subst e
    exact ⟨fun d h => by simp [lookK] at h, fun _ => rfl⟩
  | a :: ks, [], kvs, h1, h2 => by
    have e : kvs = [] := by simpa using h2.nil_inv
    subst e
    simp at h1
  | a :: ks, v :: vs, kvs, h1, h2 => by
    obtain ⟨u, r, e, r1, r2⟩ := h2.cons_inv
    cases kvs with
    | nil => simp at e
    | cons p kvs =>
      simp only [List.map_cons, List.cons.injEq] at h1 e
      obtain ⟨h1, h1'⟩ := h1
      obtain ⟨e, e'⟩ := e
      subst e e'
      by_cases q : a = k
      · subst q
        simp only [lookK, if_true]
        rw [valV_pos h1]
        exact ⟨fun d h => by injection h with h; subst h; exact ⟨_, rfl, r1⟩, fun h => nomatch h⟩
      · simp only [lookK, if_neg q]
        rw [valV_neg (fun z => q (map_inl_inj (h1.symm.trans z)))]
        exact lookK_of h1' r2
theorem hasK_of {k : List Int} : ∀ {ks : List (List Int)} {kvs : List (List Key × V)}, kvs.map (·.1) = ks.map (·.map Sum.inl) → (kvs.any fun kv => decide (kv.1 = k.map Sum.inl)) = hasK k ks
  | [], kvs, h => by
    have e : kvs = [] := by simpa using h
    subst e; rfl
  | a :: ks, [], h => by simp at h
  | a :: ks, p :: kvs, h => by
    simp only [List.map_cons, List.cons.injEq] at h
    rw [List.any_cons, hasK_of h.2]
    by_cases q : a = k
    · subst q
      simp [hasK, h.1]
    · have : decide (p.1 = k.map Sum.inl) = false := decide_eq_false fun z => q (map_inl_inj (h.1.symm.trans z))
      rw [this]; simp [hasK, q]
theorem putV_of {w : Wd} {k : List Int} {x : D} {v : V} (hx : RD K w x v) : ∀ {ks : List (List Int)} {vs : List D} {kvs : List (List Key × V)}, kvs.map (·.1) = ks.map (·.map Sum.inl) → RDs K w vs (kvs.map (·.2)) →
    RDs K w (putV k x ks vs) ((kvs.map fun kv => if kv.1 = k.map Sum.inl then (kv.1, v) else kv).map (·.2))
  | [], vs, kvs, h1, h2 => by
    have e : kvs = [] := by simpa using h1
    subst e
    exact .nil
  | a :: ks, [], kvs, h1, h2 => by
    have e : kvs = [] := by simpa using h2.nil_inv
    subst e
    simp at h1
  | a :: ks, u :: vs, kvs, h1, h2 => by
    obtain ⟨u', r, e, r1, r2⟩ := h2.cons_inv
    cases kvs with
    | nil => simp at e
    | cons p kvs =>
      simp only [List.map_cons, List.cons.injEq] at h1 e
      obtain ⟨h1, h1'⟩ := h1
      obtain ⟨e, e'⟩ := e
      subst e e'
      have ih := putV_of (k := k) hx h1' r2
      simp only [List.map_cons, putV]
      refine .cons ?_ ih
      by_cases q : a = k
      · subst q
        rw [if_pos rfl, if_pos h1]; exact hx
      · rw [if_neg q, if_neg (fun z => q (map_inl_inj (h1.symm.trans z)))]; exact r1
theorem putK_of {w : Wd} {k : List Int} {x : D} {v : V} (hx : RD K w x v) {ks : List (List Int)} {vs : List D} {kvs : List (List Key × V)} (h1 : kvs.map (·.1) = ks.map (·.map Sum.inl)) (h2 : RDs K w vs (kvs.map (·.2))) :
    (L2.putK kvs (k.map Sum.inl) v).map (·.1) = (putK k x ks vs).1.map (·.map Sum.inl) ∧ RDs K w (putK k x ks vs).2 ((L2.putK kvs (k.map Sum.inl) v).map (·.2)) := by
  have hh := hasK_of (k := k) h1
  unfold L2.putK putK
  cases q : hasK k ks with
  | true =>
    rw [q] at hh
    rw [if_pos hh]
    refine ⟨?_, putV_of hx h1 h2⟩
    rw [← h1, List.map_map]
    apply List.map_congr_left
    intro p _
    by_cases e : p.1 = k.map Sum.inl <;> simp [e]
  | false =>
    rw [q] at hh
    rw [if_neg (by rw [hh]; exact Bool.false_ne_true)]
    refine ⟨by simp [h1], ?_⟩
    simp only [List.map_append, List.map_cons, List.map_nil]
    exact h2.append (.cons hx .nil)
/-! ### a[i] -/
section
variable {X : Cx} {xr : XR}
theorem dict_sub {w : Wd} {ks : List (List Int)} {vs : List D} {x y : V} {e d : D} {k : List Int} (hx : RD K w (.dct ks vs) x) (hk : keyOf e = some k) (hy : RD K w e y) (hd : lookK k ks vs = some d) : ∃ a v, x = .ref a ∧ DGet w.H a y (some v) ∧ RD K w d v := by
  rw [RD] at hx
  obtain ⟨a, kvs, rfl, h1, _, h3, h4⟩ := hx
  obtain ⟨b, rfl, hb, _⟩ := key_at hk hy
  obtain ⟨v, e1, e2⟩ := (lookK_of h3 h4).1 d hd
  exact ⟨a, v, rfl, .inr ⟨kvs, _, b, h1, rfl, hb, e1.symm⟩, e2⟩
/-- all but dicts -/
def notDct : D → Bool
  | .dct _ _ => false
  | _ => true
theorem ix_D : IxR X (fun x y H Q => ∃ (w : Wd) (d e : D), w.H = H ∧ StoOk X.K w ∧ notDct d = true ∧ RD X.K w d x ∧ RD X.K w e y ∧ Pst X.K xr w (idxD d e w.st) (RD X.K) Q fun _ _ _ => False) := by
  intro value slice pins s σ H x y v u Q I rx ry h hs
  obtain ⟨w, d, e, rfl, S, nd, hd, he, h⟩ := h
  unfold idxD at h
  split at h
  · obtain ⟨a, xs, rfl, ha, ra⟩ := hd.tup_inv
    cases he.int_inv
    obtain ⟨z, hz, h'⟩ := h.okd
    obtain ⟨z', e1, e2⟩ := atI_of ra hz
    exact ix_tup value slice pins s σ _ _ _ v u Q I rx ry ⟨a, xs, _, z', rfl, rfl, ha, e1, h'.here S e2⟩ hs
  · obtain ⟨a, xs, rfl, ha, _, ra⟩ := hd.lst_inv
    cases he.int_inv
    obtain ⟨z, hz, h'⟩ := h.okd
    obtain ⟨z', e1, e2⟩ := atI_of ra hz
    exact ix_list value slice pins s σ _ _ _ v u Q I rx ry ⟨a, xs, _, z', rfl, rfl, .of ha, e1, h'.here S e2⟩ hs
  · cases hd.str_inv
    cases he.int_inv
    split at h
    · rename_i c hf hc
      refine ix_str value slice pins s σ _ _ _ v u Q I rx ry ⟨_, _, c, rfl, rfl, by simpa [Str.length] using fits_le hf, by have e : L2.atI _ _ = some c := hc; simpa using e, ?_⟩ hs
      exact h.here S RD.str
    · exact h.elim
  · cases he.int_inv
    split at h
    · rename_i ds hm
      rw [RD] at hd
      obtain ⟨a, rfl, ha⟩ := hd
      obtain ⟨xs, h1, h2⟩ := S.mem hm ha
      obtain ⟨z, hz, h'⟩ := h.okd
      obtain ⟨z', e1, e2⟩ := atI_of h2 hz
      exact ix_list value slice pins s σ _ _ _ v u Q I rx ry ⟨a, xs, _, z', rfl, rfl, .of h1, e1, h'.here S e2⟩ hs
    · exact h.elim
  · simp [notDct] at nd
  · exact h.elim
theorem RDs.cut {w : Wd} {ds : List D} {xs : List V} (h : RDs K w ds xs) (lo hi : Option Int) : RDs K w (cut ds lo hi) (cutV xs lo hi) := by
  unfold PV.cut cutV
  have e : ∀ d o, HT.sIx ds.length d o = sIx ds.length d o := fun d o => by cases o <;> rfl
  rw [h.length, e, e]
  exact (h.drop _).take _
theorem cutS_of (s : List Nat) (lo hi : Option Int) : cutS ⟨s.toArray⟩ lo hi = ⟨(cut s lo hi).toArray⟩ := by
  unfold cutS PV.cut
  congr 1
theorem sl_D : SlR X (fun x lo hi H Q => ∃ (w : Wd) (d : D), w.H = H ∧ StoOk X.K w ∧ RD X.K w d x ∧ Pst X.K xr w (slcD d lo hi w.st) (RD X.K) Q fun _ _ _ => False) := by
  intro pins s σ H x v vl vu lo hi sl Q I rx hs pl pu h
  obtain ⟨w, d, rfl, S, hd, h⟩ := h
  unfold slcD at h
  split at h
  · cases hd.str_inv
    obtain ⟨c, h'⟩ := h.okb
    refine sl_str pins s σ _ _ v vl vu lo hi sl Q I rx hs pl pu ⟨_, rfl, by simpa [Str.length] using fits_le c, h'.here S ?_⟩
    rw [cutS_of]; exact RD.str
  · obtain ⟨a, xs, rfl, ha, _, ra⟩ := hd.lst_inv
    exact sl_list pins s σ _ _ v vl vu lo hi sl Q I rx hs pl pu ⟨a, xs, rfl, .of ha, fun p hp => h.mk S hp (.newLst S hp (ra.cut lo hi))⟩
  · rename_i k ds
    obtain ⟨a, xs, rfl, ha, ra⟩ := hd.tup_inv
    have e : ∀ d o, HT.sIx xs.length d o = sIx ds.length d o := fun d o => by rw [ra.length]; cases o <;> rfl
    have e2 : HT.sIx xs.length xs.length hi = sIx ds.length ds.length hi := by rw [e, ra.length]
    refine sl_tupA pins s σ _ _ v vl vu lo hi sl Q I rx hs pl pu ⟨a, xs, rfl, ha, fun q => ?_, fun q p hp => ?_⟩
    · rw [e, e2, ra.length] at q
      exact h.here S (by rw [if_pos q]; exact hd)
    · rw [e, e2, ra.length] at q
      exact h.mk S hp (by rw [if_neg q]; exact .newTup S hp (ra.cut lo hi))
  · exact h.elim
end
end PV
set_option Elab.async false
set_option linter.all false
set_option maxRecDepth 100000
set_option maxHeartbeats 4000000
/-! PV6: built-ins and methods. -/
namespace PV
open PySem PySem.Spec PyProof.Rows L2
variable {K : PySem.W.Frag}
/-! ### numbers as texts -/
theorem digs_spec : ∀ (f n : Nat) (acc : List Nat), n < 2 ^ (f + 1) → digs (f + 1) n acc = (Nat.toDigits 10 n).map Char.toNat ++ acc := by
  have dg : ∀ d : Nat, d < 10 → (Nat.digitChar d).toNat = 48 + d := by decide
  intro f
  induction f with
  | zero =>
    intro n acc h
    have c : n < 10 := by omega
    show (if n < 10 then _ else _) = _
    rw [if_pos c, Nat.toDigits_of_lt_base c]
    simp [dg n c]
  | succ f ih =>
    intro n acc h
    unfold digs
    by_cases c : n < 10
    · rw [if_pos c, Nat.toDigits_of_lt_base c]
      simp [dg n c]
    · rw [if_neg c, ih (n / 10) _ (by rw [Nat.pow_succ] at h; omega)]
      have t : Nat.toDigits 10 (n / 10) ++ Nat.toDigits 10 (n % 10) = Nat.toDigits 10 (10 * (n / 10) + n % 10) := Nat.toDigits_append_toDigits (by decide) (by omega) (Nat.mod_lt _ (by decide))
      have e : 10 * (n / 10) + n % 10 = n := by omega
      rw [e] at t
      rw [← t, List.map_append, Nat.toDigits_of_lt_base (Nat.mod_lt n (by decide : 0 < 10))]
      simp [dg _ (Nat.mod_lt n (by decide : 0 < 10))]
theorem natText_spec (n : Nat) : natText n = (Nat.toDigits 10 n).map Char.toNat := by
  unfold natText
  rw [digs_spec _ _ _ (Nat.lt_log2_self), List.append_nil]
theorem str_of_nat (n : Nat) : (PySem.Str.ofString (toString ((n : Nat) : Int))) = ⟨(natText n).toArray⟩ := by
  have h := PySem.W.KIN.signs_num n
  rw [natText_spec, ← h]
theorem numOf_spec (s : List Nat) : numOf s = NumText.digitsVal s := by
  unfold numOf NumText.digitsVal
  congr 1
  funext a c
  omega
/-! ### built-in functions -/
def bfV : BF → Value
  | .len => .builtin "len"
  | .abs => .builtin "abs"
  | .maxl => .builtin "max"
  | .max2 => .builtin "max"
  | .min2 => .builtin "min"
  | .int => .type "int"
  | .str => .type "str"
  | .gcd => .builtin "math.gcd"
  | .sorted => .builtin "sorted"
  | .tuple => .type "tuple"
  | .list => .type "list"
  | .any => .builtin "any"
  | .all => .builtin "all"
  | .isinst _ => .builtin "isinstance"
def rC (K : PySem.W.Frag) (xr : XR) (f : List D → Sto → R D) : List V → Hp → VK → Prop := fun vs H Q => ∃ (w : Wd) (ds : List D), w.H = H ∧ StoOk K w ∧ RDs K w ds vs ∧ Pst K xr w (f ds w.st) (RD K) Q fun _ _ _ => False
theorem RDs.one {w : Wd} {d : D} {vs : List V} (h : RDs K w [d] vs) : ∃ v, vs = [v] ∧ RD K w d v := by
  obtain ⟨v, r, rfl, h1, h2⟩ := h.cons_inv
  cases h2.nil_inv
  exact ⟨v, rfl, h1⟩
theorem RDs.two {w : Wd} {d e : D} {vs : List V} (h : RDs K w [d, e] vs) : ∃ v u, vs = [v, u] ∧ RD K w d v ∧ RD K w e u := by
  obtain ⟨v, r, rfl, h1, h2⟩ := h.cons_inv
  obtain ⟨u, rfl, h3⟩ := h2.one
  exact ⟨v, u, rfl, h1, h3⟩
theorem RDs.bls {w : Wd} : ∀ {k : List Bool} {xs : List V}, RDs K w (k.map .bl) xs → xs = k.map V.bl
  | [], xs, h => h.nil_inv
  | i :: k, xs, h => by
    obtain ⟨v, r, rfl, h1, h2⟩ := h.cons_inv
    cases h1.bl_inv
    rw [RDs.bls h2]; rfl
theorem RDs.txts {w : Wd} : ∀ {k : List (List Nat)} {xs : List V}, RDs K w (k.map .str) xs → xs = (k.map fun s => (⟨s.toArray⟩ : Str)).map V.str
  | [], xs, h => h.nil_inv
  | i :: k, xs, h => by
    obtain ⟨v, r, rfl, h1, h2⟩ := h.cons_inv
    cases h1.str_inv
    rw [RDs.txts h2]; rfl
theorem RDs.ofTxts {w : Wd} : ∀ {k : List (List Nat)}, RDs K w (k.map .str) ((k.map fun s => (⟨s.toArray⟩ : Str)).map V.str)
  | [] => .nil
  | _ :: _ => .cons .str RDs.ofTxts
theorem maxL_foldl (is : List Int) (a : Int) : a ≤ is.foldl (fun a b => if b > a then b else a) a ∧ (∀ y ∈ is, y ≤ is.foldl (fun a b => if b > a then b else a) a) ∧ (is.foldl (fun a b => if b > a then b else a) a = a ∨ is.foldl (fun a b => if b > a then b else a) a ∈ is) := by
  induction is generalizing a with
  | nil => simp
  | cons b is ih =>
    rw [List.foldl_cons]
    obtain ⟨h1, h2, h3⟩ := ih (if b > a then b else a)
    have ha : a ≤ (if b > a then b else a) ∧ b ≤ (if b > a then b else a) := by split <;> omega
    refine ⟨Int.le_trans ha.1 h1, fun y hy => ?_, ?_⟩
    · rcases List.mem_cons.mp hy with e | hy
      · subst e; exact Int.le_trans ha.2 h1
      · exact h2 y hy
    · rcases h3 with e | h
      · rw [e]
        split
        · exact .inr List.mem_cons_self
        · exact .inl rfl
      · exact .inr (List.mem_cons_of_mem _ h)
theorem maxL_spec {is : List Int} {m : Int} (h : maxL is = some m) : 0 < is.length ∧ ∀ m', m' ∈ is → (∀ y, y ∈ is → y ≤ m') → m' = m := by
  cases is with
  | nil => simp [maxL] at h
  | cons a is =>
    refine ⟨by simp, fun m' h1 h2 => ?_⟩
    injection h with h
    obtain ⟨k1, k2, k3⟩ := maxL_foldl is a
    rw [h] at k1 k2 k3
    have le : m' ≤ m := by
      rcases List.mem_cons.mp h1 with e | h1
      · rw [e]; exact k1
      · exact k2 m' h1
    have ge : m ≤ m' := by
      rcases k3 with e | e
      · rw [e]; exact h2 a List.mem_cons_self
      · exact h2 m (List.mem_cons_of_mem _ e)
    omega
theorem RDs.signs {w : Wd} : ∀ {s : List Nat}, RDs K w (s.map fun c => D.str [c]) (s.map fun c => V.str ⟨#[c]⟩)
  | [] => .nil
  | _ :: _ => .cons RD.str RDs.signs
theorem signs_vals : ∀ {l : List Value} {s : List Nat}, l.length = s.length → (∀ (i : Nat) (u : Value), l[i]? = some u → ∃ c t, s[i]? = some c ∧ u = Value.str ⟨#[c]⟩ t) → Vals (s.map fun c => V.str ⟨#[c]⟩) l
  | [], [], _, _ => .nil
  | [], _ :: _, h, _ => by simp at h
  | _ :: _, [], h, _ => by simp at h
  | u :: l, c :: s, h, k => by
    obtain ⟨c', t, e1, e2⟩ := k 0 u rfl
    simp at e1
    subst e1
    exact .cons ⟨t, e2⟩ (signs_vals (by simpa using h) fun i v h1 => by simpa using k (i + 1) v (by simpa using h1))
section
variable {X : Cx}
theorem list_text (hc : X.calm = true) {z : List Nat} {pins : List (Addr × Obj)} {s : Shared} {σ : L2.St} {H : Hp} {us : List Value} {Q : VK} (hz : z.length ≤ sizeLine) (I : Inv X pins σ H s) (r : Vals [V.str ⟨z.toArray⟩] us)
    (q : ∀ p, H p = none → Q (.ref p) (upd H p (.lst (z.map fun c => V.str ⟨#[c]⟩)))) : wpAny (model X.prog X.w) X.A (call (.type "list") us) (EP X pins σ Q) X.xe s := by
  obtain ⟨u, rfl, t, rfl⟩ := vals1 r
  refine call_list_str (I.ok.hd hc) _ t (fun h' tk acc c hk ho hi => ?_) (by simpa using hz)
  have hn := I.fresh
  have hv : Vals (z.map fun c => V.str ⟨#[c]⟩) acc.toList := signs_vals (by simpa using hi.1) fun i u h1 => by
    obtain ⟨d, t', e1, e2⟩ := hi.2 i u (by simpa using h1)
    exact ⟨d, t', by simpa using e1, e2⟩
  exact ⟨.ref _, _, I.laid (t' := tk) (o := .lst (z.map fun c => V.str ⟨#[c]⟩)) hk (Nat.le_refl _) ⟨by simpa using hz, acc.toList, c, hv, by simpa using ho⟩, rfl, q _ hn⟩
end
section
variable {X : Cx} {xr : XR}
/-- all but sorted and isinstance -/
def plainBF : BF → Bool
  | .sorted => false
  | .isinst _ => false
  | _ => true
theorem call_D (hc : X.calm = true) (f : BF) (hp : plainBF f = true) : CallR X (bfV f) (rC X.K xr (bfD f)) := by
  intro pins s σ H vs us Q I r h
  obtain ⟨w, ds, rfl, S, hd, h⟩ := h
  unfold bfD at h
  split at h
  · -- len of a text
    obtain ⟨v, rfl, h1⟩ := hd.one
    cases h1.str_inv
    obtain ⟨c, h'⟩ := h.okb
    exact call_len pins s σ _ _ us Q I r ⟨_, _, rfl, ⟨by simpa [Str.length] using fits_le c, rfl⟩, by simpa [Str.length] using h'.here S RD.int⟩
  · obtain ⟨v, rfl, h1⟩ := hd.one
    obtain ⟨a, xs, rfl, ha, ra⟩ := h1.tup_inv
    exact call_len pins s σ _ _ us Q I r ⟨_, _, rfl, .inr ⟨xs, ha, rfl⟩, by rw [ra.length]; exact h.here S RD.int⟩
  · obtain ⟨v, rfl, h1⟩ := hd.one
    obtain ⟨a, xs, rfl, ha, _, ra⟩ := h1.lst_inv
    exact call_len pins s σ _ _ us Q I r ⟨_, _, rfl, .inl ⟨xs, .of ha, rfl⟩, by rw [ra.length]; exact h.here S RD.int⟩
  · obtain ⟨v, rfl, h1⟩ := hd.one
    cases h1.int_inv
    exact call_abs pins s σ _ _ us Q I r ⟨_, rfl, h.here S RD.int⟩
  · obtain ⟨v, rfl, h1⟩ := hd.one
    obtain ⟨a, xs, rfl, ha, _, ra⟩ := h1.lst_inv
    split at h
    · rename_i is hi
      split at h
      · rename_i m hm
        rw [ints_spec hi] at ra
        cases ra.ints_inv
        obtain ⟨k1, k2⟩ := maxL_spec hm
        exact cr_max hc pins s σ _ _ us Q I r ⟨a, is, rfl, .of ha, k1, fun m' e1 e2 => by rw [k2 m' e1 e2]; exact h.here S RD.int⟩
      · exact h.elim
    · exact h.elim
  · obtain ⟨v, u, rfl, h1, h2⟩ := hd.two
    cases h1.int_inv; cases h2.int_inv
    exact call_max2 hc pins s σ _ _ us Q I r ⟨_, _, rfl, h.here S RD.int⟩
  · obtain ⟨v, u, rfl, h1, h2⟩ := hd.two
    cases h1.int_inv; cases h2.int_inv
    exact call_min2 hc pins s σ _ _ us Q I r ⟨_, _, rfl, h.here S RD.int⟩
  · obtain ⟨v, rfl, h1⟩ := hd.one
    cases h1.int_inv
    exact call_int1 pins s σ _ _ us Q I r (.inl ⟨_, rfl, h.here S RD.int⟩)
  · obtain ⟨v, rfl, h1⟩ := hd.one
    cases h1.str_inv
    obtain ⟨c, h'⟩ := h.okb
    rename_i s0
    simp only [Bool.and_eq_true, Bool.not_eq_true', List.all_eq_true] at c
    have all : NumText.AllDigits s0 := fun x hx => by
      have := c.1.2 x hx
      unfold isDig at this
      simp only [Bool.and_eq_true] at this
      exact ⟨Nat.le_of_ble_eq_true this.1, Nat.le_of_ble_eq_true this.2⟩
    have ne : s0 ≠ [] := fun e => by rw [e] at c; simp at c
    have hl := Nat.le_of_ble_eq_true c.2
    refine call_int_str pins s σ _ _ us Q I r ⟨_, _, rfl, PySem.intText_digits (x := ⟨s0.toArray⟩) (by simpa using all) (by simpa using ne) (by simp [Str.length]; omega), by simp [Str.length]; omega, ?_⟩
    simp only [List.toList_toArray]
    rw [← numOf_spec]
    exact h'.here S RD.int
  · obtain ⟨v, rfl, h1⟩ := hd.one
    cases h1.int_inv
    obtain ⟨c, h'⟩ := h.okb
    rename_i i
    simp only [Bool.and_eq_true, decide_eq_true_eq] at c
    obtain ⟨n, rfl⟩ := Int.eq_ofNat_of_zero_le c.1
    refine call_str_int pins s σ _ _ us Q I r ⟨_, rfl, ?_, ?_⟩
    · have h2 := Nat.ble_eq.mp c.2
      have h2 : n < 2 ^ 1900 := h2
      by_cases z : n = 0
      · subst z; decide
      · show n.log2 < 1920
        exact Nat.lt_of_lt_of_le ((Nat.log2_lt z).mpr h2) (by decide)
    · have e := str_of_nat n
      refine h'.here S ?_
      rw [RD]
      congr 1
  · obtain ⟨v, u, rfl, h1, h2⟩ := hd.two
    cases h1.int_inv; cases h2.int_inv
    exact cr_gcd pins s σ _ _ us Q I r ⟨_, _, rfl, h.here S RD.int⟩
  · exact absurd hp (by decide)
  · exact absurd hp (by decide)
  · obtain ⟨v, rfl, h1⟩ := hd.one
    obtain ⟨a, xs, rfl, ha, _, ra⟩ := h1.lst_inv
    exact call_tuple_of pins s σ _ _ us Q I r ⟨a, xs, rfl, .inl ⟨.of ha, fun p hp => h.mk S hp (.newTup S hp ra)⟩⟩
  · obtain ⟨v, rfl, h1⟩ := hd.one
    obtain ⟨a, xs, rfl, ha, ra⟩ := h1.tup_inv
    exact call_tuple_of pins s σ _ _ us Q I r ⟨a, xs, rfl, .inr ⟨ha, h.here S h1⟩⟩
  · obtain ⟨v, rfl, h1⟩ := hd.one
    obtain ⟨a, xs, rfl, ha, _, ra⟩ := h1.lst_inv
    exact call_list_of pins s σ _ _ us Q I r ⟨a, xs, rfl, .inl (.of ha), fun p hp => h.mk S hp (.newLst S hp ra)⟩
  · obtain ⟨v, rfl, h1⟩ := hd.one
    obtain ⟨a, xs, rfl, ha, ra⟩ := h1.tup_inv
    exact call_list_of pins s σ _ _ us Q I r ⟨a, xs, rfl, .inr ha, fun p hp => h.mk S hp (.newLst S hp ra)⟩
  · obtain ⟨v, rfl, h1⟩ := hd.one
    rw [RD] at h1
    obtain ⟨a, rfl, h1⟩ := h1
    rcases h1 with ⟨ha, _⟩ | hk
    · exact call_list_of pins s σ _ _ us Q I r ⟨a, _, rfl, .inl (.inl ha), fun p hp => h.mk S hp (.newLst S hp RDs.ints)⟩
    · exact call_list_of pins s σ _ _ us Q I r ⟨a, _, rfl, .inl (.inr hk), fun p hp => h.mk S hp (.newLst S hp RDs.ints)⟩
  · obtain ⟨v, rfl, h1⟩ := hd.one
    cases h1.str_inv
    obtain ⟨c, h'⟩ := h.okb
    rename_i s0
    exact list_text hc (fits_le c) I r fun p hp => h'.mk S hp (.newLst S hp RDs.signs)
  · obtain ⟨v, rfl, h1⟩ := hd.one
    obtain ⟨a, xs, rfl, ha, _, ra⟩ := h1.lst_inv
    split at h
    · rename_i bs hb
      rw [bools_spec hb] at ra
      cases ra.bls
      exact cr_any hc pins s σ _ _ us Q I r ⟨a, bs, rfl, .of ha, h.here S RD.bl⟩
    · exact h.elim
  · obtain ⟨v, rfl, h1⟩ := hd.one
    obtain ⟨a, xs, rfl, ha, _, ra⟩ := h1.lst_inv
    split at h
    · rename_i bs hb
      rw [bools_spec hb] at ra
      cases ra.bls
      exact cr_all hc pins s σ _ _ us Q I r ⟨a, bs, rfl, .of ha, h.here S RD.bl⟩
    · exact h.elim
  · exact absurd hp (by simp [plainBF])
  · exact h.elim
end
end PV
set_option Elab.async false
set_option linter.all false
set_option maxRecDepth 100000
set_option maxHeartbeats 4000000
/-! PV7: methods; stores. -/
namespace PV
open PySem PySem.Spec PyProof.Rows L2
variable {K : PySem.W.Frag}
theorem digit_same : ∀ c, c < 128 → Unicode.isDigit c = isDig c := by decide +kernel
theorem alpha_same : ∀ c, c < 128 → Unicode.isAlpha c = (isLow c || isUp c) := by decide +kernel
theorem alnum_same : ∀ c, c < 128 → Unicode.isAlnum c = (isDig c || isLow c || isUp c) := by decide +kernel
theorem txt_all (p : Nat → Bool) (q : Nat → Bool) (s : List Nat) (h : ∀ c, c < 128 → p c = q c) (a : (s.all fun c => Nat.blt c 128) = true) : (decide ((⟨s.toArray⟩ : Str).length > 0) && (⟨s.toArray⟩ : Str).cps.all p) = (!s.isEmpty && s.all q) := by
  have e : s.all p = s.all q := by
    rw [List.all_eq_true] at a
    rw [Bool.eq_iff_iff, List.all_eq_true, List.all_eq_true]
    have k : ∀ c ∈ s, c < 128 := fun c hc => Nat.lt_of_lt_of_le (Nat.lt_succ_self _) (Nat.ble_eq.mp (a c hc))
    exact ⟨fun z c hc => by rw [← h c (k c hc)]; exact z c hc, fun z c hc => by rw [h c (k c hc)]; exact z c hc⟩
  cases s with
  | nil => rfl
  | cons c r =>
    have z : decide ((⟨(c :: r).toArray⟩ : Str).length > 0) = true := by simp [Str.length]
    rw [z]
    simpa using e
theorem findIx_spec (c : Nat) : ∀ (s : List Nat) (i k : Nat), findIx c s i = some k → ∃ j, k = i + j ∧ s[j]? = some c ∧ ∀ m, m < j → s[m]? ≠ some c
  | [], i, k, h => by simp [findIx] at h
  | a :: r, i, k, h => by
    unfold findIx at h
    by_cases e : a = c
    · rw [if_pos e] at h
      injection h with h
      exact ⟨0, by omega, by simp [e], fun m hm => by omega⟩
    · rw [if_neg e] at h
      obtain ⟨j, h1, h2, h3⟩ := findIx_spec c r (i + 1) k h
      refine ⟨j + 1, by omega, by simpa using h2, fun m hm => ?_⟩
      cases m with
      | zero => simpa using e
      | succ m => simpa using h3 m (by omega)
theorem index0_of {s : List Nat} {c k : Nat} (h : findIx c s 0 = some k) : Txt.index0 ⟨s.toArray⟩ ⟨#[c]⟩ = some k := by
  obtain ⟨j, h1, h2, h3⟩ := findIx_spec c s 0 k h
  have e : k = j := by omega
  subst e
  have at_ : ∀ i, StrLaws.At ⟨s.toArray⟩ ⟨#[c]⟩ (⟨s.toArray⟩ : Str).length i ↔ s[i]? = some c := fun i => by
    have := StrLaws.subAt_one ⟨s.toArray⟩ c i
    simpa [StrLaws.At] using this
  unfold Txt.index0
  rcases StrLaws.occ_head ⟨s.toArray⟩ ⟨#[c]⟩ 1 (by decide) with ⟨_, hn⟩ | ⟨i, r, e1, e2, e3⟩
  · exact absurd ((at_ k).mpr h2) (hn k)
  · rw [e1]
    have e2' := (at_ i).mp e2
    by_cases lt : i < k
    · exact absurd e2' (h3 i lt)
    · by_cases lt2 : k < i
      · exact absurd ((at_ k).mpr h2) (e3 k lt2)
      · have : i = k := by omega
        rw [this]; rfl
theorem join_of (sep : List Nat) : ∀ xs : List (List Nat), Txt.join ⟨sep.toArray⟩ (xs.map fun s => (⟨s.toArray⟩ : Str)) = ⟨(joinD sep xs).toArray⟩ := by
  intro xs
  unfold Txt.join
  rw [StrLaws.glued_eq_join]
  have app : ∀ a b : List Nat, ((⟨a.toArray⟩ : Str) ++ (⟨b.toArray⟩ : Str)) = ⟨(a ++ b).toArray⟩ := fun a b => by
    show (⟨a.toArray ++ b.toArray⟩ : Str) = _
    simp
  induction xs with
  | nil => rfl
  | cons x r ih =>
    cases r with
    | nil => rfl
    | cons y r =>
      show (⟨x.toArray⟩ : Str) ++ (⟨sep.toArray⟩ : Str) ++ Str.join ⟨sep.toArray⟩ ((y :: r).map fun s => (⟨s.toArray⟩ : Str)) = _
      rw [ih, app, app]
      rfl
theorem foldl_sum : ∀ (l : List Nat) (a : Nat), l.foldl (· + ·) a = l.sum + a
  | [], a => by simp
  | x :: r, a => by rw [List.foldl_cons, foldl_sum r, List.sum_cons]; omega
def rM (K : PySem.W.Frag) (xr : XR) (f : D → List D → Sto → R D) : V → List V → Hp → VK → Prop := fun x vs H Q => ∃ (w : Wd) (d : D) (ds : List D), w.H = H ∧ StoOk K w ∧ RD K w d x ∧ RDs K w ds vs ∧ Pst K xr w (f d ds w.st) (RD K) Q fun _ _ _ => False
/-- the built-in behind a method, and its type -/
def mtId : MF → String × String × String
  | .index => ("str", "index", "str.index")
  | .get2 => ("dict", "get", "dict.get")
  | .join => ("str", "join", "str.join")
  | .isdigit => ("str", "isdigit", "str.isdigit")
  | .isalpha => ("str", "isalpha", "str.isalpha")
  | .isalnum => ("str", "isalnum", "str.isalnum")
  | .append => ("list", "append", "list.append")
/-- an object of the store is changed -/
theorem sto_set {w : Wd} {j : Nat} {a : Addr} {m m' : MO} {o : HO} (S : StoOk K w) (e : getMO w.st j = some m) (ha : w.β[j]? = some a) (nd : ∀ ob u, w.H a ≠ some (.frz ob u))
    (hm : ∀ w' : Wd, Ext w w' → w'.H a = some o → MOat K w' a m') : Ext w ⟨w.β, w.st.set j (some m'), upd w.H a o, w.ho⟩ ∧ StoOk K ⟨w.β, w.st.set j (some m'), upd w.H a o, w.ho⟩ := by
  have hj : j < w.st.length := (List.getElem?_eq_some_iff.mp (getMO_some.mp e)).1
  have la : live w a := .inr ⟨j, m, ha, e⟩
  have lv : ∀ b, live ⟨w.β, w.st.set j (some m'), upd w.H a o, w.ho⟩ b → live w b := fun b h => by
    rcases h with h | ⟨i, m1, h1, h2⟩
    · exact .inl h
    have h2 := getMO_some.mp h2
    by_cases q : j = i
    · subst q
      exact .inr ⟨j, m, h1, e⟩
    · rw [List.getElem?_set_ne q] at h2
      exact .inr ⟨i, m1, h1, getMO_some.mpr h2⟩
  have X : Ext w ⟨w.β, w.st.set j (some m'), upd w.H a o, w.ho⟩ := by
    have am : a ∈ w.β := List.mem_of_getElem? ha
    refine ⟨⟨[], by simp⟩, fun b u h1 _ n => ⟨?_, fun z => n (lv b z)⟩, rfl, fun b hb u h1 => ?_⟩
    · show upd w.H a o b = some u
      rw [upd_ne (fun z => n (by rw [z]; exact la))]; exact h1
    · show upd w.H a o b = some u
      rw [upd_ne (fun z => S.sep b hb (by rw [z]; exact am))]; exact h1
  refine ⟨X, ⟨by simpa using S.len, S.nd, fun i m1 h1 => ?_, fun b m => noO_upd ?_ fun _ => S.occ b m, fun b hb => let ⟨o', e, n⟩ := S.hoL b hb; ⟨o', X.hol b hb _ e, n⟩, S.sep, tabs_upd S.tab fun u hu => ?_⟩⟩
  case refine_3 =>
    obtain ⟨b, e3, k3⟩ := S.at_ j m e
    rw [ha] at e3; cases e3
    cases m with
    | lst ds => obtain ⟨xs, z, _⟩ := k3; rw [hu] at z; cases z; exact .inl ⟨fun _ z => (nomatch z), fun _ z => (nomatch z), fun _ z => (nomatch z)⟩
    | dct ks ds => obtain ⟨xs, z, _⟩ := k3; rw [hu] at z; cases z; exact .inl ⟨fun _ z => (nomatch z), fun _ z => (nomatch z), fun _ z => (nomatch z)⟩
  case refine_2 =>
    have k := hm _ X upd_same
    cases m' with
    | lst ds => obtain ⟨xs, z, _⟩ := k; have z := (show upd w.H a o a = some o from upd_same).symm.trans z; cases z; exact ⟨fun _ z => (nomatch z), fun _ z => (nomatch z), fun _ z => (nomatch z)⟩
    | dct ks ds => obtain ⟨xs, z, _⟩ := k; have z := (show upd w.H a o a = some o from upd_same).symm.trans z; cases z; exact ⟨fun _ z => (nomatch z), fun _ z => (nomatch z), fun _ z => (nomatch z)⟩
  have h1 := getMO_some.mp h1
  by_cases q : j = i
  · subst q
    rw [List.getElem?_set_self hj] at h1
    injection h1 with h1
    injection h1 with h1
    subst h1
    exact ⟨a, ha, hm _ X upd_same⟩
  · rw [List.getElem?_set_ne q] at h1
    obtain ⟨b, e1, k1⟩ := S.at_ i m1 (getMO_some.mpr h1)
    refine ⟨b, e1, k1.ext X ?_⟩
    show upd w.H a o b = _
    refine upd_ne fun z => q ?_
    subst z
    have i1 := (List.getElem?_eq_some_iff.mp ha)
    have i2 := (List.getElem?_eq_some_iff.mp e1)
    exact (List.getElem_inj S.nd).mp (i1.2.trans i2.2.symm)
theorem Pst.set {xr : XR} {α γ : Type} {w : Wd} {d : α} {j : Nat} {a : Addr} {m m' : MO} {o : HO} {rel : Wd → α → γ → Prop} {Q : γ → Hp → Prop} {E : XK} {v : γ} (S : StoOk K w) (e : getMO w.st j = some m) (ha : w.β[j]? = some a) (nd : ∀ ob u, w.H a ≠ some (.frz ob u))
    (hm : ∀ w' : Wd, Ext w w' → w'.H a = some o → MOat K w' a m') (h : Pst K xr w (.ok d (w.st.set j (some m'))) rel Q E) (r : rel ⟨w.β, w.st.set j (some m'), upd w.H a o, w.ho⟩ d v) : Q v (upd w.H a o) := by
  obtain ⟨x, s⟩ := sto_set S e ha nd hm
  exact h _ _ _ x s r
section
variable {X : Cx} {xr : XR}
theorem mt_D (hc : X.calm = true) (m : MF) (hg : m ≠ .get2) (hi : m ≠ .index) : MtR X (mtId m).2.2 (rM X.K xr (mtD m)) := by
  intro pins s σ H x vs v us Q I rx rs h
  obtain ⟨w, d, ds, rfl, S, hd, hs, h⟩ := h
  unfold mtD at h
  split at h
  · exact absurd rfl hi
  · exact absurd rfl hg
  · exact absurd rfl hg
  · cases hd.str_inv
    obtain ⟨u, rfl, h1⟩ := hs.one
    obtain ⟨a, xs, rfl, ha, _, ra⟩ := h1.lst_inv
    split at h
    · rename_i ts ht
      rw [strs_spec ht] at ra
      cases ra.txts
      obtain ⟨c, h'⟩ := h.okb
      have c := Nat.le_of_ble_eq_true c
      rw [foldl_sum] at c
      refine mt_join pins s σ _ _ _ v us Q I rx rs ⟨_, a, _, rfl, rfl, .inl (.of ha), ?_, ?_⟩
      · have e1 : ((ts.map fun s => (⟨s.toArray⟩ : Str)).map (·.length)) = ts.map List.length := by
          rw [List.map_map]
          apply List.map_congr_left
          intro t _
          simp [Str.length]
        rw [e1, List.length_map]
        have e2 : ∀ s0 : List Nat, (⟨s0.toArray⟩ : Str).length = s0.length := fun s0 => by simp [Str.length]
        rw [e2, Nat.mul_comm]
        omega
      · rw [join_of]
        exact h'.here S RD.str
    · exact h.elim
  · cases hd.str_inv
    cases hs.nil_inv
    obtain ⟨c, h'⟩ := h.okb
    exact mt_isdigit pins s σ _ _ _ v us Q I rx rs ⟨_, rfl, rfl, trivial, by rw [show Txt.isdigit _ = _ from txt_all _ _ _ digit_same c]; exact h'.here S RD.bl⟩
  · cases hd.str_inv
    cases hs.nil_inv
    obtain ⟨c, h'⟩ := h.okb
    exact mt_isalpha pins s σ _ _ _ v us Q I rx rs ⟨_, rfl, rfl, trivial, by rw [show Txt.isalpha _ = _ from txt_all _ _ _ alpha_same c]; exact h'.here S RD.bl⟩
  · cases hd.str_inv
    cases hs.nil_inv
    obtain ⟨c, h'⟩ := h.okb
    exact mt_isalnum pins s σ _ _ _ v us Q I rx rs ⟨_, rfl, rfl, trivial, by rw [show Txt.isalnum _ = _ from txt_all _ _ _ alnum_same c]; exact h'.here S RD.bl⟩
  · rw [RD] at hd
    obtain ⟨a, rfl, ha⟩ := hd
    obtain ⟨u, rfl, h1⟩ := hs.one
    split at h
    · rename_i ds hm
      obtain ⟨xs, e1, r1⟩ := S.mem hm ha
      split at h
      · rename_i c
        refine mt_append pins s σ _ _ _ v us Q I rx rs ⟨a, xs, u, rfl, rfl, e1, by rw [r1.length]; exact fits_lt c, ?_⟩
        refine Pst.set S hm ha (fun ob u z => by rw [e1] at z; cases z) (fun w' x z => ?_) h RD.non
        exact ⟨_, z, (r1.ext x).append (.cons (h1.ext x) .nil)⟩
      · exact h.elim
    · exact h.elim
  · exact h.elim
theorem mt_indexD {W : WX} (hc : X.calm = true) (tk : Takes X W) : MtS X "str.index" (fun _ => rM X.K xr (mtD .index)) := by
  intro pins s σ H x vs v us Q I rx rs h
  obtain ⟨w, d, ds, rfl, S, hd, hs, h⟩ := h
  unfold mtD at h
  split at h
  · cases hd.str_inv
    obtain ⟨u, rfl, h1⟩ := hs.one
    cases h1.str_inv
    split at h
    · rename_i i _ hi
      have e := index0_of hi
      exact mt_indexX hc tk pins s σ _ _ _ v us Q I rx rs ⟨_, _, rfl, rfl, fun k hk => by rw [e] at hk; cases hk; exact h.here S RD.int, fun hk => by rw [e] at hk; cases hk⟩
    · exact h.elim
  all_goals first | exact h.elim | contradiction
end
end PV
set_option Elab.async false
set_option linter.all false
set_option maxRecDepth 100000
set_option maxHeartbeats 4000000
/-! PV8: sorting; isinstance. -/
namespace PV
open PySem PySem.Spec PyProof.Rows L2
variable {K : PySem.W.Frag}
/-! ### the sort is the library's -/
section
variable {lt : D → D → Bool}
theorem insR_pair (h : W.TotalLe fun a b => !lt b a) (x : D) : ∀ {l : List D}, l.Pairwise (fun a b => (!lt b a) = true) → (insR lt x l).Pairwise (fun a b => (!lt b a) = true) ∧ ∀ z, z ∈ insR lt x l → z = x ∨ z ∈ l
  | [], _ => ⟨by simp [insR], by simp [insR]⟩
  | y :: ys, hp => by
    obtain ⟨h1, h2⟩ := List.pairwise_cons.mp hp
    unfold insR
    by_cases c : lt y x = true
    · rw [if_pos c]
      obtain ⟨i1, i2⟩ := insR_pair h x h2
      refine ⟨List.pairwise_cons.mpr ⟨fun z hz => ?_, i1⟩, fun z hz => ?_⟩
      · rcases i2 z hz with e | hz
        · subst e
          rcases h.total y z with q | q
          · exact q
          · rw [c] at q; cases q
        · exact h1 z hz
      · rcases List.mem_cons.mp hz with e | hz
        · exact .inr (by rw [e]; exact List.mem_cons_self)
        · exact (i2 z hz).imp id (List.mem_cons_of_mem _)
    · rw [if_neg c]
      have q : (!lt y x) = true := by simpa using c
      refine ⟨List.pairwise_cons.mpr ⟨fun z hz => ?_, hp⟩, fun z hz => by simpa using hz⟩
      rcases List.mem_cons.mp hz with e | hz
      · subst e; exact q
      · exact h.trans x y z q (h1 z hz)
theorem insR_filter (h : W.TotalLe fun a b => !lt b a) (x c : D) : ∀ l : List D, (insR lt x l).filter (W.sameRank (fun a b => !lt b a) c) = (x :: l).filter (W.sameRank (fun a b => !lt b a) c)
  | [] => rfl
  | y :: ys => by
    unfold insR
    by_cases k : lt y x = true
    · rw [if_pos k]
      have ih := insR_filter h x c ys
      by_cases py : W.sameRank (fun a b => !lt b a) c y = true
      · by_cases px : W.sameRank (fun a b => !lt b a) c x = true
        · -- both of the rank of c: then x is not behind y
          have q : (!lt y x) = true := by
            unfold W.sameRank at px py
            rw [Bool.and_eq_true] at px py
            exact h.trans x c y px.2 py.1
          rw [k] at q; cases q
        · rw [List.filter_cons_of_pos py, ih, List.filter_cons_of_neg px, List.filter_cons_of_neg px, List.filter_cons_of_pos py]
      · rw [List.filter_cons_of_neg py, ih, List.filter_cons, List.filter_cons, List.filter_cons_of_neg py]
    · rw [if_neg k]
theorem isort_merge (h : W.TotalLe fun a b => !lt b a) (l : List D) : isort lt l = l.mergeSort fun a b => !lt b a := by
  have key : ∀ l : List D, (isort lt l).Pairwise (fun a b => (!lt b a) = true) ∧ ∀ c, (isort lt l).filter (W.sameRank (fun a b => !lt b a) c) = l.filter (W.sameRank (fun a b => !lt b a) c) := by
    intro l
    induction l with
    | nil => exact ⟨List.Pairwise.nil, fun _ => rfl⟩
    | cons x xs ih =>
      refine ⟨(insR_pair h x ih.1).1, fun c => ?_⟩
      show (insR lt x (isort lt xs)).filter _ = _
      rw [insR_filter h, List.filter_cons, List.filter_cons, ih.2]
  exact W.sort_unique h (key l).1 (key l).2
theorem insR_mem {lt : D → D → Bool} {x : D} : ∀ {l : List D} {z : D}, z ∈ insR lt x l → z = x ∨ z ∈ l
  | [], z, hz => by simpa [insR] using hz
  | y :: ys, z, hz => by
    unfold insR at hz
    split at hz
    · rcases List.mem_cons.mp hz with e | hz
      · exact .inr (by rw [e]; exact List.mem_cons_self)
      · exact (insR_mem hz).imp id (List.mem_cons_of_mem _)
    · simpa using hz
theorem isort_mem {lt : D → D → Bool} : ∀ {l : List D} {z : D}, z ∈ isort lt l → z ∈ l
  | [], z, hz => hz
  | x :: xs, z, hz => by
    rcases insR_mem hz with e | hz
    · rw [e]; exact List.mem_cons_self
    · exact List.mem_cons_of_mem _ (isort_mem hz)
theorem insR_congr {lt lt' : D → D → Bool} {x : D} : ∀ {l : List D}, (∀ y ∈ l, lt y x = lt' y x) → insR lt x l = insR lt' x l
  | [], _ => rfl
  | y :: ys, h => by
    unfold insR
    rw [h y List.mem_cons_self, insR_congr fun z hz => h z (List.mem_cons_of_mem _ hz)]
theorem isort_congr {lt lt' : D → D → Bool} : ∀ {l : List D}, (∀ x ∈ l, ∀ y ∈ l, lt x y = lt' x y) → isort lt l = isort lt' l
  | [], _ => rfl
  | x :: xs, h => by
    show insR lt x (isort lt xs) = insR lt' x (isort lt' xs)
    have ih : isort lt xs = isort lt' xs := isort_congr fun a ha b hb => h a (List.mem_cons_of_mem _ ha) b (List.mem_cons_of_mem _ hb)
    rw [← ih]
    exact insR_congr fun y hy => h y (List.mem_cons_of_mem _ (isort_mem hy)) x List.mem_cons_self
end
mutual
theorem alike_two : ∀ (a d e : D), D.alike a d = true → D.alike a e = true → W.alike d.py e.py = true
  | .int _, d, e, h1, h2 => by cases d <;> simp [D.alike] at h1; cases e <;> simp [D.alike] at h2; rfl
  | .str _, d, e, h1, h2 => by cases d <;> simp [D.alike] at h1; cases e <;> simp [D.alike] at h2; rfl
  | .tup _ xs, d, e, h1, h2 => by
    cases d <;> simp only [D.alike] at h1 <;> first | (cases h1; done) | skip
    cases e <;> simp only [D.alike] at h2 <;> first | (cases h2; done) | skip
    exact alikes_two xs _ _ h1 h2
  | .non, d, e, h1, h2 => by simp [D.alike] at h1
  | .bl _, d, e, h1, h2 => by simp [D.alike] at h1
  | .lst _, d, e, h1, h2 => by simp [D.alike] at h1
  | .dct _ _, d, e, h1, h2 => by simp [D.alike] at h1
  | .ref _, d, e, h1, h2 => by simp [D.alike] at h1
  | .fn _, d, e, h1, h2 => by simp [D.alike] at h1
  | .scr _, d, e, h1, h2 => by simp [D.alike] at h1
  | .exn _ _, d, e, h1, h2 => by simp [D.alike] at h1
theorem alikes_two : ∀ (a d e : List D), D.alikes a d = true → D.alikes a e = true → W.alikeAll (D.pys d) (D.pys e) = true
  | [], d, e, h1, h2 => by
    cases d with
    | nil => simp [D.pys, W.alikeAll]
    | cons _ _ => simp [D.alikes] at h1
  | a :: as, d, e, h1, h2 => by
    cases d with
    | nil => simp [D.alikes] at h1
    | cons d ds =>
      cases e with
      | nil => simp [D.alikes] at h2
      | cons e es =>
        simp only [D.alikes, Bool.and_eq_true] at h1 h2
        show (W.alike d.py e.py && W.alikeAll (D.pys ds) (D.pys es)) = true
        rw [alike_two a d e h1.1 h2.1, alikes_two as ds es h1.2 h2.2]; rfl
end
theorem alike_refl : ∀ (a e : D), D.alike a e = true → W.alike e.py e.py = true := fun a e h => alike_two a e e h h
mutual
theorem lt_two : ∀ (a d e : D) (n m : Nat), D.alike a d = true → D.alike a e = true → D.data n d = true → D.data m e = true → D.lt d e = W.dataLt d.py e.py
  | .int _, d, e, n, m, h1, h2, _, _ => by
    cases d <;> simp [D.alike] at h1
    cases e <;> simp [D.alike] at h2
    show decide (_ < _) = W.dataLt (.int _) (.int _)
    rw [W.dataLt_int]
  | .str _, d, e, n, m, h1, h2, _, _ => by
    cases d <;> simp [D.alike] at h1
    cases e <;> simp [D.alike] at h2
    show decide (_ < _) = W.dataLt (.str _) (.str _)
    rw [W.dataLt_str]
  | .tup _ xs, d, e, n, m, h1, h2, hd, he => by
    cases d <;> simp only [D.alike] at h1 <;> first | (cases h1; done) | skip
    cases e <;> simp only [D.alike] at h2 <;> first | (cases h2; done) | skip
    cases n with
    | zero => simp [D.data] at hd
    | succ n =>
      cases m with
      | zero => simp [D.data] at he
      | succ m =>
        show D.lts _ _ = W.dataLt (.tuple _) (.tuple _)
        rw [W.dataLt_tuple]
        exact lts_two xs _ _ n m h1 h2 (by simpa [D.data] using hd) (by simpa [D.data] using he)
  | .non, d, e, n, m, h1, h2, _, _ => by simp [D.alike] at h1
  | .bl _, d, e, n, m, h1, h2, _, _ => by simp [D.alike] at h1
  | .lst _, d, e, n, m, h1, h2, _, _ => by simp [D.alike] at h1
  | .dct _ _, d, e, n, m, h1, h2, _, _ => by simp [D.alike] at h1
  | .ref _, d, e, n, m, h1, h2, _, _ => by simp [D.alike] at h1
  | .fn _, d, e, n, m, h1, h2, _, _ => by simp [D.alike] at h1
  | .scr _, d, e, n, m, h1, h2, _, _ => by simp [D.alike] at h1
  | .exn _ _, d, e, n, m, h1, h2, _, _ => by simp [D.alike] at h1
theorem lts_two : ∀ (a d e : List D) (n m : Nat), D.alikes a d = true → D.alikes a e = true → (∀ x ∈ d, D.data n x = true) → (∀ x ∈ e, D.data m x = true) → D.lts d e = PyProof.Rows.lexLt itemOrd (W.keyToksAll (D.pys d)) (W.keyToksAll (D.pys e))
  | [], d, e, n, m, h1, h2, _, _ => by
    cases d with
    | nil =>
      cases e with
      | nil => exact (lex_irrefl _).symm
      | cons _ _ => simp [D.alikes] at h2
    | cons _ _ => simp [D.alikes] at h1
  | a :: as, d, e, n, m, h1, h2, hd, he => by
    cases d with
    | nil => simp [D.alikes] at h1
    | cons d ds =>
      cases e with
      | nil => simp [D.alikes] at h2
      | cons e es =>
        simp only [D.alikes, Bool.and_eq_true] at h1 h2
        show (if D.eqv d e then D.lts ds es else D.lt d e) = PyProof.Rows.lexLt itemOrd (W.keyToksAll (d.py :: D.pys ds)) (W.keyToksAll (e.py :: D.pys es))
        rw [W.dataLt_cons (alike_two a d e h1.1 h2.1), eqv_py d e n m (hd d List.mem_cons_self) (he e List.mem_cons_self),
          lts_two as ds es n m h1.2 h2.2 (fun x hx => hd x (List.mem_cons_of_mem _ hx)) (fun x hx => he x (List.mem_cons_of_mem _ hx)), lt_two a d e n m h1.1 h2.1 (hd d List.mem_cons_self) (he e List.mem_cons_self)]
end
theorem sortable_spec {ds : List D} (h : sortable ds = true) (hne : ds ≠ []) : ∃ a, firstOk a = true ∧ ∀ d ∈ ds, D.data 20 d = true ∧ D.alike a d = true := by
  cases ds with
  | nil => exact absurd rfl hne
  | cons a ds =>
    unfold sortable at h
    rw [Bool.and_eq_true, List.all_eq_true] at h
    exact ⟨a, h.1, fun d hd => by have := h.2 d hd; rwa [Bool.and_eq_true] at this⟩
theorem sortD_merge {ds : List D} (h : sortable ds = true) : sortD ds = ds.mergeSort (W.dataLe false D.py) := by
  by_cases hne : ds = []
  · subst hne; simp [sortD, isort]
  · obtain ⟨a, _, h2⟩ := sortable_spec h hne
    unfold sortD
    rw [isort_congr (lt' := fun x y => W.dataLt x.py y.py) fun x hx y hy => lt_two a x y 20 20 (h2 x hx).2 (h2 y hy).2 (h2 x hx).1 (h2 y hy).1]
    exact isort_merge (lt := fun x y => W.dataLt x.py y.py) (W.sortLe_total (listOrd itemOrd) false fun b : D => W.keyToks b.py) ds
/-! ### sorted -/
abbrev RVD (K : PySem.W.Frag) (w : Wd) : Value → D → Prop := fun u d => ∃ x, RelV x u ∧ RD K w d x
theorem each_of {w : Wd} : ∀ {ds : List D} {xs : List V} {us : List Value}, RDs K w ds xs → Vals xs us → W.EachIs (RVD K w) us ds
  | [], xs, us, h, r => by
    cases h.nil_inv
    cases r
    exact .nil
  | d :: ds, xs, us, h, r => by
    obtain ⟨x, ys, rfl, h1, h2⟩ := h.cons_inv
    cases r with
    | cons r1 r2 => exact .cons ⟨x, r1, h1⟩ (each_of h2 r2)
theorem each_back {w : Wd} : ∀ {ds : List D} {us : List Value}, W.EachIs (RVD K w) us ds → ∃ xs, RDs K w ds xs ∧ Vals xs us
  | _, _, .nil => ⟨[], .nil, .nil⟩
  | _, _, .cons ⟨x, r1, h1⟩ t => by
    obtain ⟨xs, h2, r2⟩ := each_back t
    exact ⟨x :: xs, .cons h1 h2, .cons r1 r2⟩
theorem sort_alike {ds : List D} (h : sortable ds = true) : W.AllAlike (ds.map D.py) := by
  intro p hp q hq
  obtain ⟨d, hd, rfl⟩ := List.mem_map.mp hp
  obtain ⟨e, he, rfl⟩ := List.mem_map.mp hq
  obtain ⟨a, _, k⟩ := sortable_spec h (fun z => by rw [z] at hd; simp at hd)
  exact alike_two a d e (k d hd).2 (k e he).2
theorem sort_sortable {ds : List D} (h : sortable ds = true) : W.Sortable (ds.map D.py) := by
  by_cases hne : ds = []
  · subst hne
    exact .inl fun d hd => by simp at hd
  · obtain ⟨a, h1, k⟩ := sortable_spec h hne
    unfold firstOk at h1
    split at h1
    · refine .inr fun p hp => ?_
      obtain ⟨d, hd, rfl⟩ := List.mem_map.mp hp
      have := (k d hd).2
      cases d <;> simp [D.alike] at this
      exact ⟨fun z => (nomatch z), fun xs z => (nomatch z)⟩
    · refine .inr fun p hp => ?_
      obtain ⟨d, hd, rfl⟩ := List.mem_map.mp hp
      have := (k d hd).2
      cases d <;> simp [D.alike] at this
      exact ⟨fun z => (nomatch z), fun xs z => (nomatch z)⟩
    · refine .inl fun p hp => ?_
      obtain ⟨d, hd, rfl⟩ := List.mem_map.mp hp
      have := (k d hd).2
      cases d <;> simp only [D.alike] at this <;> first | (cases this; done) | skip
      rename_i es
      cases es with
      | nil => simp [D.alikes] at this
      | cons e es => exact ⟨_, _, rfl⟩
    · cases h1
section
variable {X : Cx} {xr : XR}
theorem RDs.len_le {w : Wd} {ds : List D} {xs : List V} (h : RDs K w ds xs) (z : xs.length ≤ sizeLine) : ds.length ≤ sizeLine := by rw [← h.length]; exact z
theorem each_reads {pins : List (Addr × Obj)} {s : Shared} {σ : L2.St} {w : Wd} (I : Inv X pins σ w.H s) {ds : List D} {us : List Value} (e : W.EachIs (RVD X.K w) us ds) (h : ∀ d ∈ ds, D.data 20 d = true) :
    W.EachIs (fun v b => ∃ as, Reads s.heap v (D.py b) as) us ds := by
  induction e with
  | nil => exact .nil
  | cons r t ih =>
    obtain ⟨x, r1, h1⟩ := r
    exact .cons (Dp.reads I _ x _ (dp_of _ 20 x (h _ List.mem_cons_self) h1) r1) (ih fun d hd => h d (List.mem_cons_of_mem _ hd))
theorem sort_data {ds : List D} (h : sortable ds = true) : ∀ d ∈ ds, D.data 20 d = true := fun d hd => by
  obtain ⟨a, _, k⟩ := sortable_spec h (fun z => by rw [z] at hd; simp at hd)
  exact (k d hd).1
theorem call_sortedL (hu : X.A.units + 64 < cLine) {pins : List (Addr × Obj)} {s : Shared} {σ : L2.St} {w : Wd} {a : Addr} {xs : List V} {ds : List D} {Q : VK} (I : Inv X pins σ w.H s) (S : StoOk X.K w) (ha : w.H a = some (.lst xs)) (ra : RDs X.K w ds xs) (hs : sortable ds = true)
    (q : ∀ p ys, w.H p = none → RDs X.K w (sortD ds) ys → Q (.ref p) (upd w.H p (.lst ys))) : wpAny (model X.prog X.w) X.A (call (.builtin "sorted") [.ref a]) (EP X pins σ Q) X.xe s := by
  obtain ⟨its, rv, hl, hz⟩ := I.list (SqL.of ha)
  have e := each_of ra rv
  refine W.sorted_data (enc := D.py) hl.isList e (each_reads I e (sort_data hs)) (sort_alike hs) (sort_sortable hs) (ra.len_le hz) (fun b hb => ?_) fun out hlen ho => ?_
  · have := (shaped_of b 20 (sort_data hs b hb)).2
    omega
  · rw [← sortD_merge hs] at ho
    obtain ⟨ys, r1, r2⟩ := each_back ho
    obtain ⟨ep, he'⟩ := PyProof.Rows.sortedAll_at s.heap its (List.toArray out)
    have hlen2 : ys.length ≤ sizeLine := by
      have := r2.length
      have := ra.length
      have := rv.length
      have h1 : out.length = ds.length := hlen
      omega
    exact ⟨.ref _, upd w.H (s.heap.objs.size + 1) (.lst ys), I.laid (t' := s.toks) (fun _ _ => PyProof.Rows.sortedAll_old) (Nat.le_succ _) ⟨hlen2, out, ep, r2, he'⟩, rfl, q _ ys (I.hok.fresh (Nat.le_succ _)) r1⟩
end
end PV
set_option Elab.async false
set_option linter.all false
set_option maxRecDepth 100000
set_option maxHeartbeats 4000000
/-! PV9: sorted of a dict, isinstance, a[i] = .., the store's objects made and let go. -/
namespace PV
open PySem PySem.Spec PyProof.Rows L2
variable {K : PySem.W.Frag}
mutual
theorem reads_low {h : Heap} : ∀ {v : Value} {d : PyData} {as : List Addr}, Reads h v d as → ∀ a ∈ as, a < h.objs.size
  | _, _, _, .none, a, m => by simp at m
  | _, _, _, .bool b, a, m => by simp at m
  | _, _, _, .int i t, a, m => by simp at m
  | _, _, _, .str x t, a, m => by simp at m
  | _, _, _, .list h1 h2 h3 h4, a, m => by
    rcases List.mem_cons.mp m with rfl | m
    · exact Heap.lt_size h1
    · exact readsAll_low h4 a m
  | _, _, _, .tuple h1 h2 h3 h4, a, m => readsAll_low h4 a m
  | _, _, _, .dict h1 h2 h3 h4 h5, a, m => by
    rcases List.mem_append.mp m with m | m
    · rcases List.mem_cons.mp m with rfl | m
      · exact Heap.lt_size h1
      · exact readsAll_low h4 a m
    · exact readsAll_low h5 a m
theorem readsAll_low {h : Heap} : ∀ {vs : List Value} {ds : List PyData} {as : List Addr}, ReadsAll h vs ds as → ∀ a ∈ as, a < h.objs.size
  | _, _, _, .nil, a, m => by simp at m
  | _, _, _, .cons h1 h2, a, m => by
    rcases List.mem_append.mp m with m | m
    · exact reads_low h1 a m
    · exact readsAll_low h2 a m
end
/-- what is live is a list or a dict -/
theorem StoOk.notTup {w : Wd} (S : StoOk K w) {a : Addr} {xs : List V} (h : w.H a = some (.tup xs)) : ¬ PV.live w a := fun z => by
  rcases z with z | ⟨j, m, e1, e2⟩
  · obtain ⟨o, e, n⟩ := S.hoL a z
    rw [h] at e
    injection e with e
    exact n.1 _ e.symm
  have := S.mem e2 e1
  cases m with
  | lst ds =>
    obtain ⟨ys, h1, _⟩ := this
    rw [h] at h1; cases h1
  | dct ks ds =>
    obtain ⟨ys, h1, _⟩ := this
    rw [h] at h1; cases h1
/-- a key is the tuple of its numbers -/
theorem RD.key {w : Wd} (S : StoOk K w) {b : Addr} {k : List Int} (h : w.H b = some (.tup ((k.map Sum.inl : List Key).map kV))) : RD K w (ofKey k) (.ref b) := by
  rw [ofKey, RD]
  refine ⟨b, k.map V.int, rfl, ?_, .ints⟩
  rw [if_neg Bool.false_ne_true]
  rw [kVs_map] at h
  exact ⟨h, S.notTup h⟩
theorem keys_RDs {w : Wd} (S : StoOk K w) : ∀ {ks : List (List Int)} {kvs : List (List Key × V)} {xs : List (List Key × Addr × Value)}, kvs.map (·.1) = ks.map (·.map Sum.inl) → KT w.H kvs xs → RDs K w (ks.map ofKey) (xs.map fun x => V.ref x.2.1)
  | [], kvs, xs, h, r => by
    have e : kvs = [] := by simpa using h
    subst e
    cases r
    exact .nil
  | k :: ks, kvs, xs, h, r => by
    cases r with
    | nil => simp at h
    | cons r1 r2 =>
      simp only [List.map_cons, List.cons.injEq] at h
      refine .cons (.key S ?_) (keys_RDs S h.2 r2)
      rw [← h.1]
      exact r1.2.1
section
variable {X : Cx} {xr : XR}
theorem call_sortedK (hc : X.calm = true) (hu : X.A.units + 64 < cLine) {pins : List (Addr × Obj)} {s : Shared} {σ : L2.St} {w : Wd} {a : Addr} {kvs : List (List Key × V)} {ks : List (List Int)} {Q : VK} (I : Inv X pins σ w.H s) (S : StoOk X.K w) (ha : Rd w.H a (.dT kvs)) (hk : kvs.map (·.1) = ks.map (·.map Sum.inl)) (hs : sortable (ks.map ofKey) = true)
    (q : ∀ p ys, w.H p = none → RDs X.K w (sortD (ks.map ofKey)) ys → Q (.ref p) (upd w.H p (.lst ys))) : wpAny (model X.prog X.w) X.A (call (.builtin "sorted") [.ref a]) (EP X pins σ Q) X.xe s := by
  obtain ⟨z, lo, xs, pr, o, es, ep, ho, hx, hdt, he, hn⟩ := (show ObjOk X.prog X.w w.H s.heap a (.dT kvs) from ha.ok I.hok)
  have l1 : es.size = xs.length := size_of_entries he
  have l2 : kvs.length = xs.length := Paired.length pr
  refine Calls.call_function_entry PyProof.Rows.kind_sorted PyProof.Rows.plain_sorted PyProof.Rows.entry_sorted (PyProof.Rows.args_sorted1 _) ?_
  unfold Builtin.«sorted»
  refine wpAny_bind (m := checkCount "sorted" 1 1 _) (wpAny_pure ?_)
  refine wpAny_bind (PySem.W.kdu_collect (A := X.A.in1) (kdl_raw lo hx hdt) (I.ok.hd hc) ho (by omega) fun h' tk acc kp it => ?_)
  have ea : acc.toList = xs.map fun x => Value.ref x.2.1 := by
    have hl : acc.toList.length = xs.length := by rw [Array.length_toList, it.1]; exact l1
    apply List.ext_getElem?
    intro j
    rw [List.getElem?_map]
    cases hj : acc.toList[j]? with
    | none =>
      have h1 := List.getElem?_eq_none_iff.mp hj
      rw [List.getElem?_eq_none (by omega)]
      rfl
    | some v =>
      obtain ⟨en, hen, hv⟩ := it.2 j v (by rw [← Array.getElem?_toList]; exact hj)
      have qe := entry_at he j
      rw [hen] at qe
      cases hb : xs[j]? with
      | none =>
        rw [hb] at qe
        exact nomatch (show some en = none from qe)
      | some b =>
        rw [hb] at qe
        have e2 : en = entryOfKey (tupleKind (mixKind X.prog X.w)) b := Option.some.inj qe
        rw [hv, e2]
        rfl
  have I1 : Inv X pins σ w.H { s with heap := h', toks := tk } := I.kept kp
  have rk : RDs X.K w (ks.map ofKey) (xs.map fun x => V.ref x.2.1) := keys_RDs S hk pr
  have rv : Vals (xs.map fun x => V.ref x.2.1) acc.toList := by
    rw [ea]
    have := vals_refs (xs.map fun x => x.2.1)
    simpa [List.map_map, Function.comp_def] using this
  have e := each_of rk rv
  have hln : (ks.map ofKey).length = xs.length := by have := rk.length; simpa using this.symm
  have er := each_reads I1 e (sort_data hs)
  refine wpAny_bind (wpAny_newList ?_ (by rw [ea, List.length_map]; omega))
  have hoL : (h'.push (seqObj "list" acc.toList.toArray 0)).get? h'.objs.size = some (seqObj "list" acc.toList.toArray 0) := Heap.get?_push_size _ rfl
  show wpAny _ _ _ _ _ { s with heap := h'.push (seqObj "list" acc.toList.toArray 0), toks := tk }
  refine wpAny_bind (wpAny_holding ?_)
  refine PySem.W.list_sort_data (enc := D.py) (s := { s with heap := h'.push (seqObj "list" acc.toList.toArray 0), toks := tk }) hoL e ?_ (sort_alike hs) (sort_sortable hs) (by omega) (fun b hb => ?_) fun out hlen ho' => ?_
  · refine er.mono fun v b ⟨as, r⟩ => ⟨as, PyProof.Rows.Reads.keeps (fun _ _ q => Heap.get?_push_of_some _ q) r, fun m => ?_⟩
    have := reads_low r _ m
    exact absurd this (Nat.lt_irrefl _)
  · have := (shaped_of b 20 (sort_data hs b hb)).2
    show X.A.units + 1 + 1 + _ < cLine
    omega
  · rw [← sortD_merge hs] at ho'
    obtain ⟨ys, r1, r2⟩ := each_back ho'
    obtain ⟨e', he'⟩ := PyProof.Rows.sortedHeap_at (vs := acc.toList) (out := List.toArray out) hoL
    have hlen2 : ys.length ≤ sizeLine := by
      have h1 := r2.length
      have h2 : out.length = (ks.map ofKey).length := hlen
      omega
    refine wpAny_pure ⟨_, rfl, .ref h'.objs.size, upd w.H h'.objs.size (.lst ys), I1.laid (t' := tk) (fun b u e => ?_) (Nat.le_refl _) (show ObjOk X.prog X.w _ _ _ (.lst ys) from ⟨hlen2, out, e', r2, he'⟩), rfl, q _ ys (I1.hok.fresh (Nat.le_refl _)) r1⟩
    have hb : b < h'.objs.size := Heap.lt_size e
    rw [PyProof.Rows.sortedHeap_old (Nat.ne_of_lt hb) (by rw [size_push']; exact Nat.lt_succ_of_lt hb)]
    exact Heap.get?_push_of_some _ e
theorem call_sortedD (hc : X.calm = true) (hu : X.A.units + 64 < cLine) : CallR X (.builtin "sorted") (rC X.K xr (bfD .sorted)) := by
  intro pins s σ H xs us Q I r h
  obtain ⟨w, ds, rfl, S, hd, h⟩ := h
  unfold bfD at h
  split at h <;> first | (exact h.elim) | (exfalso; rename_i q; cases q; done) | skip
  all_goals (rename_i qf; first | (cases qf; done) | skip)
  · obtain ⟨u, rfl, h1⟩ := hd.one
    obtain ⟨a, ys, rfl, ha, _, ra⟩ := h1.lst_inv
    obtain ⟨c, h'⟩ := h.okb
    obtain ⟨u, rfl, rx⟩ := r.one
    cases rx
    exact call_sortedL hu I S ha ra c fun p zs hp hz => h'.mk S hp (.newLst S hp hz)
  · obtain ⟨u, rfl, h1⟩ := hd.one
    rw [RD] at h1
    obtain ⟨a, kvs, rfl, ha, _, h3, _⟩ := h1
    obtain ⟨c, h'⟩ := h.okb
    obtain ⟨u, rfl, rx⟩ := r.one
    cases rx
    exact call_sortedK hc hu I S ha h3 c fun p zs hp hz => h'.mk S hp (.newLst S hp hz)
end
end PV
set_option Elab.async false
set_option linter.all false
set_option maxRecDepth 100000
set_option maxHeartbeats 4000000
/-! PV10: a[i] = .., the store's objects made and let go, isinstance, d[k], d.get. -/
namespace PV
open PySem PySem.Spec PyProof.Rows L2
variable {K : PySem.W.Frag}
theorem MOat.nofrz {w : Wd} {a : Addr} {m : MO} (h : MOat K w a m) (ob : Obj) (u : HO) : w.H a ≠ Option.some (HO.frz ob u) := fun z => by
  cases m with
  | lst ds => obtain ⟨xs, h1, _⟩ := h; rw [h1] at z; cases z
  | dct ks ds => obtain ⟨xs, h1, _⟩ := h; rw [h1] at z; cases z
section
variable {X : Cx} {xr : XR}
theorem set_D (hu : X.A.units + 64 < cLine) : PSet X (fun o i v H Q => ∃ (w : Wd) (d e x : D), w.H = H ∧ StoOk X.K w ∧ RD X.K w d o ∧ RD X.K w e i ∧ RD X.K w x v ∧ Pst X.K xr w (setD d e x w.st) (fun _ _ (_ : Unit) => True) (fun _ H' => Q H') fun _ _ _ => False) := by
  intro pins s σ H o i v ov iv u Q I ro ri rv h
  obtain ⟨w, d, e, x, rfl, S, hd, he, hx, h⟩ := h
  unfold setD at h
  split at h
  · cases he.int_inv
    split at h
    · rename_i ds hm
      rw [RD] at hd
      obtain ⟨a, rfl, ha⟩ := hd
      have at_ := S.mem hm ha
      obtain ⟨xs, h1, h2⟩ := at_
      split at h
      · rename_i m hi
        refine set_list pins s σ _ _ _ v ov iv u Q I ro ri rv ⟨a, xs, _, m, rfl, rfl, h1, by rw [h2.length]; exact hi, ?_⟩
        exact Pst.set (v := ()) S hm ha (MOat.nofrz (S.mem hm ha)) (m' := .lst _) (fun w' y z => ⟨_, z, (h2.ext y).set (hx.ext y) m⟩) h trivial
      · exact h.elim
    · exact h.elim
  · split at h
    · rename_i k ks vs hk hm
      split at h
      · rename_i hf
        rw [RD] at hd
        obtain ⟨a, rfl, ha⟩ := hd
        obtain ⟨kvs, h1, h3, h4⟩ := S.mem hm ha
        obtain ⟨b, rfl, hb, nb⟩ := key_at hk he
        cases (show ov = Value.ref a from ro)
        have hl : kvs.length = ks.length := by have := congrArg List.length h3; simpa using this
        refine wpAny_mono (d_setItem (A := X.A) (by omega) I (DPut.t h1 hb (by rw [hl]; exact fits_lt hf)) ri rv fun s' I' => (⟨_, I', ?_⟩ : ∃ H', Inv X pins σ H' s' ∧ Q H')) (fun _ _ z => z) (fun _ _ z => z)
        refine Pst.set (v := ()) S hm ha (MOat.nofrz (S.mem hm ha)) (m' := .dct _ _) (fun w' y z => ⟨_, z, ?_⟩) h trivial
        exact putK_of (hx.ext y) h3 (h4.ext y)
      · exact h.elim
    · exact h.elim
  · exact h.elim
/-! ### made -/
theorem StoOk.alloc {w : Wd} {p : Addr} {m : MO} {o : HO} (S : StoOk K w) (h : w.H p = none) (hm : ∀ w' : Wd, Ext w w' → w'.H p = some o → MOat K w' p m) : StoOk K (w.alloc p m o) := by
  have x : Ext w (w.alloc p m o) := Ext.alloc S h
  refine ⟨?_, ?_, fun j m' e => ?_, fun a ha => noO_upd ?_ fun q => ?_, fun a ha => let ⟨o', e, n⟩ := S.hoL a ha; ⟨o', x.hol a ha _ e, n⟩, fun a ha z => ?_, tabs_new S.tab h⟩
  rotate_right
  · have z : a ∈ w.β ++ [p] := z
    rcases List.mem_append.mp z with z | z
    · exact S.sep a ha z
    · simp at z
      subst z
      obtain ⟨o', e, _⟩ := S.hoL a ha
      rw [h] at e; cases e
  rotate_right
  · rcases List.mem_append.mp ha with m | m
    · exact S.occ a m
    · simp at m; exact absurd m q
  rotate_right
  · have k := hm _ x upd_same
    cases m with
    | lst ds => obtain ⟨xs, z, _⟩ := k; have z := (show upd w.H p o p = some o from upd_same).symm.trans z; cases z; exact ⟨fun _ z => (nomatch z), fun _ z => (nomatch z), fun _ z => (nomatch z)⟩
    | dct ks ds => obtain ⟨xs, z, _⟩ := k; have z := (show upd w.H p o p = some o from upd_same).symm.trans z; cases z; exact ⟨fun _ z => (nomatch z), fun _ z => (nomatch z), fun _ z => (nomatch z)⟩
  · show (w.β ++ [p]).length = (w.st ++ [some m]).length
    simp [S.len]
  · show (w.β ++ [p]).Nodup
    rw [List.nodup_append]
    refine ⟨S.nd, by simp, fun a ha b hb => ?_⟩
    simp at hb; subst hb
    exact fun z => S.occ a ha (.inl (by rw [z]; exact h))
  · have e : (w.st ++ [some m])[j]? = some (some m') := getMO_some.mp e
    by_cases hj : j < w.st.length
    · rw [List.getElem?_append_left hj] at e
      obtain ⟨a, e1, k1⟩ := S.at_ j m' (getMO_some.mpr e)
      refine ⟨a, ?_, k1.ext x ?_⟩
      · show (w.β ++ [p])[j]? = some a
        rw [List.getElem?_append_left (by rw [S.len]; exact hj)]; exact e1
      · obtain ⟨o', e2⟩ := k1.some
        show upd w.H p o a = _
        rw [upd_ne (ne_of_none e2 h)]
    · rw [List.getElem?_append_right (by omega)] at e
      have z : j - w.st.length = 0 := by
        have := (List.getElem?_eq_some_iff.mp e).1
        simp at this; omega
      rw [z] at e
      simp at e
      subst e
      refine ⟨p, ?_, hm _ x upd_same⟩
      show (w.β ++ [p])[j]? = some p
      rw [List.getElem?_append_right (by rw [S.len]; omega), S.len, z]; rfl
end
end PV
namespace PV
open PySem PySem.Spec PyProof.Rows L2
variable {K : PySem.W.Frag}
/-! ### nothing raised -/
def NoX {α : Type} (r : R α) : Prop := ∀ c p st, r ≠ .exc c p st
theorem Pst.nox {xr : XR} {w : Wd} {α γ : Type} {r : R α} {rel : Wd → α → γ → Prop} {Q : γ → Hp → Prop} {E E' : XK} (n : NoX r) (h : Pst K xr w r rel Q E) : Pst K xr w r rel Q E' := by
  cases r with
  | ok d st => exact h
  | exc c p st => exact absurd rfl (n c p st)
  | bad => exact h
theorem nox_ok {α : Type} {a : α} {st : Sto} : NoX (.ok a st) := fun _ _ _ h => nomatch h
theorem nox_bad {α : Type} : NoX (.bad : R α) := fun _ _ _ h => nomatch h
theorem nox_okb {c : Bool} {d : D} {st : Sto} : NoX (okb c d st) := by cases c <;> first | exact nox_ok | exact nox_bad
theorem nox_okd {o : Option D} {st : Sto} : NoX (okd o st) := by cases o <;> first | exact nox_ok | exact nox_bad
theorem nox_okO {o : Option Bool} {st : Sto} : NoX (okO o st) := by cases o <;> first | exact nox_ok | exact nox_bad
theorem nox_bin (o : BO) (x y : D) (st : Sto) : NoX (binD o x y st) := by
  unfold binD; split <;> first | exact nox_ok | exact nox_bad | exact nox_okb
theorem nox_idx (x y : D) (st : Sto) : NoX (idxD x y st) := by
  unfold idxD; repeat' split
  all_goals first | exact nox_ok | exact nox_bad | exact nox_okb | exact nox_okd
theorem nox_slc (x : D) (l h : Option Int) (st : Sto) : NoX (slcD x l h st) := by
  unfold slcD; split <;> first | exact nox_ok | exact nox_bad | exact nox_okb
theorem nox_bf (f : BF) (as : List D) (st : Sto) : NoX (bfD f as st) := by
  unfold bfD; repeat' split
  all_goals first | exact nox_ok | exact nox_bad | exact nox_okb | exact nox_okd | exact nox_okO
theorem nox_mt (m : MF) (o : D) (as : List D) (st : Sto) : NoX (mtD m o as st) := by
  unfold mtD; repeat' split
  all_goals first | exact nox_ok | exact nox_bad | exact nox_okb | exact nox_okd | exact nox_okO
theorem nox_set (x i v : D) (st : Sto) : NoX (setD x i v st) := by
  unfold setD; repeat' split
  all_goals first | exact nox_ok | exact nox_bad | exact nox_okb | exact nox_okd | exact nox_okO
theorem nox_noX {α : Type} (r : R α) : NoX (noX r) := by cases r <;> first | exact nox_ok | exact nox_bad
/-! ### truth -/
theorem emp_eq {α β : Type} : ∀ {xs : List α} {ds : List β}, xs.length = ds.length → (!ds.isEmpty) = !xs.isEmpty
  | [], [], _ => rfl
  | _ :: _, _ :: _, _ => rfl
  | [], _ :: _, h => nomatch h
  | _ :: _, [], h => nomatch h
theorem tru_of {w : Wd} {d : D} {v : V} {k : Bool} (r : RD K w d v) (h : truth d = some k) : TruV K v w.H k := by
  unfold truth at h
  split at h
  · cases r.non_inv; injection h with h; exact h.symm
  · cases r.bl_inv; injection h with h; exact h.symm
  · cases r.int_inv; injection h with h; exact h.symm
  · cases r.str_inv
    rename_i s
    by_cases f : fits s.length = true
    · rw [if_pos f] at h
      injection h with h
      subst h
      refine ⟨by simpa [Str.length] using fits_le f, ?_⟩
      cases s <;> simp [Str.length]
      omega
    · rw [if_neg f] at h; cases h
  · injection h with h
    subst h
    obtain ⟨a, xs, rfl, ha, ra⟩ := r.tup_inv
    refine .inr (.inl ⟨xs, ha, ?_⟩)
    rw [emp_eq ra.length]
  · injection h with h
    subst h
    obtain ⟨a, xs, rfl, ha, _, ra⟩ := r.lst_inv
    refine .inl ⟨xs, .of ha, ?_⟩
    rw [emp_eq ra.length]
  · cases h
/-! ### isinstance -/
def tyS : Ty → String
  | .int => "int"
  | .str => "str"
  | .bool => "bool"
  | .tuple => "tuple"
  | .list => "list"
section
variable {X : Cx} {xr : XR}
theorem tup_ty {w : Wd} {k : Bool} {ds : List D} {v : V} (h : RD K w (.tup k ds) v) : TyX K w.H v (.type "tuple") := by
  rw [RD] at h
  obtain ⟨a, xs, rfl, h1, h2⟩ := h
  cases k with
  | true =>
    rw [if_pos rfl] at h1
    obtain ⟨o, its, n, e, c, _⟩ := h1
    exact .kTuple e c
  | false =>
    rw [if_neg Bool.false_ne_true] at h1
    exact .base (.tup h1.1)
theorem isi_D {w : Wd} {d : D} {x : V} {t : Ty} {b : Bool} {Q : VK} (r : RD X.K w d x) (h : isTy t d = some b) (q : Q (.bl b) w.H) : rIsi X.K [x, .ty (tyS t)] w.H Q := by
  have key : ∀ (ty u : String), TyX X.K w.H x (.type ty) → u = tyS t → kitB ty u = some b → rIsi X.K [x, .ty (tyS t)] w.H Q := fun ty u a e k => by
    subst e
    exact ⟨x, _, _, _, b, rfl, .ty _, a, kit_ty k, q⟩
  unfold isTy at h
  split at h <;> first | (injection h with h; subst h) | cases h
  all_goals first
    | (cases r.int_inv; exact key _ _ (.base (.int _)) rfl (by decide +kernel))
    | (cases r.bl_inv; exact key _ _ (.base (.bl _)) rfl (by decide +kernel))
    | (cases r.str_inv; exact key _ _ (.base (.str _)) rfl (by decide +kernel))
    | (cases r.non_inv; exact key _ _ (.base .non) rfl (by decide +kernel))
    | exact key _ _ (tup_ty r) rfl (by decide +kernel)
    | (obtain ⟨a, xs, rfl, ha, _, ra⟩ := r.lst_inv; exact key _ _ (.base (.lst ha)) rfl (by decide +kernel))
/-! ### d.get(k, d), d[k] -/
theorem dget_D {w : Wd} {ks : List (List Int)} {vs : List D} {a : Addr} {kvs : List (List Key × V)} {e : D} {y : V} {k : List Int} (h1 : Rd w.H a (.dT kvs)) (h3 : kvs.map (·.1) = ks.map (·.map Sum.inl)) (h4 : RDs K w vs (kvs.map (·.2))) (hk : keyOf e = some k) (hy : RD K w e y) {d : D} {z : V} (hz : RD K w d z) :
    ∃ o, DGet w.H a y o ∧ RD K w ((lookK k ks vs).getD d) (o.getD z) := by
  obtain ⟨b, rfl, hb, _⟩ := key_at hk hy
  refine ⟨valV kvs (k.map Sum.inl), .inr ⟨kvs, _, b, h1, rfl, hb, rfl⟩, ?_⟩
  cases q : lookK k ks vs with
  | some x =>
    obtain ⟨v, e1, e2⟩ := (lookK_of h3 h4).1 x q
    rw [e1]; exact e2
  | none =>
    rw [(lookK_of h3 h4).2 q]; exact hz
end
/-! ### let go -/
theorem live_drop {w : Wd} {j : Nat} {a : Addr} (h : live ⟨w.β, w.st.set j none, w.H, w.ho⟩ a) : live w a := by
  rcases h with h | ⟨i, m1, h1, h2⟩
  · exact .inl h
  have h2 : (w.st.set j none)[i]? = some (some m1) := getMO_some.mp h2
  by_cases q : j = i
  · subst q
    have := (List.getElem?_eq_some_iff.mp h2).1
    rw [List.getElem?_set_self (by simpa using this)] at h2
    cases h2
  · rw [List.getElem?_set_ne q] at h2
    exact .inr ⟨i, m1, h1, getMO_some.mpr h2⟩
theorem Ext.drop {w : Wd} {j : Nat} : Ext w ⟨w.β, w.st.set j none, w.H, w.ho⟩ := ⟨⟨[], by simp⟩, fun a o e _ n => ⟨e, fun z => n (live_drop z)⟩, rfl, fun _ _ _ h => h⟩
theorem StoOk.drop {w : Wd} {j : Nat} (S : StoOk K w) : StoOk K ⟨w.β, w.st.set j none, w.H, w.ho⟩ := by
  refine ⟨by simpa using S.len, S.nd, fun i m e => ?_, S.occ, S.hoL, S.sep, S.tab⟩
  have e : (w.st.set j none)[i]? = some (some m) := getMO_some.mp e
  by_cases q : j = i
  · subst q
    have := (List.getElem?_eq_some_iff.mp e).1
    rw [List.getElem?_set_self (by simpa using this)] at e
    cases e
  · rw [List.getElem?_set_ne q] at e
    obtain ⟨a, e1, k1⟩ := S.at_ i m (getMO_some.mpr e)
    exact ⟨a, e1, k1.ext Ext.drop rfl⟩
theorem dead_drop {w : Wd} {j : Nat} {a : Addr} (S : StoOk K w) (ha : w.β[j]? = some a) : ¬ live ⟨w.β, w.st.set j none, w.H, w.ho⟩ a := fun z => by
  rcases z with z | ⟨i, m, h1, h2⟩
  · exact S.sep a z (List.mem_of_getElem? ha)
  have h2 : (w.st.set j none)[i]? = some (some m) := getMO_some.mp h2
  have h1 : w.β[i]? = some a := h1
  have i1 := List.getElem?_eq_some_iff.mp ha
  have i2 := List.getElem?_eq_some_iff.mp h1
  have e : j = i := (List.getElem_inj S.nd).mp (i1.2.trans i2.2.symm)
  subst e
  have := (List.getElem?_eq_some_iff.mp h2).1
  rw [List.getElem?_set_self (by simpa using this)] at h2
  cases h2
theorem drop_lst {w : Wd} {j : Nat} {a : Addr} {ds : List D} (S : StoOk K w) (ha : w.β[j]? = some a) (hm : getMO w.st j = some (.lst ds)) : RD K ⟨w.β, w.st.set j none, w.H, w.ho⟩ (.lst ds) (.ref a) := by
  obtain ⟨xs, h1, h2⟩ := S.mem hm ha
  rw [RD]
  exact ⟨a, xs, rfl, h1, dead_drop S ha, h2.ext Ext.drop⟩
theorem drop_dct {w : Wd} {j : Nat} {a : Addr} {ks : List (List Int)} {ds : List D} (S : StoOk K w) (ha : w.β[j]? = some a) (hm : getMO w.st j = some (.dct ks ds)) : RD K ⟨w.β, w.st.set j none, w.H, w.ho⟩ (.dct ks ds) (.ref a) := by
  obtain ⟨kvs, h1, h3, h2⟩ := S.mem hm ha
  rw [RD]
  exact ⟨a, kvs, rfl, .inl h1, dead_drop S ha, h3, h2.ext Ext.drop⟩
end PV
set_option Elab.async false
set_option linter.all false
set_option maxRecDepth 100000
set_option maxHeartbeats 400000
/-! PV11: the text's expressions to the small language: tables, readings, the rules one by one. -/
namespace PV
open PySem PySem.Spec PyProof.Rows L2
/-! ### what is known of the text -/
/-- the tables of a text: defs, constants, classes, free built-in names -/
structure GT where
  fns : List (Str × Nat)
  cns : List (Str × D)
  blt : List Str
  gcd : Bool
  cls : List (Str × Nat)
/-- where one stands -/
structure TX where
  N : List Str
  sc : Scope
  fnB : Str → Bool
  top : Bool
  muts : List Str
  dcts : List Str
  fzs : List (Nat × Str)
  lam : Bool := false
/-- the code object of a def whose lambdas are made, its table -/
def LamOk (K : PySem.W.Frag) (mg : Str → Option Value) (base : Heap) (qual : Str) (cdv : Value) : Prop := ∃ c P, cdv = .ref c ∧ LamX.TabB base mg c P ∧ (P, qual ++ "<lambda>") ∈ tabsK K ∧ ∀ p ∈ tabsK K, p.1 = P → p.2 = qual ++ "<lambda>"
def spF (K : PySem.W.Frag) (xr : XR) (F : Nat → Option Fn) (k f : Nat) : Sp := fun vs H Q E => ∃ (w : Wd) (ds : List D), w.H = H ∧ StoOk K w ∧ RDs K w ds vs ∧ Pst K xr w (callF F k f ds w.st) (RD K) Q E
/-- X(e), X an own exception -/
def tExc (K : PySem.W.Frag) (xr : XR) (c : Nat) (ta : TE) : L2.St → Hp → XK → Prop := fun σ H Q => ta σ H fun v H1 => ∃ (w : Wd) (d : D), w.H = H1 ∧ StoOk K w ∧ RD K w d v ∧ excOk c d = true ∧
  ∀ (β' : List Addr) (H' : Hp) (cls : Value) (od : Option Addr), Ext w ⟨β', w.st, H', w.ho⟩ → StoOk K ⟨β', w.st, H', w.ho⟩ → xr ⟨β', w.st, H', w.ho⟩ c d cls od → Q cls od H'
structure GOk (G : GT) (F : Nat → Option Fn) (k : Nat) (xr : XR) (P : Program) (w : World) (K : PySem.W.Frag) (mg : Str → Option Value) (base : Heap) : Prop where
  fns : ∀ x f, G.fns.lookup x = some f → ∃ fa fd ps, mg x = some (.ref fa) ∧ PySem.W.keepIn K (.ref fa) = true ∧ Binds K fd ps [] ∧ FnOk P w K mg base (L2.CX P w) k fa fd ps (spF K xr F k f)
  cns : ∀ x d, G.cns.lookup x = some d → ∃ v u, mg x = some u ∧ RelV v u ∧ ∀ w, RD K w d v
  blt : ∀ x, G.blt.contains x = true → mg x = none
  gcd : G.gcd = true → mg "gcd" = some (.builtin "math.gcd")
  exc : ∀ x c, G.cls.lookup x = some c → ∀ (X : Cx) (ta : TE) (arg : Expr) (p pos : Pos), X.prog = P → X.w = w → X.K = K → X.mg = mg → X.base = base → X.calm = true → Room 3 X.A → Gl X x → (x == ("__debug__" : Str)) = false → starEach [arg] X.env = (false, eval arg X.env) :: starEach [] X.env → PE X arg ta →
    PMk X (.Call (.Name x p) [arg] [] pos) (tExc K xr c ta)
  cat : ∀ x, G.cls.lookup x = some 0 → ∃ C, mg x = some (.ref C) ∧ PySem.W.exmOne K (.ref C) (.ref C) = some true ∧ XfC K C ∧ PySem.W.findIn K (.ref C) "place" = some none ∧
    ∀ w p cls od, xr w 0 p cls od → cls = .ref C ∧ ∃ dd fs v, od = some dd ∧ w.H dd = some (.xd fs) ∧ List.lookup ("place" : Str) fs = some v ∧ RD K w p v
structure Ctx (G : GT) (F : Nat → Option Fn) (k : Nat) (xr : XR) (T : TX) (X : Cx) (W : WX) : Prop where
  n : X.N = T.N
  nd : X.N.Nodup
  sc : X.env.scope = T.sc
  kind : X.env.scope.kind = .function
  fnb : X.fn = T.fnB
  calm : X.calm = true
  room : Room k X.A
  tk : Takes X W
  g : GOk G F k xr X.prog X.w X.K X.mg X.base
  lam : T.lam = true → LamOk X.K X.mg X.base X.env.qual X.env.code
theorem Ctx.hu {G : GT} {F : Nat → Option Fn} {k : Nat} {xr : XR} {T : TX} {X : Cx} {W : WX} (c : Ctx G F k xr T X W) : X.A.units + 64 < cLine := c.room.units
/-! ### slots -/
def LR (K : PySem.W.Frag) (w : Wd) (δ : Sl) (σ : L2.St) : Prop := δ.length = σ.length ∧ ∀ (i : Nat) (d : D), δ[i]? = some (some d) → ∃ v, σ[i]? = some (some v) ∧ RD K w d v
variable {K : PySem.W.Frag}
theorem LR.ext {w w' : Wd} {δ : Sl} {σ : L2.St} (h : LR K w δ σ) (x : Ext w w') : LR K w' δ σ := ⟨h.1, fun i d e => let ⟨v, h1, h2⟩ := h.2 i d e; ⟨v, h1, h2.ext x⟩⟩
theorem LR.mv {w w' : Wd} {δ : Sl} {σ : L2.St} (h : LR K w δ σ) (x : Mv w w') : LR K w' δ σ := ⟨h.1, fun i d e => let ⟨v, h1, h2⟩ := h.2 i d e; ⟨v, h1, h2.mv x⟩⟩
theorem LR.set {w : Wd} {δ : Sl} {σ : L2.St} (h : LR K w δ σ) (i : Nat) {d : D} {v : V} (r : RD K w d v) : LR K w (δ.set i (some d)) (σ.set i (some v)) := by
  refine ⟨by simpa using h.1, fun j e q => ?_⟩
  by_cases hij : i = j
  · subst hij
    have hl : i < δ.length := by
      have := (List.getElem?_eq_some_iff.mp q).1
      simpa using this
    rw [List.getElem?_set_self hl] at q
    injection q with q
    injection q with q
    subst q
    exact ⟨v, by rw [List.getElem?_set_self (by rw [← h.1]; exact hl)], r⟩
  · rw [List.getElem?_set_ne hij] at q ⊢
    exact h.2 j e q
theorem LR.none {w : Wd} {δ : Sl} {σ : L2.St} (h : LR K w δ σ) (i : Nat) : LR K w (δ.set i none) (σ.set i none) := by
  refine ⟨by simpa using h.1, fun j e q => ?_⟩
  by_cases hij : i = j
  · subst hij
    have hl : i < δ.length := by
      have := (List.getElem?_eq_some_iff.mp q).1
      simpa using this
    rw [List.getElem?_set_self hl] at q
    cases q
  · rw [List.getElem?_set_ne hij] at q ⊢
    exact h.2 j e q
theorem LR.wipe {w : Wd} {δ : Sl} {σ : L2.St} (h : LR K w δ σ) : ∀ vs : List Nat, LR K w (wipe δ vs) (L2.wipe σ vs)
  | [] => h
  | v :: vs => (LR.wipe h vs).none v
/-! ### readings -/
section
variable (X : Cx) (xr : XR) (cl : Nat → List D → Sto → R D) (W : WX)
def TEv (e : E) : TE := fun σ H Q => ∃ (w : Wd) (δ : Sl), w.H = H ∧ StoOk X.K w ∧ LR X.K w δ σ ∧ Pst X.K xr w (ev cl e false δ w.st) (RD X.K) Q fun c d H' => W c d σ H'
def TTv (e : E) : TT := fun σ H Q => ∃ (w : Wd) (δ : Sl), w.H = H ∧ StoOk X.K w ∧ LR X.K w δ σ ∧ Pst X.K xr w (ev cl e true δ w.st) (fun _ d b => d = .bl b) Q fun c d H' => W c d σ H'
def TAv (es : Es) : TA := fun σ H Q => ∃ (w : Wd) (δ : Sl), w.H = H ∧ StoOk X.K w ∧ LR X.K w δ σ ∧ Pst X.K xr w (evs cl es δ w.st) (RDs X.K) Q fun c d H' => W c d σ H'
def TOv (e : Eo) : TO := fun σ H Q => ∃ (w : Wd) (δ : Sl), w.H = H ∧ StoOk X.K w ∧ LR X.K w δ σ ∧ Pst X.K xr w (evo cl e δ w.st) (fun _ d o => d = o) Q fun c d H' => W c d σ H'
def TCv (e : Eo) : TT := fun σ H Q => ∃ (w : Wd) (δ : Sl), w.H = H ∧ StoOk X.K w ∧ LR X.K w δ σ ∧ Pst X.K xr w (evc cl e δ w.st) (fun _ d o => d = o) Q fun c d H' => W c d σ H'
/-- t: as a test -/
def Snd (t : Bool) (e : Expr) (e' : E) : Prop := match t with
  | true => PT X e (TTv X xr cl W e')
  | false => PE X e (TEv X xr cl W e')
end
section
variable {X : Cx} {xr : XR} {cl : Nat → List D → Sto → R D} {W : WX} {G : GT} {F : Nat → Option Fn} {k : Nat} {T : TX}
theorem snd_bad {t : Bool} {e : Expr} : Snd X xr cl W t e .bad := by
  cases t
  · exact ⟨fun pins s σ H Q I ⟨w, δ, _, _, _, h⟩ => h.elim⟩
  · exact ⟨fun pins s σ H Q I ⟨w, δ, _, _, _, h⟩ => h.elim⟩
/-- a reading that is there from the first -/
theorem pe_here {e : Expr} {d : D} {v : V} (h : PE X e (tC v)) (r : ∀ w, RD X.K w d v) : PE X e (TEv X xr cl W (.c d)) :=
  PE.weak h fun σ H Q ⟨w, δ, e, S, L, h⟩ => by
    subst e
    simp only [ev, tst] at h
    exact h.here S (r w)
theorem pe_v {x : Str} {i : Nat} {pos : Pos} (hN : X.N[i]? = some x) (hv : Vis X.env.scope x) (hd : (x == ("__debug__" : Str)) = false) (hc : (x == ("__classdict__" : Str)) = false) : PE X (.Name x pos) (TEv X xr cl W (.v i)) :=
  PE.weak (pe_var hN hv hd hc) fun σ H Q ⟨w, δ, e, S, L, h⟩ => by
    subst e
    simp only [ev, tst] at h
    split at h
    · rename_i d q
      obtain ⟨v, h1, h2⟩ := L.2 i d q
      exact ⟨v, h1, h.here S h2⟩
    · exact h.elim
theorem pe_binE {a b : Expr} {a' b' : E} {o : BO} {pos : Pos} (ha : PE X a (TEv X xr cl W a')) (hb : PE X b (TEv X xr cl W b')) : PE X (.BinOp a (opOf o) b pos) (TEv X xr cl W (.bin o a' b')) :=
  PE.weak (pe_op (op_bin (xr := xr) o) ha hb) fun σ H Q ⟨w, δ, e, S, L, h⟩ => by
    subst e
    simp only [ev, tst] at h
    exact ⟨w, δ, rfl, S, L, h.bind fun x w1 v x1 S1 r1 h1 => ⟨w1, δ, rfl, S1, L.ext x1, h1.bind fun y w2 u x2 S2 r2 h2 => ⟨w2, x, y, rfl, S2, r1.ext x2, r2, h2.nox (nox_bin _ _ _ _)⟩⟩⟩
theorem pe_negE {a : Expr} {a' : E} {pos : Pos} (ha : PE X a (TEv X xr cl W a')) : PE X (.UnaryOp .USub a pos) (TEv X xr cl W (.neg a')) :=
  PE.weak (pe_un un_neg ha) fun σ H Q ⟨w, δ, e, S, L, h⟩ => by
    subst e
    simp only [ev, tst] at h
    refine ⟨w, δ, rfl, S, L, h.bind fun x w1 v x1 S1 r1 h1 => ?_⟩
    split at h1
    · cases r1.int_inv
      exact ⟨_, rfl, h1.here S1 .int⟩
    · exact h1.elim
theorem snd_not {t : Bool} {a : Expr} {a' : E} {pos : Pos} (ha : Snd X xr cl W t a a') : Snd X xr cl W t (.UnaryOp .Not a pos) (.not a') := by
  cases t
  · refine PE.weak (pe_not (show PE X a (TEv X xr cl W a') from ha)) fun σ H Q ⟨w, δ, e, S, L, h⟩ => ?_
    subst e
    simp only [ev] at h
    refine ⟨w, δ, rfl, S, L, h.bind fun x w1 v x1 S1 r1 h1 => ?_⟩
    split at h1
    · cases r1.bl_inv
      exact ⟨_, rfl, h1.here S1 .bl⟩
    · exact h1.elim
  · refine PT.weak (pt_not (show PT X a (TTv X xr cl W a') from ha)) fun σ H Q ⟨w, δ, e, S, L, h⟩ => ?_
    subst e
    simp only [ev] at h
    refine ⟨w, δ, rfl, S, L, h.bind fun x w1 v x1 S1 r1 h1 => ?_⟩
    subst r1
    exact h1.here S1 rfl
/-! and, or -/
theorem pe_andE {a b : Expr} {rest : List Expr} {a' b' : E} {pos : Pos} (ha : PE X a (TEv X xr cl W a')) (hb : PE X (.BoolOp .And (b :: rest) pos) (TEv X xr cl W b')) : PE X (.BoolOp .And (a :: b :: rest) pos) (TEv X xr cl W (.and a' b')) :=
  PE.weak (pe_and ha hb) fun σ H Q ⟨w, δ, e, S, L, h⟩ => by
    subst e
    simp only [ev] at h
    refine ⟨w, δ, rfl, S, L, h.bind fun x w1 v x1 S1 r1 h1 => ?_⟩
    split at h1
    · cases r1.bl_inv
      exact ⟨true, rfl, ⟨w1, δ, rfl, S1, L.ext x1, h1⟩⟩
    · cases r1.bl_inv
      exact ⟨false, rfl, h1.here S1 .bl⟩
    · exact h1.elim
theorem pe_orE {a b : Expr} {rest : List Expr} {a' b' : E} {pos : Pos} (ha : PE X a (TEv X xr cl W a')) (hb : PE X (.BoolOp .Or (b :: rest) pos) (TEv X xr cl W b')) : PE X (.BoolOp .Or (a :: b :: rest) pos) (TEv X xr cl W (.or a' b')) :=
  PE.weak (pe_or ha hb) fun σ H Q ⟨w, δ, e, S, L, h⟩ => by
    subst e
    simp only [ev] at h
    refine ⟨w, δ, rfl, S, L, h.bind fun x w1 v x1 S1 r1 h1 => ?_⟩
    split at h1
    · cases r1.bl_inv
      exact ⟨false, rfl, ⟨w1, δ, rfl, S1, L.ext x1, h1⟩⟩
    · cases r1.bl_inv
      exact ⟨true, rfl, h1.here S1 .bl⟩
    · exact h1.elim
theorem pw_andE {a b : Expr} {rest : List Expr} {a' b' : E} {pos : Pos} (ha : PT X a (TTv X xr cl W a')) (hb : PW X (.BoolOp .And (b :: rest) pos) (TTv X xr cl W b')) : PW X (.BoolOp .And (a :: b :: rest) pos) (TTv X xr cl W (.and a' b')) :=
  PW.weak (pw_and ha hb) fun σ H Q ⟨w, δ, e, S, L, h⟩ => by
    subst e
    simp only [ev] at h
    refine ⟨w, δ, rfl, S, L, h.bind fun x w1 v x1 S1 r1 h1 => ?_⟩
    subst r1
    cases v with
    | true => exact ⟨w1, δ, rfl, S1, L.ext x1, h1⟩
    | false => exact h1.here S1 rfl
theorem pw_orE {a b : Expr} {rest : List Expr} {a' b' : E} {pos : Pos} (ha : PT X a (TTv X xr cl W a')) (hb : PW X (.BoolOp .Or (b :: rest) pos) (TTv X xr cl W b')) : PW X (.BoolOp .Or (a :: b :: rest) pos) (TTv X xr cl W (.or a' b')) :=
  PW.weak (pw_or ha hb) fun σ H Q ⟨w, δ, e, S, L, h⟩ => by
    subst e
    simp only [ev] at h
    refine ⟨w, δ, rfl, S, L, h.bind fun x w1 v x1 S1 r1 h1 => ?_⟩
    subst r1
    cases v with
    | true => exact h1.here S1 rfl
    | false => exact ⟨w1, δ, rfl, S1, L.ext x1, h1⟩
def boolE (o : BoolOp) : List E → E
  | [] => .bad
  | [a] => a
  | a :: b :: r => match o with
    | .And => .and a (boolE o (b :: r))
    | .Or => .or a (boolE o (b :: r))
/-- all of a list -/
def AllS (p : Expr → E → Prop) : List Expr → List E → Prop
  | [], [] => True
  | e :: es, f :: fs => p e f ∧ AllS p es fs
  | _, _ => False
theorem allS_map {p : Expr → E → Prop} {f : Expr → E} (h : ∀ e, p e (f e)) : ∀ es : List Expr, AllS p es (es.map f)
  | [] => trivial
  | e :: es => ⟨h e, allS_map h es⟩
theorem bool_v {o : BoolOp} {pos : Pos} : ∀ {es : List Expr} {fs : List E}, AllS (Snd X xr cl W false) es fs → PE X (.BoolOp o es pos) (TEv X xr cl W (boolE o fs))
  | [], [], _ => snd_bad (t := false)
  | [a], [a'], h => pe_one h.1
  | a :: b :: r, a' :: b' :: r', h => by
    have ih := bool_v (o := o) (pos := pos) h.2
    cases o with
    | And => exact pe_andE h.1 ih
    | Or => exact pe_orE h.1 ih
  | [], _ :: _, h => h.elim
  | _ :: _, [], h => h.elim
  | [_], _ :: _ :: _, h => h.2.elim
  | _ :: _ :: _, [_], h => h.2.elim
theorem bool_w {o : BoolOp} {pos : Pos} : ∀ {es : List Expr} {fs : List E}, AllS (Snd X xr cl W true) es fs → PW X (.BoolOp o es pos) (TTv X xr cl W (boolE o fs))
  | [], [], _ => ⟨fun wh pins s σ H Q I ⟨w, δ, _, _, _, h⟩ => h.elim⟩
  | [a], [a'], h => by
    cases o with
    | And => exact pw_and1 h.1
    | Or => exact pw_or1 h.1
  | a :: b :: r, a' :: b' :: r', h => by
    have ih := bool_w (o := o) (pos := pos) h.2
    cases o with
    | And => exact pw_andE h.1 ih
    | Or => exact pw_orE h.1 ih
  | [], _ :: _, h => h.elim
  | _ :: _, [], h => h.elim
  | [_], _ :: _ :: _, h => h.2.elim
  | _ :: _ :: _, [_], h => h.2.elim
theorem snd_bool {t : Bool} {o : BoolOp} {pos : Pos} {es : List Expr} {fs : List E} (h : AllS (Snd X xr cl W t) es fs) : Snd X xr cl W t (.BoolOp o es pos) (boolE o fs) := by
  cases t
  · exact bool_v h
  · exact (bool_w h).pt
/-! comparisons -/
theorem Pst.tb {w : Wd} {r : R D} {Q : Bool → Hp → Prop} {E : XK} (h : Pst K xr w r (fun _ d b => d = .bl b) Q E) (hb : ∀ d st, r = .ok d st → ∃ b, d = .bl b) : Pst K xr w r (RD K) (fun x H => ∃ k, x = .bl k ∧ Q k H) E := by
  cases r with
  | ok d st =>
    obtain ⟨b, rfl⟩ := hb d st rfl
    intro β' H' v x S q
    cases q.bl_inv
    exact ⟨b, rfl, h β' H' b x S rfl⟩
  | exc c p st => exact h
  | bad => exact h
theorem okO_bl {o : Option Bool} {st : Sto} : ∀ d st', okO o st = .ok d st' → ∃ b, d = .bl b := fun d st' h => by
  cases o with
  | some b => injection h with h1 h2; exact ⟨b, h1.symm⟩
  | none => cases h
theorem snd_cmp {t : Bool} (hu : X.A.units + 64 < cLine) {o : CO} {a b : Expr} {a' b' : E} {pos : Pos} (ha : PE X a (TEv X xr cl W a')) (hb : PE X b (TEv X xr cl W b')) (hm : behindInMarks (cmpOf o) b = false) :
    Snd X xr cl W t (.Compare a [cmpOf o] [b] pos) (.cmp o a' b') := by
  cases t
  · refine PE.weak (pe_cmpR (op_cmp (xr := xr) hu o) ha hb hm) fun σ H Q ⟨w, δ, e, S, L, h⟩ => ?_
    subst e
    simp only [ev] at h
    exact ⟨w, δ, rfl, S, L, h.bind fun x w1 v x1 S1 r1 h1 => ⟨w1, δ, rfl, S1, L.ext x1, h1.bind fun y w2 u x2 S2 r2 h2 => ⟨w2, x, y, rfl, S2, r1.ext x2, r2, h2.nox nox_okO⟩⟩⟩
  · refine PT.weak (pt_cmpR (op_cmp (xr := xr) hu o) ha hb hm) fun σ H Q ⟨w, δ, e, S, L, h⟩ => ?_
    subst e
    simp only [ev] at h
    exact ⟨w, δ, rfl, S, L, h.bind fun x w1 v x1 S1 r1 h1 => ⟨w1, δ, rfl, S1, L.ext x1, h1.bind fun y w2 u x2 S2 r2 h2 => ⟨w2, x, y, rfl, S2, r1.ext x2, r2, (h2.nox nox_okO).tb okO_bl⟩⟩⟩
/-- a < b < c -/
theorem snd_cmp2 {t : Bool} (hu : X.A.units + 64 < cLine) {o p : CO} {a b c : Expr} {a' b' c' : E} {pos : Pos} (ha : PE X a (TEv X xr cl W a')) (hb : PE X b (TEv X xr cl W b')) (hc : PE X c (TEv X xr cl W c')) (hm : behindInMarks (cmpOf p) c = false) :
    Snd X xr cl W t (.Compare a [cmpOf o, cmpOf p] [b, c] pos) (.cmp2 o p a' b' c') := by
  cases t
  · refine PE.weak (pe_chain (op_cmp (xr := xr) hu o) (op_cmp (xr := xr) hu p) ha hb hc hm) fun σ H Q ⟨w, δ, e, S, L, h⟩ => ?_
    subst e
    simp only [ev] at h
    refine ⟨w, δ, rfl, S, L, h.bind fun x w1 v x1 S1 r1 h1 => ⟨w1, δ, rfl, S1, L.ext x1, h1.bind fun y w2 u x2 S2 r2 h2 => ⟨w2, x, y, rfl, S2, r1.ext x2, r2, ?_⟩⟩⟩
    split at h2
    · rename_i q
      show Pst X.K xr w2 (okO (cmpD o x y) w2.st) _ _ _
      rw [q]
      refine fun β' H' v' x3 S3 r3 => ?_
      cases r3.bl_inv
      have h2 := Pst.ext x3 h2
      exact ⟨true, rfl, ⟨_, δ, rfl, S3, (L.ext (x1.trans x2)).ext x3, h2.bind fun z w4 u4 x4 S4 r4 h4 => ⟨w4, y, z, rfl, S4, (r2.ext x3).ext x4, r4, h4.nox nox_okO⟩⟩⟩
    · rename_i q
      show Pst X.K xr w2 (okO (cmpD o x y) w2.st) _ _ _
      rw [q]
      refine fun β' H' v' x3 S3 r3 => ?_
      cases r3.bl_inv
      exact ⟨false, rfl, h2 β' H' _ x3 S3 .bl⟩
    · exact h2.elim
  · refine PT.weak (pt_chain (op_cmp (xr := xr) hu o) (op_cmp (xr := xr) hu p) ha hb hc hm) fun σ H Q ⟨w, δ, e, S, L, h⟩ => ?_
    subst e
    simp only [ev] at h
    refine ⟨w, δ, rfl, S, L, h.bind fun x w1 v x1 S1 r1 h1 => ⟨w1, δ, rfl, S1, L.ext x1, h1.bind fun y w2 u x2 S2 r2 h2 => ⟨w2, x, y, rfl, S2, r1.ext x2, r2, ?_⟩⟩⟩
    split at h2
    · rename_i q
      show Pst X.K xr w2 (okO (cmpD o x y) w2.st) _ _ _
      rw [q]
      refine fun β' H' v' x3 S3 r3 => ?_
      cases r3.bl_inv
      have h2 := Pst.ext x3 h2
      exact ⟨true, rfl, ⟨_, δ, rfl, S3, (L.ext (x1.trans x2)).ext x3, h2.bind fun z w4 u4 x4 S4 r4 h4 => ⟨w4, y, z, rfl, S4, (r2.ext x3).ext x4, r4, (h4.nox nox_okO).tb okO_bl⟩⟩⟩
    · rename_i q
      show Pst X.K xr w2 (okO (cmpD o x y) w2.st) _ _ _
      rw [q]
      refine fun β' H' v' x3 S3 r3 => ?_
      cases r3.bl_inv
      exact ⟨false, rfl, false, rfl, h2 β' H' _ x3 S3 rfl⟩
    · exact h2.elim
/-- a if c else b -/
theorem pe_iteE {c a b : Expr} {c' a' b' : E} {pos : Pos} (hc : PT X c (TTv X xr cl W c')) (ha : PE X a (TEv X xr cl W a')) (hb : PE X b (TEv X xr cl W b')) : PE X (.IfExp c a b pos) (TEv X xr cl W (.ite c' a' b')) :=
  PE.weak (pe_ifExp hc ha hb) fun σ H Q ⟨w, δ, e, S, L, h⟩ => by
    subst e
    simp only [ev, tst] at h
    refine ⟨w, δ, rfl, S, L, h.bind fun x w1 v x1 S1 r1 h1 => ?_⟩
    subst r1
    cases v with
    | true => exact ⟨w1, δ, rfl, S1, L.ext x1, h1⟩
    | false => exact ⟨w1, δ, rfl, S1, L.ext x1, h1⟩
/-- a value as a test -/
def plainE : E → Bool
  | .not _ => false
  | .and _ _ => false
  | .or _ _ => false
  | .cmp _ _ _ => false
  | .cmp2 _ _ _ _ _ => false
  | _ => true
theorem ev_plain {e : E} (h : plainE e = true) (δ : Sl) (st : Sto) : ev cl e true δ st = (ev cl e false δ st).bind fun d st => okO (truth d) st := by
  cases e <;> first | (cases h; done) | skip
  all_goals first
    | (simp only [ev, tst]; done)
    | rfl
def plainT : Expr → Bool
  | .UnaryOp .Not _ _ => false
  | .BoolOp _ _ _ => false
  | .IfExp _ _ _ _ => false
  | .Compare _ _ _ _ => false
  | _ => true
theorem plainT_is {e : Expr} {env : Env} (h : plainT e = true) (whole : Sem Value) : isTrue e env whole = (do let v ← whole; standAt e.pos; holding [v] (truthy v)) := by
  cases e <;> first | (cases h; done) | skip
  all_goals first
    | rfl
    | (unfold isTrue; rfl)
    | skip
  all_goals (rename_i op _ _; cases op <;> first | (cases h; done) | rfl | (unfold isTrue; rfl))
theorem pt_plain {e : Expr} {e' : E} (h : plainT e = true) (h' : plainE e' = true) (he : PE X e (TEv X xr cl W e')) : PT X e (TTv X xr cl W e') :=
  PT.weak (pt_truth he (plainT_is h)) fun σ H Q ⟨w, δ, e, S, L, h⟩ => by
    subst e
    rw [ev_plain h'] at h
    refine ⟨w, δ, rfl, S, L, h.bind fun x w1 v x1 S1 r1 h1 => ?_⟩
    obtain ⟨b, q, h2⟩ := h1.okO
    exact ⟨b, tru_of r1 q, h2.here S1 rfl⟩
/-! ### arguments, displays -/
def noStar : Expr → Bool
  | .Starred _ _ => false
  | _ => true
theorem star_one {e : Expr} {es : List Expr} {env : Env} (h : noStar e = true) : starEach (e :: es) env = (false, eval e env) :: starEach es env := by
  cases e <;> first | (cases h; done) | rfl | (unfold starEach; rfl)
theorem star_all {env : Env} : ∀ {es : List Expr}, es.all noStar = true → starEach es env = es.map fun e => (false, eval e env)
  | [], _ => by unfold starEach; rfl
  | e :: es, h => by
    simp only [List.all_cons, Bool.and_eq_true] at h
    rw [star_one h.1, star_all h.2]; rfl
theorem star_any {env : Env} {pos : Pos} {es : List Expr} (h : es.all noStar = true) : (backTo pos (starEach es env)).any (·.1) = false := by
  rw [star_all h]
  unfold backTo
  rw [List.map_map, List.any_map]
  simp [List.any_eq_false]
theorem star_few {env : Env} {pos : Pos} {es : List Expr} (h : es.all noStar = true) (hl : es.length < 30) : ((backTo pos (starEach es env)).all (fun x => !x.1) && (backToKw pos (keywordEach [] env)).all (fun x => x.1.isSome)
      && decide (es.length + ([] : List Keyword).length + (if ([] : List Keyword).isEmpty then 0 else 1) < 30)) = true := by
  rw [star_all h]
  unfold backTo backToKw keywordEach
  simp
  exact hl
def esOf : List E → Es
  | [] => .nil
  | e :: es => .cons e (esOf es)
theorem pa_all : ∀ {es : List Expr} {fs : List E}, es.all noStar = true → AllS (Snd X xr cl W false) es fs → PA X es (TAv X xr cl W (esOf fs))
  | [], [], _, _ => PA.weak pa_nil fun σ H Q ⟨w, δ, e, S, L, h⟩ => by
    subst e
    simp only [esOf, evs] at h
    exact h.here S RDs.nil
  | a :: r, a' :: r', hs, h => by
    simp only [List.all_cons, Bool.and_eq_true] at hs
    refine PA.weak (pa_cons (show PE X a (TEv X xr cl W a') from h.1) (pa_all hs.2 h.2) (star_one hs.1)) fun σ H Q ⟨w, δ, e, S, L, h⟩ => ?_
    subst e
    simp only [esOf, evs] at h
    exact ⟨w, δ, rfl, S, L, h.bind fun x w1 v x1 S1 r1 h1 => ⟨w1, δ, rfl, S1, L.ext x1, h1.bind fun y w2 u x2 S2 r2 h2 => h2.here S2 (.cons (r1.ext x2) r2)⟩⟩
  | [], _ :: _, _, h => h.elim
  | _ :: _, [], _, h => h.elim
theorem pe_tupE {es : List Expr} {es' : Es} {n : Nat} {pos : Pos} (h : PA X es (TAv X xr cl W es')) : PE X (.Tuple es n pos) (TEv X xr cl W (.tup es')) :=
  PE.weak (pe_tup h) fun σ H Q ⟨w, δ, e, S, L, h⟩ => by
    subst e
    simp only [ev, tst] at h
    refine ⟨w, δ, rfl, S, L, h.bind fun x w1 v x1 S1 r1 h1 => ?_⟩
    obtain ⟨c, h2⟩ := h1.okb
    exact ⟨by rw [r1.length]; exact fits_le c, fun p hp => h2.mk S1 hp (.newTup S1 hp r1)⟩
theorem Pst.alloc {w : Wd} {m : MO} {Q : VK} {E : XK} {p : Addr} {o : HO} (S : StoOk K w) (h : Pst K xr w (alloc m w.st) (RD K) Q E) (hp : w.H p = Option.none) (hm : ∀ w' : Wd, Ext w w' → w'.H p = some o → MOat K w' p m) : Q (.ref p) (upd w.H p o) := by
  refine h (w.β ++ [p]) (upd w.H p o) (.ref p) (Ext.alloc S hp) (S.alloc hp hm) ?_
  rw [RD]
  refine ⟨p, rfl, ?_⟩
  show (w.β ++ [p])[w.st.length]? = some p
  rw [← S.len]; simp
theorem pe_lstE {m : Bool} {es : List Expr} {es' : Es} {pos : Pos} (h : PA X es (TAv X xr cl W es')) : PE X (.List es pos) (TEv X xr cl W (.lst m es')) :=
  PE.weak (pe_lst h) fun σ H Q ⟨w, δ, e, S, L, h⟩ => by
    subst e
    simp only [ev, tst] at h
    refine ⟨w, δ, rfl, S, L, h.bind fun x w1 v x1 S1 r1 h1 => ?_⟩
    split at h1
    · have c : fits x.length = true := by assumption
      exact ⟨by rw [r1.length]; exact fits_le c, fun p hp => h1.mk S1 hp (.newLst S1 hp r1)⟩
    · have c : fits x.length = true := by assumption
      exact ⟨by rw [r1.length]; exact fits_le c, fun p hp => h1.alloc S1 hp fun w' x z => ⟨_, z, r1.ext x⟩⟩
    · exact h1.elim
theorem pe_dnewE {m : Bool} {pos : Pos} : PE X (.Dict [] [] pos) (TEv X xr cl W (.dnew m)) :=
  PE.weak pe_dnewT fun σ H Q ⟨w, δ, e, S, L, h⟩ => by
    subst e
    simp only [ev, tst] at h
    intro p hp
    cases m with
    | false =>
      refine h.mk S hp ?_
      rw [RD]
      exact ⟨p, [], rfl, .inl upd_same, S.nlive_new hp, rfl, .nil⟩
    | true => exact h.alloc S hp fun w' x z => ⟨_, z, rfl, .nil⟩
theorem nox_rep (m : Bool) (x y : D) (st : Sto) : NoX (repD m x y st) := by
  unfold repD; repeat' split
  all_goals first | exact nox_ok | exact nox_bad
theorem op_repD (m : Bool) : OpR X (binaryOp .Mult) (rB X.K xr (repD m)) := by
  intro pins s σ H x y v u Q I rx ry h
  obtain ⟨w, d, e, rfl, S, hd, he, h⟩ := h
  unfold repD at h
  split at h
  · rename_i ds i
    obtain ⟨a, xs, rfl, ha, la, ra⟩ := hd.lst_inv
    cases he.int_inv
    split at h
    · rename_i c
      simp only [Bool.and_eq_true, decide_eq_true_eq] at c
      exact op_rep pins s σ _ _ _ v u Q I rx ry ⟨a, i, xs, rfl, rfl, ha, by omega, by omega, by rw [ra.length]; exact fits_le c.2, fun p hp => h.mk S hp (.newLst S hp (ra.rep _))⟩
    · rename_i c
      simp only [Bool.and_eq_true, decide_eq_true_eq] at c
      exact op_rep pins s σ _ _ _ v u Q I rx ry ⟨a, i, xs, rfl, rfl, ha, by omega, by omega, by rw [ra.length]; exact fits_le c.2, fun p hp => h.alloc S hp fun w' x z => ⟨_, z, (ra.rep _).ext x⟩⟩
    · exact h.elim
  · exact h.elim
theorem pe_opE {op : Operator} {f : D → D → Sto → R D} {a b : Expr} {a' b' e' : E} {pos : Pos} (ho : OpR X (binaryOp op) (rB X.K xr f)) (hf : ∀ x y st, NoX (f x y st)) (he : ∀ δ st, ev cl e' false δ st = (ev cl a' false δ st).bind fun x st1 => (ev cl b' false δ st1).bind fun y st2 => f x y st2)
    (ha : PE X a (TEv X xr cl W a')) (hb : PE X b (TEv X xr cl W b')) : PE X (.BinOp a op b pos) (TEv X xr cl W e') :=
  PE.weak (pe_op ho ha hb) fun σ H Q ⟨w, δ, e, S, L, h⟩ => by
    subst e
    rw [he] at h
    exact ⟨w, δ, rfl, S, L, h.bind fun x w1 v x1 S1 r1 h1 => ⟨w1, δ, rfl, S1, L.ext x1, h1.bind fun y w2 u x2 S2 r2 h2 => ⟨w2, x, y, rfl, S2, r1.ext x2, r2, h2.nox (hf _ _ _)⟩⟩⟩
theorem pe_repE {m : Bool} {a b : Expr} {a' b' : E} {pos : Pos} (ha : PE X a (TEv X xr cl W a')) (hb : PE X b (TEv X xr cl W b')) : PE X (.BinOp a .Mult b pos) (TEv X xr cl W (.rep m a' b')) :=
  pe_opE (op_repD m) (nox_rep m) (fun δ st => by simp only [ev, tst]) ha hb
/-! a[i], a[l:h] -/
def isSlice : Expr → Bool
  | .Slice _ _ _ _ => true
  | _ => false
theorem plainIx {b : Expr} (h : isSlice b = false) : PlainIx b := fun o i => by
  cases b <;> first | (cases h; done) | rfl | (unfold subscripted; rfl)
theorem idx_dct {w : Wd} {ks : List (List Int)} {vs : List D} {y : D} {st : Sto} {rel : Wd → D → V → Prop} {Q : VK} {E : XK} (h : Pst K xr w (idxD (.dct ks vs) y st) rel Q E) : ∃ k d, keyOf y = some k ∧ lookK k ks vs = some d ∧ Pst K xr w (.ok d st) rel Q E := by
  cases y <;> first | (exact h.elim) | skip
  rename_i q t
  unfold idxD at h
  dsimp only at h
  cases e : keyOf (.tup q t) with
  | none => rw [e] at h; exact h.elim
  | some k =>
    rw [e] at h
    obtain ⟨d, hd, h3⟩ := h.okd
    exact ⟨k, d, rfl, hd, h3⟩
theorem pe_ixE {a b : Expr} {a' b' : E} {pos : Pos} (hu : X.A.units + 64 < cLine) (hs : isSlice b = false) (ha : PE X a (TEv X xr cl W a')) (hb : PE X b (TEv X xr cl W b')) : PE X (.Subscript a b pos) (TEv X xr cl W (.idx a' b')) := by
  refine PE.weak (PE.or (pe_dget (by omega) ha hb (plainIx hs)) (pe_ix (ix_D (xr := xr)) ha hb (plainIx hs))) fun σ H Q ⟨w, δ, e, S, L, h⟩ => ?_
  subst e
  simp only [ev, tst] at h
  cases q : ev cl a' false δ w.st with
  | ok x st1 =>
    rw [q] at h
    change Pst X.K xr w ((ev cl b' false δ st1).bind fun y st2 => idxD x y st2) (RD X.K) Q _ at h
    by_cases nd : notDct x = true
    · refine .inr ⟨w, δ, rfl, S, L, ?_⟩
      rw [q]
      intro β' H' v x1 S1 r1
      have h := Pst.ext x1 h
      exact ⟨_, δ, rfl, S1, L.ext x1, h.bind fun y w2 u x2 S2 r2 h2 => ⟨w2, x, y, rfl, S2, nd, r1.ext x2, r2, h2.nox (nox_idx _ _ _)⟩⟩
    · refine .inl ⟨w, δ, rfl, S, L, ?_⟩
      rw [q]
      intro β' H' v x1 S1 r1
      have h := Pst.ext x1 h
      refine ⟨_, δ, rfl, S1, L.ext x1, h.bind fun y w2 u x2 S2 r2 h2 => ?_⟩
      cases x <;> first | (exact absurd rfl nd) | skip
      rename_i ks vs
      have r1 := r1.ext x2
      obtain ⟨k, d, hk, hd, h3⟩ := idx_dct h2
      obtain ⟨a, v', e1, g, r3⟩ := dict_sub r1 hk r2 hd
      exact ⟨a, v', e1, g, h3.here S2 r3⟩
  | exc c p st1 =>
    rw [q] at h
    exact .inr ⟨w, δ, rfl, S, L, by rw [q]; exact h⟩
  | bad =>
    rw [q] at h
    exact h.elim
theorem po_noneE : PO X none (TOv X xr cl W .none) :=
  PO.weak po_none fun σ H Q ⟨w, δ, e, S, L, h⟩ => by
    subst e
    simp only [evo] at h
    exact h.here S rfl
theorem po_someE {a : Expr} {a' : E} (ha : PE X a (TEv X xr cl W a')) : PO X (some a) (TOv X xr cl W (.some a')) :=
  PO.weak (po_some ha) fun σ H Q ⟨w, δ, e, S, L, h⟩ => by
    subst e
    simp only [evo] at h
    refine ⟨w, δ, rfl, S, L, h.bind fun x w1 v x1 S1 r1 h1 => ?_⟩
    split at h1
    · cases r1.int_inv
      exact ⟨_, rfl, h1.here S1 rfl⟩
    · exact h1.elim
theorem pe_slE {a : Expr} {lo hi : Option Expr} {a' : E} {lo' hi' : Eo} {p2 pos : Pos} (ha : PE X a (TEv X xr cl W a')) (hl : PO X lo (TOv X xr cl W lo')) (hh : PO X hi (TOv X xr cl W hi')) : PE X (.Subscript a (.Slice lo hi none p2) pos) (TEv X xr cl W (.slc a' lo' hi')) :=
  PE.weak (pe_slice (sl_D (xr := xr)) ha hl hh) fun σ H Q ⟨w, δ, e, S, L, h⟩ => by
    subst e
    simp only [ev, tst] at h
    exact ⟨w, δ, rfl, S, L, h.bind fun x w1 v x1 S1 r1 h1 => ⟨w1, δ, rfl, S1, L.ext x1, h1.bind fun l w2 u x2 S2 r2 h2 => ⟨w2, δ, rfl, S2, (L.ext x1).ext x2, h2.bind fun z w3 y x3 S3 r3 h3 => ⟨w3, x, rfl, S3, (r1.ext x2).ext x3, by subst r2; subst r3; exact h3.nox (nox_slc _ _ _ _)⟩⟩⟩⟩
end
end PV
set_option Elab.async false
set_option linter.all false
set_option maxRecDepth 100000
set_option maxHeartbeats 1000000
/-! PVT: enumerate(tuple). -/
namespace PV
open PySem PySem.Spec PyProof.Rows L2
theorem meets_enumT (l : Addr) (items : Array Value) (n : Nat) (dct : Option Addr) (sl : Array (Option Value)) :
    Meets (Builtin.«enumerate.__new__» ⟨[.type "enumerate", .ref l], []⟩) (fun _ R s => s.heap.get? l = some { cls := .type "tuple", dict := dct, data := .seq items n, slots := sl } ∧
      R (.ok (.ret (.ref (s.heap.push { cls := .type "tuple_iterator", data := .fields #[.ref l, .int 0 0] }).objs.size)))
        { s with heap := (s.heap.push { cls := .type "tuple_iterator", data := .fields #[.ref l, .int 0 0] }).push { cls := .type "enumerate", data := .fields #[.none, .bool false, .ref s.heap.objs.size, rawInt 0, .none, .none] } }) :=
  .of_wp fun prog w A R s h => by
    obtain ⟨hp, g, d, tk, os⟩ := s; obtain ⟨hl, h⟩ := h
    have hsub := sub_enumerate
    have hL : Heap.IsTuple (Shared.heap ⟨hp, g, d, tk, os⟩) l items := ⟨_, hl, rfl, n, rfl⟩
    wp_walk using wpAny_loadPart' hl
    refine wpAny_stack_any fun st => wpAny_pure ?_
    split
    · rename_i c _ _ _ _ _
      cases (c == Value.type "enumerate")
      · wp_walk using wpAny_loadPart' hl, wpAny_pyIter_tuple hL
        exact ⟨_, rfl, h⟩
      · wp_walk using wpAny_loadPart' hl, wpAny_pyIter_tuple hL
        exact ⟨_, rfl, h⟩
    · wp_walk using wpAny_loadPart' hl, wpAny_pyIter_tuple hL
      exact ⟨_, rfl, h⟩
section
variable {prog : Program} {w : World} {A : Around} {E : Value → Shared → Prop} {s : Shared}
theorem call_enumT {l : Addr} {items : Array Value} {Q : Value → Shared → Prop} (hL : s.heap.IsTuple l items)
    (h : ∀ h', IsEnum h' (s.heap.objs.size + 1) s.heap.objs.size 0 .none → h'.IsTupleIter s.heap.objs.size l 0 → h'.objs.size = s.heap.objs.size + 2 →
      (∀ b o, s.heap.get? b = some o → h'.get? b = some o) → Q (.ref (s.heap.objs.size + 1)) { s with heap := h' }) :
    wpAny (model prog w) A (call (.type "enumerate") [.ref l]) Q E s := by
  obtain ⟨⟨c, dct, dt, sl⟩, hl, hc, n, hd⟩ := hL
  replace hc : c = .type "tuple" := hc
  replace hd : dt = .seq items n := hd
  subst hc hd
  refine callType_new F.called_enumerate (by decide) (F.typeCall_enumerate_1 _) (F.newCall_enumerate_1 _) (fun obj => F.args_object_init_2 obj _) F.entry_enumerate_new
    (meets_enumT l items n dct sl) ⟨hl, ?_⟩
  have hz : (s.heap.push { cls := .type "tuple_iterator", data := .fields #[.ref l, .int 0 0] }).objs.size = s.heap.objs.size + 1 := Heap.size_push ..
  show _ ∧ _
  rw [hz]
  have he : IsEnum ((s.heap.push { cls := .type "tuple_iterator", data := .fields #[.ref l, .int 0 0] }).push
      { cls := .type "enumerate", data := .fields #[.none, .bool false, .ref s.heap.objs.size, rawInt 0, .none, .none] }) (s.heap.objs.size + 1) s.heap.objs.size 0 .none := by
    have := Heap.get?_push_size (s.heap.push { cls := .type "tuple_iterator", data := .fields #[.ref l, .int 0 0] })
      (o := { cls := .type "enumerate", data := .fields #[.none, .bool false, .ref s.heap.objs.size, rawInt 0, .none, .none] }) rfl
    rw [hz] at this; exact this
  refine ⟨⟨_, he, rfl⟩, h _ he ⟨_, Heap.get?_push_of_some _ (Heap.get?_push_size _ rfl), rfl, rfl⟩ (by rw [Heap.size_push, hz]) fun b o x => Heap.get?_push_of_some _ (Heap.get?_push_of_some _ x)⟩
end
/-- the tuple at a, each item in a new pair -/
def IteT (K : PySem.W.Frag) (a : Addr) : It :=
  ⟨fun i H => ∃ (xs : List V) (x : V), SqT K H a xs ∧ xs[i]? = some x, fun i H v H' => ∃ T x, v = .ref T ∧ H T = none ∧ H' = upd H T (.tup [.int (i : Nat), x]) ∧ ∀ xs, SqT K H a xs → xs[i]? = some x, fun i H => ∃ xs : List V, SqT K H a xs ∧ xs.length = i⟩
theorem turn_enumT {P : Program} {w : World} {K : PySem.W.Frag} {elts : List Expr} {kk : Nat} {tpos : Pos} (a e it : Addr) :
    Turn P w K (.Tuple elts kk tpos) (IteT K a) [e, it] e (fun i h => (∃ old, IsEnum h e it ((i : Nat) : Int) old) ∧ h.IsTupleIter it a i ∧ e ≠ it) where
  mem := by simp
  obj := fun i h st b hb => by
    obtain ⟨⟨old, he⟩, ⟨o, ho, hc, hd⟩, _⟩ := st
    have e' : b = e ∨ b = it := by simpa using hb
    rcases e' with z | z
    · rw [z]; exact ⟨_, he, fun v q => nomatch q⟩
    · rw [z]; exact ⟨o, ho, fun v q => by rw [hd] at q; cases q⟩
  keep := fun i h h' st k => let ⟨⟨old, he⟩, hi, hne⟩ := st; ⟨⟨old, k e (by simp) _ he⟩, hi.at fun o q => k it (by simp) o q, hne⟩
  item := by
    intro X hP hw hK hc i pins s σ H E I hf st hg
    subst hP hw hK
    obtain ⟨⟨old, he⟩, hit, hne⟩ := st
    obtain ⟨xs, x, hq, hx⟩ := hg
    obtain ⟨its, rv, p, hz⟩ := I.tuple hq
    obtain ⟨u, hu, ru⟩ := rv.get hx
    have hel : e < s.heap.objs.size := Heap.lt_size he
    have hil : it < s.heap.objs.size := by obtain ⟨_, q, _⟩ := hit; exact Heap.lt_size q
    have nt : ∀ b o, s.heap.get? b = some o → o.cls ≠ .type "tuple" → b ≠ a := fun b o h1 h2 z => by
      obtain ⟨o', k1, k2, _⟩ := p
      rw [z, k1] at h1
      cases h1
      exact h2 k2
    have hea : e ≠ a := nt e _ he (by show Value.type "enumerate" ≠ Value.type "tuple"; decide)
    have hia : a ≠ it := by
      obtain ⟨o, ho, hc, hd⟩ := hit
      exact fun z => nt it o ho (by rw [hc]; decide) z.symm
    have D := Draws.tuple (prog := X.prog) (w := X.w) (A := X.A.in1) (show X.A.in1.handled = none from I.ok.hd hc) it a hia its.toArray
    have hlt : i < its.toArray.size := by
      have := (List.getElem?_eq_some_iff.mp hu).1
      simpa using this
    refine wpAny_pyNext_enum_itemD D he ⟨hit, p⟩ hlt hne (by simp [hne, hea]) fun u' h' tk hu' ho hst' hT hsz hk => ?_
    obtain ⟨hit', _⟩ := hst'
    obtain rfl : u = u' := by
      have h1 : its.toArray[i]? = some u' := hu'
      have h2 : its[i]? = some u' := by simpa using h1
      rw [hu] at h2
      injection h2
    refine ⟨_, rfl, wpAny_letOwnedTupleGo_enum (s := { s with heap := h', toks := tk + 1 }) ho fun h'' he' sb => ?_⟩
    have hT2 : h''.get? s.heap.objs.size = some { cls := .type "tuple", data := .seq #[.int i tk, u] } := (sb.2 _ (Nat.ne_of_gt hel)).trans hT
    have new : ObjOk X.prog X.w (upd H s.heap.objs.size (.tup [.int (i : Nat), x])) h'' s.heap.objs.size (.tup [.int (i : Nat), x]) :=
      ⟨by show 2 ≤ sizeLine; decide, [.int i tk, u], .cons ⟨_, rfl⟩ (.cons ru .nil), ⟨_, hT2, rfl, _, rfl⟩⟩
    have I1 : Inv X pins σ (upd H s.heap.objs.size (.tup [.int (i : Nat), x])) { s with heap := h'', toks := tk + 1 } :=
      I.turnedNew (ch := [e, it]) (fun b ob hb q => (sb.2 b (fun z => hb (by simp [z]))).trans (hk b ob (fun z => hb (by simp [z])) (fun z => hb (by simp [z])) q)) hf (Nat.le_refl _) new
    refine ⟨.ref s.heap.objs.size, _, I1, rfl, ⟨_, x, rfl, I.hok.fresh (Nat.le_refl _), rfl, fun ys hy => by rw [I.tuple_inj hy hq]; exact hx⟩, ⟨⟨u, ?_⟩, hit'.at fun o q => (sb.2 it (Ne.symm hne)).trans q, hne⟩, fun b hb => ?_⟩
    · have e1 : ((i + 1 : Nat) : Int) = (i : Int) + 1 := by omega
      rw [e1]; exact he'
    · have hb' : b < s.heap.objs.size := by
        have e' : b = e ∨ b = it := by simpa using hb
        rcases e' with z | z
        · rw [z]; exact hel
        · rw [z]; exact hil
      rw [upd_ne (Nat.ne_of_lt hb')]
      exact (hf b hb).1
  done := by
    intro X hP hw hK hc i pins s σ H E I hf st hg
    subst hP hw hK
    obtain ⟨⟨old, he⟩, hit, hne⟩ := st
    obtain ⟨xs, hq, hx⟩ := hg
    obtain ⟨its, rv, p, hz⟩ := I.tuple hq
    obtain ⟨f0, f1, f2, f3, f4, f5⟩ := hf it (by simp)
    have hl := rv.length
    have hia : a ≠ it := by
      obtain ⟨o, ho, hc, hd⟩ := hit
      intro z
      obtain ⟨o', k1, k2, _⟩ := p
      rw [z, ho] at k1
      cases k1
      rw [hc] at k2
      exact absurd k2 (by decide)
    have D := Draws.tuple (prog := X.prog) (w := X.w) (A := X.A.in1) (show X.A.in1.handled = none from I.ok.hd hc) it a hia its.toArray
    have ei : i = its.toArray.size := by simp; omega
    rw [ei] at hit
    exact wpAny_pyNext_enum_endD D he ⟨hit, p⟩ fun h' eb => ⟨rfl, I.turned (t' := s.toks) (fun b o hb q => eb b o hb q) f0 f1 f3 f4 f5⟩
  self := fun A i s Q E st h => let ⟨⟨_, he⟩, _⟩ := st; wpAny_pyIter_enum he h
def iEnumT (K : PySem.W.Frag) (ta : TA) : TI := fun σ H R => ta σ H fun vs H1 => ∃ a xs, vs = [.ref a] ∧ SqT K H1 a xs ∧ R (IteT K a) H1
theorem pi_enumT {X : Cx} {e : Expr} {ta : TA} {p pos tpos : Pos} {elts : List Expr} {kk : Nat} (hg : Gl X "enumerate") (hm : X.mg "enumerate" = none) (ha : PA X [e] ta) (hs : starEach [e] X.env = [(false, eval e X.env)]) :
    PI X (.Tuple elts kk tpos) (.Call (.Name "enumerate" p) [e] [] pos) (iEnumT X.K ta) := by
  refine ⟨fun pins s σ H R I h => ?_⟩
  refine Call_ (ld_blt I hg hm boot_enumerate (PyProof.Rows.callWith_type1 (thn (ha.run pos pins s σ H _ I h) fun us s1 ⟨vs, H1, I1, r1, q1⟩ => ?_) hs rfl))
  obtain ⟨a, xs, ex, hq, q⟩ := q1
  subst ex
  cases r1 with
  | cons r rr =>
    cases rr
    cases r
    obtain ⟨its, rv, p', hz⟩ := I1.tuple hq
    refine call_enumT p' fun h' he hit hsz hk => wpAny_pyIter_enum he ?_
    have I2 : Inv X pins σ H1 { s1 with heap := h' } := I1.kept (t' := s1.toks) hk
    refine ⟨s1.heap.objs.size + 1, [s1.heap.objs.size + 1, s1.heap.objs.size], _, _, H1, rfl, I2, turn_enumT a (s1.heap.objs.size + 1) s1.heap.objs.size, ⟨⟨.none, he⟩, hit, Nat.succ_ne_self _⟩, fun b hb => ?_, q⟩
    have e' : b = s1.heap.objs.size + 1 ∨ b = s1.heap.objs.size := by simpa using hb
    have hle : s1.heap.objs.size ≤ b := by
      rcases e' with z | z
      · rw [z]; exact Nat.le_add_right _ _
      · rw [z]; exact Nat.le_refl _
    exact I1.fpOk hle (I1.hok.fresh hle)
end PV
set_option Elab.async false
set_option linter.all false
set_option maxRecDepth 100000
set_option maxHeartbeats 1000000
/-! PV12: calls; what is walked. -/
namespace PV
open PySem PySem.Spec PyProof.Rows L2
/-! ### enumerate(text) -/
def IteS (x : Str) : It := ⟨fun i _ => i < x.cps.size, fun i H v H' => ∃ T c, v = .ref T ∧ H T = none ∧ H' = upd H T (.tup [.int (i : Nat), .str ⟨#[c]⟩]) ∧ x.cps[i]? = some c, fun i _ => i = x.cps.size⟩
theorem turn_enumS {P : Program} {w : World} {K : PySem.W.Frag} {elts : List Expr} {kk : Nat} {tpos : Pos} (e it : Addr) (x : Str) (t : Tok) (ty : String) (hty : ty = "str_ascii_iterator" ∨ ty = "str_iterator") :
    Turn P w K (.Tuple elts kk tpos) (IteS x) [e, it] e (fun i h => (∃ old, IsEnum h e it ((i : Nat) : Int) old) ∧ h.IsStrIter it ty x t i ∧ e ≠ it) where
  mem := by simp
  obj := fun i h st b hb => by
    obtain ⟨⟨old, he⟩, ⟨o, ho, hc, hd⟩, _⟩ := st
    have e' : b = e ∨ b = it := by simpa using hb
    rcases e' with z | z
    · rw [z]; exact ⟨_, he, fun v q => nomatch q⟩
    · rw [z]; exact ⟨o, ho, fun v q => by rw [hd] at q; cases q⟩
  keep := fun i h h' st k => by
    obtain ⟨⟨old, he⟩, ⟨o, ho, r⟩, hne⟩ := st
    exact ⟨⟨old, k e (by simp) _ he⟩, ⟨o, k it (by simp) _ ho, r⟩, hne⟩
  item := by
    intro X hP hw hK hc i pins s σ H E I hf st hg
    subst hP hw hK
    obtain ⟨⟨old, he⟩, hit, hne⟩ := st
    have D : Draws X.prog X.w X.A.in1 it [it] x.cps.size (fun i v => ∃ c u, x.cps[i]? = some c ∧ v = .str ⟨#[c]⟩ u) (fun i h => h.IsStrIter it ty x t i) := by
      rcases hty with e | e
      · rw [e]; exact Draws.strAscii (show X.A.in1.handled = none from I.ok.hd hc) it x t
      · rw [e]; exact Draws.strWide (show X.A.in1.handled = none from I.ok.hd hc) it x t
    have hel : e < s.heap.objs.size := Heap.lt_size he
    have hil : it < s.heap.objs.size := by obtain ⟨_, q, _⟩ := hit; exact Heap.lt_size q
    refine wpAny_pyNext_enum_itemD D he hit hg hne (by simpa using hne) fun u h' tk hu ho hit' hT hsz hk => ?_
    obtain ⟨c, uk, hcx, rfl⟩ := hu
    refine ⟨_, rfl, wpAny_letOwnedTupleGo_enum (s := { s with heap := h', toks := tk + 1 }) ho fun h'' he' sb => ?_⟩
    have hT2 : h''.get? s.heap.objs.size = some { cls := .type "tuple", data := .seq #[.int i tk, .str ⟨#[c]⟩ uk] } := (sb.2 _ (Nat.ne_of_gt hel)).trans hT
    have new : ObjOk X.prog X.w (upd H s.heap.objs.size (.tup [.int (i : Nat), .str ⟨#[c]⟩])) h'' s.heap.objs.size (.tup [.int (i : Nat), .str ⟨#[c]⟩]) :=
      ⟨by show 2 ≤ sizeLine; decide, [.int i tk, .str ⟨#[c]⟩ uk], .cons ⟨_, rfl⟩ (.cons ⟨_, rfl⟩ .nil), ⟨_, hT2, rfl, _, rfl⟩⟩
    have I1 : Inv X pins σ (upd H s.heap.objs.size (.tup [.int (i : Nat), .str ⟨#[c]⟩])) { s with heap := h'', toks := tk + 1 } :=
      I.turnedNew (ch := [e, it]) (fun b ob hb q => (sb.2 b (fun z => hb (by simp [z]))).trans (hk b ob (fun z => hb (by simp [z])) (fun z => hb (by simp [z])) q)) hf (Nat.le_refl _) new
    refine ⟨.ref s.heap.objs.size, _, I1, rfl, ⟨_, c, rfl, I.hok.fresh (Nat.le_refl _), rfl, hcx⟩, ⟨⟨.str ⟨#[c]⟩ uk, ?_⟩, ?_, hne⟩, fun b hb => ?_⟩
    · have e1 : ((i + 1 : Nat) : Int) = (i : Int) + 1 := by omega
      rw [e1]; exact he'
    · obtain ⟨o, ho, r⟩ := hit'
      exact ⟨o, (sb.2 it (Ne.symm hne)).trans ho, r⟩
    · have hb' : b < s.heap.objs.size := by
        have e' : b = e ∨ b = it := by simpa using hb
        rcases e' with z | z
        · rw [z]; exact hel
        · rw [z]; exact hil
      rw [upd_ne (Nat.ne_of_lt hb')]
      exact (hf b hb).1
  done := by
    intro X hP hw hK hc i pins s σ H E I hf st hg
    subst hP hw hK
    obtain ⟨⟨old, he⟩, hit, hne⟩ := st
    have hh := I.ok.hd hc
    obtain ⟨f0, f1, f2, f3, f4, f5⟩ := hf it (by simp)
    have hg : i = x.cps.size := hg
    have D : Draws X.prog X.w X.A.in1 it [it] x.cps.size (fun i v => ∃ c u, x.cps[i]? = some c ∧ v = .str ⟨#[c]⟩ u) (fun i h => h.IsStrIter it ty x t i) := by
      rcases hty with e | e
      · rw [e]; exact Draws.strAscii (show X.A.in1.handled = none from I.ok.hd hc) it x t
      · rw [e]; exact Draws.strWide (show X.A.in1.handled = none from I.ok.hd hc) it x t
    rw [hg] at hit
    exact wpAny_pyNext_enum_endD D he hit fun h' eb => ⟨rfl, I.turned (t' := s.toks) (fun b o hb q => eb b o hb q) f0 f1 f3 f4 f5⟩
  self := fun A i s Q E st h => let ⟨⟨_, he⟩, _⟩ := st; wpAny_pyIter_enum he h
def iEnumS (ta : TA) : TI := fun σ H R => ta σ H fun vs H1 => ∃ x, vs = [.str x] ∧ R (IteS x) H1
theorem pi_enumS {X : Cx} {e : Expr} {ta : TA} {p pos tpos : Pos} {elts : List Expr} {kk : Nat} (hg : Gl X "enumerate") (hm : X.mg "enumerate" = none) (ha : PA X [e] ta) (hs : starEach [e] X.env = [(false, eval e X.env)]) :
    PI X (.Tuple elts kk tpos) (.Call (.Name "enumerate" p) [e] [] pos) (iEnumS ta) := by
  refine ⟨fun pins s σ H R I h => ?_⟩
  refine Call_ (ld_blt I hg hm boot_enumerate (PyProof.Rows.callWith_type1 (thn (ha.run pos pins s σ H _ I h) fun us s1 ⟨vs, H1, I1, r1, q1⟩ => ?_) hs rfl))
  obtain ⟨x, ex, q⟩ := q1
  subst ex
  cases r1 with
  | cons r rr =>
    cases rr
    obtain ⟨t, rfl⟩ := r
    refine call_enumerate_str fun h' he hit hsz hk => wpAny_pyIter_enum he ?_
    have I2 : Inv X pins σ H1 { s1 with heap := h' } := I1.kept (t' := s1.toks) hk
    refine ⟨s1.heap.objs.size + 1, [s1.heap.objs.size + 1, s1.heap.objs.size], _, _, H1, rfl, I2, turn_enumS (s1.heap.objs.size + 1) s1.heap.objs.size x t (strIterType x) ?_, ⟨⟨.none, he⟩, hit, Nat.succ_ne_self _⟩, fun b hb => ?_, q⟩
    · unfold strIterType
      split
      · exact .inl rfl
      · exact .inr rfl
    have e' : b = s1.heap.objs.size + 1 ∨ b = s1.heap.objs.size := by simpa using hb
    have hle : s1.heap.objs.size ≤ b := by
      rcases e' with z | z
      · rw [z]; exact Nat.le_add_right _ _
      · rw [z]; exact Nat.le_refl _
    exact I1.fpOk hle (I1.hok.fresh hle)
end PV
namespace PV
open PySem PySem.Spec PyProof.Rows L2
variable {K : PySem.W.Frag}
/-! ### what is walked gives ds, from w0 on -/
def JOk (K : PySem.W.Frag) (w0 : Wd) (J : It) (ds : List D) : Prop := ∀ w, Mv w0 w → StoOk K w → (∀ i, i < ds.length → J.go i w.H) ∧ J.stop ds.length w.H ∧ ∀ i x H', i < ds.length → J.yld i w.H x H' →
  ∃ d, ds[i]? = some d ∧ Ext w ⟨w.β, w.st, H', w.ho⟩ ∧ StoOk K ⟨w.β, w.st, H', w.ho⟩ ∧ RD K ⟨w.β, w.st, H', w.ho⟩ d x
theorem JOk.mv {w0 w1 : Wd} {J : It} {ds : List D} (h : JOk K w0 J ds) (x : Mv w0 w1) : JOk K w1 J ds := fun w y S => h w (x.trans y) S
/-- the heap as it was -/
theorem jok_same {w0 : Wd} {J : It} {ds : List D} (h : ∀ w, Mv w0 w → StoOk K w → (∀ i, i < ds.length → J.go i w.H) ∧ J.stop ds.length w.H ∧ ∀ i x H', i < ds.length → J.yld i w.H x H' → H' = w.H ∧ ∃ d, ds[i]? = some d ∧ RD K w d x) : JOk K w0 J ds := fun w x S => by
  obtain ⟨h1, h2, h3⟩ := h w x S
  refine ⟨h1, h2, fun i y H' hi q => ?_⟩
  obtain ⟨rfl, d, e, r⟩ := h3 i y H' hi q
  exact ⟨d, e, Ext.refl w, S, r⟩
/-- each in a new pair -/
theorem jok_pair {w0 : Wd} {J : It} {ds : List D} (h : ∀ w, Mv w0 w → StoOk K w → (∀ i, i < ds.length → J.go i w.H) ∧ J.stop ds.length w.H ∧ ∀ i v H', i < ds.length → J.yld i w.H v H' →
    ∃ T x y d e, v = .ref T ∧ w.H T = none ∧ H' = upd w.H T (.tup [x, y]) ∧ ds[i]? = some (.tup false [d, e]) ∧ RD K w d x ∧ RD K w e y) : JOk K w0 J ds := fun w x S => by
  obtain ⟨h1, h2, h3⟩ := h w x S
  refine ⟨h1, h2, fun i y H' hi q => ?_⟩
  obtain ⟨T, a, b, d, e, rfl, hT, rfl, hd, r1, r2⟩ := h3 i y H' hi q
  exact ⟨_, hd, Ext.new hT, S.new hT, .newTup S hT (.cons r1 (.cons r2 .nil))⟩
theorem jok_lst {w0 : Wd} {ds : List D} {a : Addr} (r : RD K w0 (.lst ds) (.ref a)) : JOk K w0 (Itl K a) ds := jok_same fun w x S => by
  obtain ⟨b, xs, e, h1, _, h2⟩ := (r.mv x).lst_inv
  cases e
  have hl := h2.length
  refine ⟨fun i hi => ⟨xs, xs[i]'(by omega), .of h1, by simp [show i < xs.length by omega]⟩, ⟨xs, .of h1, by omega⟩, fun i y H' hi q => ⟨q.1, ?_⟩⟩
  exact h2.get' (q.2 xs (.of h1))
theorem jok_tup {w0 : Wd} {k : Bool} {ds : List D} {a : Addr} (r : RD K w0 (.tup k ds) (.ref a)) : JOk K w0 (Itt K a) ds := jok_same fun w x S => by
  obtain ⟨b, xs, e, h1, h2⟩ := (r.mv x).tup_inv
  cases e
  have hl := h2.length
  refine ⟨fun i hi => ⟨xs, xs[i]'(by omega), h1, by simp [show i < xs.length by omega]⟩, ⟨xs, h1, by omega⟩, fun i y H' hi q => ⟨q.1, ?_⟩⟩
  exact h2.get' (q.2 xs h1)
theorem jok_str {w0 : Wd} {s : List Nat} : JOk K w0 (Its ⟨s.toArray⟩) (s.map fun c => .str [c]) := jok_same fun w x S => by
  refine ⟨fun i hi => by show i < (s.toArray).size; simpa using hi, by show (s.toArray).size ≤ _; simp, fun i y H' hi q => ⟨q.1, ?_⟩⟩
  obtain ⟨c, h1, h2⟩ := q.2
  subst h2
  refine ⟨.str [c], ?_, .str⟩
  have : s[i]? = some c := by simpa using h1
  simp [this]
theorem rangeD_get : ∀ (n i : Nat) (lo : Int), i < n → (rangeD lo n)[i]? = some (.int (lo + i))
  | 0, i, lo, h => by omega
  | n + 1, 0, lo, h => by simp [rangeD]
  | n + 1, i + 1, lo, h => by
    simp only [rangeD, List.getElem?_cons_succ]
    rw [rangeD_get n i (lo + 1) (by omega)]
    congr 2
    omega
theorem rangeD_len : ∀ (n : Nat) (lo : Int), (rangeD lo n).length = n
  | 0, _ => rfl
  | n + 1, lo => by simp [rangeD, rangeD_len n]
theorem jok_rng {w0 : Wd} {lo : Int} {n : Nat} : JOk K w0 (Itr lo n) (rangeD lo n) := jok_same fun w x S => by
  rw [rangeD_len]
  refine ⟨fun i hi => hi, Nat.le_refl _, fun i y H' hi q => ⟨q.1, ?_⟩⟩
  obtain ⟨_, rfl⟩ := q
  exact ⟨_, rangeD_get n i lo hi, .int⟩
theorem enumD_get : ∀ (ds : List D) (i : Nat) (lo : Int) (d : D), ds[i]? = some d → (enumD lo ds)[i]? = some (.tup false [.int (lo + i), d])
  | [], i, lo, d, h => by simp at h
  | e :: ds, 0, lo, d, h => by simp at h; subst h; simp [enumD]
  | e :: ds, i + 1, lo, d, h => by
    simp only [enumD, List.getElem?_cons_succ]
    rw [enumD_get ds i (lo + 1) d (by simpa using h)]
    congr 4
    omega
theorem enumD_len : ∀ (ds : List D) (lo : Int), (enumD lo ds).length = ds.length
  | [], _ => rfl
  | _ :: ds, lo => by simp [enumD, enumD_len ds]
theorem jok_enumL {w0 : Wd} {ds : List D} {a : Addr} (r : RD K w0 (.lst ds) (.ref a)) : JOk K w0 (Ite K a) (enumD 0 ds) := jok_pair fun w x S => by
  obtain ⟨b, xs, e, h1, _, h2⟩ := (r.mv x).lst_inv
  cases e
  rw [enumD_len]
  have hl := h2.length
  refine ⟨fun i hi => ⟨xs, xs[i]'(by omega), .of h1, by simp [show i < xs.length by omega]⟩, ⟨xs, .of h1, by omega⟩, fun i v H' hi q => ?_⟩
  obtain ⟨T, y, rfl, hT, rfl, g⟩ := q
  obtain ⟨d, e1, r1⟩ := h2.get' (g xs (.of h1))
  exact ⟨T, _, y, _, d, rfl, hT, rfl, enumD_get ds i 0 d e1, by simpa using (RD.int (K := K) (w := w) (i := (i : Int))), r1⟩
theorem jok_enumT {w0 : Wd} {k : Bool} {ds : List D} {a : Addr} (r : RD K w0 (.tup k ds) (.ref a)) : JOk K w0 (IteT K a) (enumD 0 ds) := jok_pair fun w x S => by
  obtain ⟨b, xs, e, h1, h2⟩ := (r.mv x).tup_inv
  cases e
  rw [enumD_len]
  have hl := h2.length
  refine ⟨fun i hi => ⟨xs, xs[i]'(by omega), h1, by simp [show i < xs.length by omega]⟩, ⟨xs, h1, by omega⟩, fun i v H' hi q => ?_⟩
  obtain ⟨T, y, rfl, hT, rfl, g⟩ := q
  obtain ⟨d, e1, r1⟩ := h2.get' (g xs h1)
  exact ⟨T, _, y, _, d, rfl, hT, rfl, enumD_get ds i 0 d e1, by simpa using (RD.int (K := K) (w := w) (i := (i : Int))), r1⟩
theorem jok_enumS {w0 : Wd} {s : List Nat} : JOk K w0 (IteS ⟨s.toArray⟩) (enumD 0 (s.map fun c => .str [c])) := jok_pair fun w x S => by
  rw [enumD_len]
  refine ⟨fun i hi => by show i < (s.toArray).size; simpa using hi, by show _ = (s.toArray).size; simp, fun i v H' hi q => ?_⟩
  obtain ⟨T, c, rfl, hT, rfl, g⟩ := q
  have g : s[i]? = some c := by simpa using g
  exact ⟨T, _, _, _, .str [c], rfl, hT, rfl, enumD_get _ i 0 _ (by simp [g]), by simpa using (RD.int (K := K) (w := w) (i := (i : Int))), .str⟩
theorem zipD_get : ∀ (xs ys : List D) (i : Nat) (x y : D), xs[i]? = some x → ys[i]? = some y → (zipD xs ys)[i]? = some (.tup false [x, y])
  | [], _, i, _, _, h, _ => by simp at h
  | _ :: _, [], i, _, _, _, h => by simp at h
  | a :: xs, b :: ys, 0, x, y, h, h2 => by simp at h h2; subst h; subst h2; simp [zipD]
  | a :: xs, b :: ys, i + 1, x, y, h, h2 => by
    simp only [zipD, List.getElem?_cons_succ]
    exact zipD_get xs ys i x y (by simpa using h) (by simpa using h2)
theorem zipD_len : ∀ (xs ys : List D), (zipD xs ys).length = min xs.length ys.length
  | [], _ => by simp [zipD]
  | _ :: _, [] => by simp [zipD]
  | _ :: xs, _ :: ys => by simp [zipD, zipD_len xs ys]
theorem jok_zipL {w0 : Wd} {ds es : List D} {a b : Addr} (r : RD K w0 (.lst ds) (.ref a)) (r' : RD K w0 (.lst es) (.ref b)) : JOk K w0 (Itz K a b) (zipD ds es) := jok_pair fun w x S => by
  obtain ⟨a', xs, e, h1, _, h2⟩ := (r.mv x).lst_inv
  cases e
  obtain ⟨b', ys, e, k1, _, k2⟩ := (r'.mv x).lst_inv
  cases e
  rw [zipD_len]
  have hl := h2.length
  have kl := k2.length
  refine ⟨fun i hi => ⟨xs, ys, xs[i]'(by omega), ys[i]'(by omega), .of h1, .of k1, by simp [show i < xs.length by omega], by simp [show i < ys.length by omega]⟩, ⟨xs, ys, .of h1, .of k1, by omega⟩, fun i v H' hi q => ?_⟩
  obtain ⟨T, y, z, rfl, hT, rfl, g, g'⟩ := q
  obtain ⟨d, e1, r1⟩ := h2.get' (g xs (.of h1))
  obtain ⟨d', e2, r2⟩ := k2.get' (g' ys (.of k1))
  exact ⟨T, y, z, d, d', rfl, hT, rfl, zipD_get _ _ i _ _ e1 e2, r1, r2⟩
theorem jok_zipT {w0 : Wd} {k k' : Bool} {ds es : List D} {a b : Addr} (r : RD K w0 (.tup k ds) (.ref a)) (r' : RD K w0 (.tup k' es) (.ref b)) : JOk K w0 (RZ.ItzT K a b) (zipD ds es) := jok_pair fun w x S => by
  obtain ⟨a', xs, e, h1, h2⟩ := (r.mv x).tup_inv
  cases e
  obtain ⟨b', ys, e, k1, k2⟩ := (r'.mv x).tup_inv
  cases e
  rw [zipD_len]
  have hl := h2.length
  have kl := k2.length
  refine ⟨fun i hi => ⟨xs, ys, xs[i]'(by omega), ys[i]'(by omega), h1, k1, by simp [show i < xs.length by omega], by simp [show i < ys.length by omega]⟩, ⟨xs, ys, h1, k1, by omega⟩, fun i v H' hi q => ?_⟩
  obtain ⟨T, y, z, rfl, hT, rfl, g, g'⟩ := q
  obtain ⟨d, e1, r1⟩ := h2.get' (g xs h1)
  obtain ⟨d', e2, r2⟩ := k2.get' (g' ys k1)
  exact ⟨T, y, z, d, d', rfl, hT, rfl, zipD_get _ _ i _ _ e1 e2, r1, r2⟩
def TIv (X : Cx) (xr : XR) (cl : Nat → List D → Sto → R D) (W : WX) (it : I) : TI := fun σ H R => ∃ (w : Wd) (δ : Sl), w.H = H ∧ StoOk X.K w ∧ LR X.K w δ σ ∧ Pst X.K xr w (evI cl it δ w.st) (fun w' ds J => JOk X.K w' J ds) R fun c d H' => W c d σ H'
section
variable {X : Cx} {xr : XR} {cl : Nat → List D → Sto → R D} {W : WX}
theorem PI.or {tg e : Expr} {t u : TI} (h : PI X tg e t) (h' : PI X tg e u) : PI X tg e (fun σ H R => t σ H R ∨ u σ H R) :=
  ⟨fun pins s σ H R I q => q.elim (h.run pins s σ H R I) (h'.run pins s σ H R I)⟩
theorem pi_bad {tg e : Expr} {it : I} (h : ∀ δ st, evI cl it δ st = .bad) : PI X tg e (TIv X xr cl W it) := ⟨fun pins s σ H R I ⟨w, δ, _, _, _, q⟩ => by rw [h] at q; exact q.elim⟩
theorem seqOf_str {z : List Nat} (f : fits z.length = true) : seqOf (.str z) = some (z.map fun c => .str [c]) := by simp [seqOf, f]
theorem seqOf_no {z : List Nat} (f : ¬ fits z.length = true) : seqOf (.str z) = none := by simp [seqOf, f]
theorem pi_ofE {tg e : Expr} {e' : E} (he : PE X e (TEv X xr cl W e')) : PI X tg e (TIv X xr cl W (.of e')) := by
  refine PI.weak (PI.or (PI.or (pi_list he) (pi_tup he)) (pi_str he)) fun σ H R ⟨w, δ, e, S, L, h⟩ => ?_
  subst e
  simp only [evI] at h
  cases q : ev cl e' false δ w.st with
  | ok d st1 =>
    rw [q] at h
    change Pst X.K xr w (match seqOf d with
      | some ds => PV.R.ok ds st1
      | none => .bad) _ _ _ at h
    cases d with
    | lst ds =>
      refine .inl (.inl ⟨w, δ, rfl, S, L, ?_⟩)
      rw [q]
      intro β' H' v x1 S1 r1
      obtain ⟨a, xs, rfl, h1, _, h2⟩ := r1.lst_inv
      exact ⟨a, rfl, ⟨xs, .of h1⟩, h β' H' _ x1 S1 (jok_lst r1)⟩
    | tup k ds =>
      refine .inl (.inr ⟨w, δ, rfl, S, L, ?_⟩)
      rw [q]
      intro β' H' v x1 S1 r1
      obtain ⟨a, xs, rfl, h1, h2⟩ := r1.tup_inv
      exact ⟨a, rfl, ⟨xs, h1⟩, h β' H' _ x1 S1 (jok_tup r1)⟩
    | str z =>
      refine .inr ⟨w, δ, rfl, S, L, ?_⟩
      rw [q]
      intro β' H' v x1 S1 r1
      cases r1.str_inv
      refine ⟨_, rfl, ?_⟩
      by_cases f : fits z.length = true
      · rw [seqOf_str f] at h
        exact h β' H' _ x1 S1 jok_str
      · rw [seqOf_no f] at h
        exact h.elim
    | _ => exact h.elim
  | exc c p st1 =>
    rw [q] at h
    exact .inl (.inl ⟨w, δ, rfl, S, L, by rw [q]; exact h⟩)
  | bad =>
    rw [q] at h
    exact h.elim
theorem okR_spec {i : Int} (h : okR i = true) : -(2 ^ 62) ≤ i ∧ i < 2 ^ 62 := by
  unfold okR at h
  simp only [Bool.and_eq_true, decide_eq_true_eq] at h
  have := h.1
  have := h.2
  constructor <;> omega
theorem pi_rngE {tg a : Expr} {a' : E} {p pos : Pos} (hg : Gl X "range") (hm : X.mg "range" = none) (hs : noStar a = true) (ha : PE X a (TEv X xr cl W a')) : PI X tg (.Call (.Name "range" p) [a] [] pos) (TIv X xr cl W (.rng a')) := by
  have s1 : starEach [a] X.env = [(false, eval a X.env)] := by rw [star_one hs]; unfold starEach; rfl
  refine PI.weak (pi_range1 hg hm (pa_cons ha pa_nil (star_one hs)) s1) fun σ H R ⟨w, δ, e, S, L, h⟩ => ?_
  subst e
  simp only [evI] at h
  refine ⟨w, δ, rfl, S, L, h.bind fun x w1 v x1 S1 r1 h1 => ?_⟩
  split at h1
  · split at h1
    · rename_i c
      cases r1.int_inv
      obtain ⟨q1, q2⟩ := okR_spec c
      exact ⟨_, rfl, q1, q2, h1.here S1 jok_rng⟩
    · exact h1.elim
  · exact h1.elim
theorem pi_rng2E {tg a b : Expr} {a' b' : E} {p pos : Pos} (hg : Gl X "range") (hm : X.mg "range" = none) (hs : noStar a = true) (hs2 : noStar b = true) (ha : PE X a (TEv X xr cl W a')) (hb : PE X b (TEv X xr cl W b')) : PI X tg (.Call (.Name "range" p) [a, b] [] pos) (TIv X xr cl W (.rng2 a' b')) := by
  have s2 : starEach [b] X.env = [(false, eval b X.env)] := by rw [star_one hs2]; unfold starEach; rfl
  have s1 : starEach [a, b] X.env = [(false, eval a X.env), (false, eval b X.env)] := by rw [star_one hs, s2]
  refine PI.weak (pi_range2 hg hm (pa_cons ha (pa_cons hb pa_nil (star_one hs2)) (star_one hs)) s1 s2) fun σ H R ⟨w, δ, e, S, L, h⟩ => ?_
  subst e
  simp only [evI] at h
  refine ⟨w, δ, rfl, S, L, h.bind fun x w1 v x1 S1 r1 h1 => ⟨w1, δ, rfl, S1, L.ext x1, h1.bind fun y w2 u x2 S2 r2 h2 => ?_⟩⟩
  have r1 := r1.ext x2
  split at h2
  · split at h2
    · rename_i c
      cases r1.int_inv
      cases r2.int_inv
      rw [Bool.and_eq_true] at c
      obtain ⟨q1, q2⟩ := okR_spec c.1
      obtain ⟨q3, q4⟩ := okR_spec c.2
      exact ⟨_, _, rfl, ⟨q1, q2, q3, q4⟩, h2.here S2 jok_rng⟩
    · exact h2.elim
  · exact h2.elim
theorem seqE_str {z : List Nat} (f : fits z.length = true) : seqE (.str z) = some (z.map fun c => .str [c]) := by simp [seqE, f]
theorem seqE_no {z : List Nat} (f : ¬ fits z.length = true) : seqE (.str z) = none := by simp [seqE, f]
theorem pi_enumE {a : Expr} {a' : E} {p pos tpos : Pos} {elts : List Expr} {kk : Nat} (hg : Gl X "enumerate") (hm : X.mg "enumerate" = none) (hs : noStar a = true) (ha : PE X a (TEv X xr cl W a')) : PI X (.Tuple elts kk tpos) (.Call (.Name "enumerate" p) [a] [] pos) (TIv X xr cl W (.enum a')) := by
  have s1 : starEach [a] X.env = [(false, eval a X.env)] := by rw [star_one hs]; unfold starEach; rfl
  refine PI.weak (PI.or (PI.or (pi_enum hg hm (pa_cons ha pa_nil (star_one hs)) s1) (pi_enumS hg hm (pa_cons ha pa_nil (star_one hs)) s1)) (pi_enumT hg hm (pa_cons ha pa_nil (star_one hs)) s1)) fun σ H R ⟨w, δ, e, S, L, h⟩ => ?_
  subst e
  simp only [evI] at h
  cases q : ev cl a' false δ w.st with
  | ok d st1 =>
    rw [q] at h
    change Pst X.K xr w (match seqE d with
      | some ds => PV.R.ok (enumD 0 ds) st1
      | none => .bad) _ _ _ at h
    cases d with
    | tup k ds =>
      refine .inr ⟨w, δ, rfl, S, L, ?_⟩
      rw [q]
      intro β' H' v x1 S1 r1
      obtain ⟨a, xs, rfl, h1, h2⟩ := r1.tup_inv
      exact ⟨a, xs, rfl, h1, h β' H' _ x1 S1 (jok_enumT r1)⟩
    | lst ds =>
      refine .inl (.inl ⟨w, δ, rfl, S, L, ?_⟩)
      rw [q]
      intro β' H' v x1 S1 r1
      obtain ⟨a, xs, rfl, h1, _, h2⟩ := r1.lst_inv
      exact ⟨a, xs, rfl, .of h1, h β' H' _ x1 S1 (jok_enumL r1)⟩
    | str z =>
      refine .inl (.inr ⟨w, δ, rfl, S, L, ?_⟩)
      rw [q]
      intro β' H' v x1 S1 r1
      cases r1.str_inv
      refine ⟨_, rfl, ?_⟩
      by_cases f : fits z.length = true
      · rw [seqE_str f] at h
        exact h β' H' _ x1 S1 jok_enumS
      · rw [seqE_no f] at h
        exact h.elim
    | _ => exact h.elim
  | exc c p st1 =>
    rw [q] at h
    exact .inl (.inl ⟨w, δ, rfl, S, L, by rw [q]; exact h⟩)
  | bad =>
    rw [q] at h
    exact h.elim
theorem pi_zipE {a b : Expr} {a' b' : E} {p pos tpos : Pos} {elts : List Expr} {kk : Nat} (hg : Gl X "zip") (hm : X.mg "zip" = none) (hs : noStar a = true) (hs2 : noStar b = true) (ha : PE X a (TEv X xr cl W a')) (hb : PE X b (TEv X xr cl W b')) : PI X (.Tuple elts kk tpos) (.Call (.Name "zip" p) [a, b] [] pos) (TIv X xr cl W (.zip a' b')) := by
  have s2 : starEach [b] X.env = (false, eval b X.env) :: starEach [] X.env := star_one hs2
  refine PI.weak (RZ.pi_zipA hg hm (pa_cons ha (pa_cons hb pa_nil (star_one hs2)) (star_one hs)) (star_one hs) (by rw [s2]; unfold starEach; rfl)) fun σ H R ⟨w, δ, e, S, L, h⟩ => ?_
  subst e
  simp only [evI] at h
  refine ⟨w, δ, rfl, S, L, h.bind fun x w1 v x1 S1 r1 h1 => ⟨w1, δ, rfl, S1, L.ext x1, h1.bind fun y w2 u x2 S2 r2 h2 => ?_⟩⟩
  have r1 := r1.ext x2
  split at h2
  · rename_i ds e1
    unfold zipS at e1
    split at e1
    · injection e1 with e1
      subst e1
      obtain ⟨a, xs, rfl, k1, _, k2⟩ := r1.lst_inv
      obtain ⟨b, ys, rfl, m1, _, m2⟩ := r2.lst_inv
      exact ⟨a, b, xs, ys, rfl, .inl ⟨.of k1, .of m1, h2.here S2 (jok_zipL r1 r2)⟩⟩
    · injection e1 with e1
      subst e1
      obtain ⟨a, xs, rfl, k1, k2⟩ := r1.tup_inv
      obtain ⟨b, ys, rfl, m1, m2⟩ := r2.tup_inv
      exact ⟨a, b, xs, ys, rfl, .inr ⟨k1, m1, h2.here S2 (jok_zipT r1 r2)⟩⟩
    · cases e1
  · exact h2.elim
end
end PV
set_option Elab.async false
set_option linter.all false
set_option maxRecDepth 100000
set_option maxHeartbeats 1000000
/-! PV13: targets, calls, comprehensions. -/
namespace PV
open PySem PySem.Spec PyProof.Rows L2
variable {K : PySem.W.Frag}
/-! ### targets -/
def Only (ix : List Nat) (σ σ' : L2.St) : Prop := σ'.length = σ.length ∧ ∀ i, i ∉ ix → σ'[i]? = σ[i]?
theorem Only.trans {a b : List Nat} {σ σ1 σ2 : L2.St} (h : Only a σ σ1) (h' : Only b σ1 σ2) : Only (a ++ b) σ σ2 :=
  ⟨h'.1.trans h.1, fun i hi => by
    simp only [List.mem_append, not_or] at hi
    exact (h'.2 i hi.2).trans (h.2 i hi.1)⟩
theorem wipe_get (σ : L2.St) : ∀ (vs : List Nat) (i : Nat), (L2.wipe σ vs)[i]? = if i < σ.length ∧ i ∈ vs then some none else σ[i]?
  | [], i => by simp [L2.wipe]
  | v :: vs, i => by
    unfold L2.wipe
    by_cases e : v = i
    · subst e
      by_cases hl : v < σ.length
      · rw [List.getElem?_set_self (by rw [L2.wipe_length]; exact hl)]
        simp [hl]
      · rw [List.getElem?_eq_none (by rw [List.length_set, L2.wipe_length]; omega)]
        simp [hl]
    · rw [List.getElem?_set_ne e, wipe_get σ vs i]
      simp only [List.mem_cons]
      have : (i = v) = False := by simp; exact fun z => e z.symm
      simp [this]
theorem Only.wipe {ix ws : List Nat} {σ σ' : L2.St} (h : Only ix (L2.wipe σ ws) σ') (hs : ∀ i ∈ ix, i ∈ ws) : L2.wipe σ' ws = L2.wipe σ ws := by
  apply List.ext_getElem?
  intro i
  have hl : σ'.length = σ.length := h.1.trans (L2.wipe_length σ ws)
  rw [wipe_get, wipe_get, hl]
  by_cases c : i < σ.length ∧ i ∈ ws
  · rw [if_pos c, if_pos c]
  · rw [if_neg c, if_neg c]
    by_cases hi : i < σ.length
    · have : i ∉ ws := fun z => c ⟨hi, z⟩
      rw [h.2 i (fun z => this (hs i z)), wipe_get, if_neg c]
    · rw [List.getElem?_eq_none (by omega), List.getElem?_eq_none (by omega)]
def TGv (X : Cx) (tg : T) : TG := fun v σ H Q => ∃ (w : Wd) (δ δ1 : Sl) (d : D), w.H = H ∧ StoOk X.K w ∧ LR X.K w δ σ ∧ RD X.K w d v ∧ asgT tg d δ = some δ1 ∧ ∀ σ', LR X.K w δ1 σ' → Only tg.ix σ σ' → Q σ' H
def plainTg : Expr → Bool
  | .Name _ _ => true
  | .Tuple _ _ _ => true
  | _ => false
section
variable {X : Cx} {xr : XR} {cl : Nat → List D → Sto → R D} {W : WX}
theorem pg_nE {i : Nat} {x : Str} {pos : Pos} (hN : X.N.Nodup) (hi : X.N[i]? = some x) (hx : Loc X.env.scope x) (hf : X.fn x = true ∨ X.env.scope.names.lookup x = some .local) : PG X (.Name x pos) (TGv X (.n i)) :=
  ⟨fun pins s σ H v u Q I r ⟨w, δ, δ1, d, e, S, L, rd, ha, q⟩ => by
    subst e
    refine (pg_name hN hi hx hf).run pins s σ w.H v u Q I r ?_
    unfold asgT at ha
    split at ha
    · injection ha with ha
      subst ha
      refine q _ (L.set i rd) ⟨by simp, fun j hj => ?_⟩
      rw [List.getElem?_set_ne (fun z => hj (by simp [T.ix, z]))]
    · cases ha⟩
theorem each_one {e : Expr} {es : List Expr} {env : Env} (h : plainTg e = true) : assignEach (e :: es) env = (false, assign e env) :: assignEach es env := by
  cases e <;> first | (cases h; done) | rfl | (rw [assignEach]; intros; contradiction) | (unfold assignEach; rfl)
theorem pg_t2E {a b : Expr} {ta tb : T} {kk : Nat} {pos : Pos} (hc : X.calm = true) (h1 : plainTg a = true) (h2 : plainTg b = true) (ha : PG X a (TGv X ta)) (hb : PG X b (TGv X tb)) : PG X (.Tuple [a, b] kk pos) (TGv X (.t2 ta tb)) := by
  have e2 : assignEach [a, b] X.env = [(false, assign a X.env), (false, assign b X.env)] := by
    rw [each_one h1, each_one h2]; unfold assignEach; rfl
  have e1 : assignEach [b] X.env = [(false, assign b X.env)] := by
    rw [each_one h2]; unfold assignEach; rfl
  have g := pg_tup (n := 2) (pos := pos) (k := kk) hc (pgs_cons ha (pgs_cons hb pgs_nil (by rw [each_one h2]; rfl)) (by rw [each_one h1]; rfl)) (by rw [e2]; rfl) (by rw [e2]; rfl)
  refine ⟨fun pins s σ H v u Q I r ⟨w, δ, δ1, d, e, S, L, rd, hq, q⟩ => g.run pins s σ H v u Q I r ?_⟩
  subst e
  unfold asgT at hq
  split at hq
  · rename_i k x y
    obtain ⟨p, xs, rfl, k1, k2⟩ := rd.tup_inv
    obtain ⟨v1, r1, rfl, m1, k2⟩ := k2.cons_inv
    obtain ⟨v2, r2, rfl, m2, k2⟩ := k2.cons_inv
    cases k2.nil_inv
    simp only [Option.bind_eq_some_iff] at hq
    obtain ⟨δ2, q1, q2⟩ := hq
    refine ⟨p, _, rfl, k1, rfl, v1, _, rfl, w, δ, δ2, x, rfl, S, L, m1, q1, fun σ1 L1 o1 => ?_⟩
    refine ⟨v2, _, rfl, w, δ2, δ1, y, rfl, S, L1, m2, q2, fun σ2 L2 o2 => ?_⟩
    exact ⟨rfl, q σ2 L2 (o1.trans o2)⟩
  · cases hq
theorem pg_t3E {a b c : Expr} {ta tb tc : T} {kk : Nat} {pos : Pos} (hc : X.calm = true) (h1 : plainTg a = true) (h2 : plainTg b = true) (h3 : plainTg c = true) (ha : PG X a (TGv X ta)) (hb : PG X b (TGv X tb)) (hcc : PG X c (TGv X tc)) : PG X (.Tuple [a, b, c] kk pos) (TGv X (.t3 ta tb tc)) := by
  have e2 : assignEach [a, b, c] X.env = [(false, assign a X.env), (false, assign b X.env), (false, assign c X.env)] := by
    rw [each_one h1, each_one h2, each_one h3]; unfold assignEach; rfl
  have g := pg_tup (n := 3) (pos := pos) (k := kk) hc (pgs_cons ha (pgs_cons hb (pgs_cons hcc pgs_nil (by rw [each_one h3]; rfl)) (by rw [each_one h2]; rfl)) (by rw [each_one h1]; rfl)) (by rw [e2]; rfl) (by rw [e2]; rfl)
  refine ⟨fun pins s σ H v u Q I r ⟨w, δ, δ1, d, e, S, L, rd, hq, q⟩ => g.run pins s σ H v u Q I r ?_⟩
  subst e
  unfold asgT at hq
  split at hq
  · rename_i k x y z
    obtain ⟨p, xs, rfl, k1, k2⟩ := rd.tup_inv
    obtain ⟨v1, r1, rfl, m1, k2⟩ := k2.cons_inv
    obtain ⟨v2, r2, rfl, m2, k2⟩ := k2.cons_inv
    obtain ⟨v3, r3, rfl, m3, k2⟩ := k2.cons_inv
    cases k2.nil_inv
    simp only [Option.bind_eq_some_iff] at hq
    obtain ⟨δ2, q1, δ3, q2, q3⟩ := hq
    refine ⟨p, _, rfl, k1, rfl, v1, _, rfl, w, δ, δ2, x, rfl, S, L, m1, q1, fun σ1 L1 o1 => ?_⟩
    refine ⟨v2, _, rfl, w, δ2, δ3, y, rfl, S, L1, m2, q2, fun σ2 L2 o2 => ?_⟩
    refine ⟨v3, _, rfl, w, δ3, δ1, z, rfl, S, L2, m3, q3, fun σ3 L3 o3 => ?_⟩
    refine ⟨rfl, q σ3 L3 ((o1.trans o2).trans o3)⟩
  · cases hq
/-! ### calls -/
def bfName : BF → Str
  | .len => "len"
  | .abs => "abs"
  | .maxl => "max"
  | .max2 => "max"
  | .min2 => "min"
  | .int => "int"
  | .str => "str"
  | .gcd => "gcd"
  | .sorted => "sorted"
  | .tuple => "tuple"
  | .list => "list"
  | .any => "any"
  | .all => "all"
  | .isinst _ => "isinstance"
theorem bf_read {f : BF} {es : Es} {σ : L2.St} {H : Hp} {Q : VK} (h : TEv X xr cl W (.bf f es) σ H Q) : tCB (rC X.K xr (bfD f)) (TAv X xr cl W es) σ H Q := by
  obtain ⟨w, δ, e, S, L, h⟩ := h
  subst e
  simp only [ev, tst] at h
  exact ⟨w, δ, rfl, S, L, h.bind fun ds w1 vs x1 S1 r1 h1 => ⟨w1, ds, rfl, S1, r1, h1.nox (nox_bf _ _ _)⟩⟩
theorem pe_bfE (hc : X.calm = true) (hu : X.A.units + 64 < cLine) (f : BF) (hp : plainBF f = true ∨ f = .sorted) (hg : Gl X (bfName f)) (hm : f ≠ .gcd → X.mg (bfName f) = none) (hm' : f = .gcd → X.mg "gcd" = some (.builtin "math.gcd"))
    {e : Expr} {es : List Expr} {es' : Es} {p pos : Pos} (hs : (e :: es).all noStar = true) (ha : PA X (e :: es) (TAv X xr cl W es')) : PE X (.Call (.Name (bfName f) p) (e :: es) [] pos) (TEv X xr cl W (.bf f es')) := by
  have hs' : noStar e = true ∧ es.all noStar = true := by simpa using hs
  have key : ∀ {t : TE}, t = tCB (rC X.K xr (bfD f)) (TAv X xr cl W es') → PE X (.Call (.Name (bfName f) p) (e :: es) [] pos) t → PE X (.Call (.Name (bfName f) p) (e :: es) [] pos) (TEv X xr cl W (.bf f es')) := fun {t} q h => by
    subst q
    exact PE.weak h fun σ H Q z => bf_read z
  have s1 := star_one (es := es) (env := X.env) hs'.1
  have s2 := star_any (env := X.env) (pos := pos) hs'.2
  refine key rfl ?_
  rcases hp with hp | hp
  · have c := call_D (X := X) (xr := xr) hc f hp
    cases f with
    | gcd => exact pe_callBfun c hg (hm' rfl) ha (by decide +kernel) s1 s2
    | sorted => cases hp
    | isinst t => cases hp
    | len => exact pe_callB c hg (hm (by simp)) (by decide +kernel) ha (by decide +kernel) (by decide +kernel) s1 s2
    | abs => exact pe_callB c hg (hm (by simp)) (by decide +kernel) ha (by decide +kernel) (by decide +kernel) s1 s2
    | maxl => exact pe_callB c hg (hm (by simp)) (by decide +kernel) ha (by decide +kernel) (by decide +kernel) s1 s2
    | max2 => exact pe_callB c hg (hm (by simp)) (by decide +kernel) ha (by decide +kernel) (by decide +kernel) s1 s2
    | min2 => exact pe_callB c hg (hm (by simp)) (by decide +kernel) ha (by decide +kernel) (by decide +kernel) s1 s2
    | int => exact pe_callTy c hg (hm (by simp)) (by decide +kernel) ha (by decide +kernel) (by decide +kernel) s1 s2
    | str => exact pe_callTy c hg (hm (by simp)) (by decide +kernel) ha (by decide +kernel) (by decide +kernel) s1 s2
    | tuple => exact pe_callTy c hg (hm (by simp)) (by decide +kernel) ha (by decide +kernel) (by decide +kernel) s1 s2
    | list => exact pe_callTy c hg (hm (by simp)) (by decide +kernel) ha (by decide +kernel) (by decide +kernel) s1 s2
    | any => exact pe_callB c hg (hm (by simp)) (by decide +kernel) ha (by decide +kernel) (by decide +kernel) s1 s2
    | all => exact pe_callB c hg (hm (by simp)) (by decide +kernel) ha (by decide +kernel) (by decide +kernel) s1 s2
  · subst hp
    exact pe_callB (call_sortedD hc hu) hg (hm (by simp)) (by decide +kernel) ha (by decide +kernel) (by decide +kernel) s1 s2
def tyOf : Str → Option Ty := fun x => if x = "int" then some .int else if x = "str" then some .str else if x = "bool" then some .bool else if x = "tuple" then some .tuple else if x = "list" then some .list else none
theorem ty_boot : ∀ t : Ty, bootBuiltins ((tyS t : String) : Str) = some (.type (tyS t)) := fun t => by cases t <;> decide +kernel
theorem pe_isiE {t : Ty} {a : Expr} {a' : E} {p p2 pos : Pos} (hg : Gl X "isinstance") (hm : X.mg "isinstance" = none) (hg2 : Gl X ((tyS t : String) : Str)) (hm2 : X.mg ((tyS t : String) : Str) = none) (hs : noStar a = true) (ha : PE X a (TEv X xr cl W a')) :
    PE X (.Call (.Name "isinstance" p) [a, .Name ((tyS t : String) : Str) p2] [] pos) (TEv X xr cl W (.bf (.isinst t) (.cons a' .nil))) := by
  have s1 := star_one (es := [.Name ((tyS t : String) : Str) p2]) (env := X.env) hs
  have s2 := star_any (env := X.env) (pos := pos) (es := [.Name ((tyS t : String) : Str) p2]) rfl
  have ht : PE X (.Name ((tyS t : String) : Str) p2) (tC (.ty (tyS t))) := pe_bltn hg2 hm2 (ty_boot t) rfl (by cases t <;> decide +kernel) (by cases t <;> decide +kernel)
  refine PE.weak (pe_callB call_isi hg hm (by decide +kernel) (pa_cons ha (pa_cons ht pa_nil) s1) (by decide +kernel) (by decide +kernel) s1 s2) fun σ H Q ⟨w, δ, e, S, L, h⟩ => ?_
  subst e
  simp only [ev, evs, tst] at h
  refine ⟨w, δ, rfl, S, L, ?_⟩
  cases q : ev cl a' false δ w.st with
  | ok d st1 =>
    rw [q] at h
    intro β' H' v x1 S1 r1
    have h := Pst.ext x1 (show Pst X.K xr w (bfD (.isinst t) [d] st1) _ _ _ from h)
    unfold bfD at h
    obtain ⟨b, hb, h⟩ := h.okO
    exact isi_D r1 hb (h.here S1 .bl)
  | exc c p st1 =>
    rw [q] at h
    exact h
  | bad =>
    rw [q] at h
    exact h.elim
theorem pe_callE {F : Nat → Option Fn} {k f : Nat} {fa : Addr} {fd : FuncData} {ps : List Str} {x : Str} {e : Expr} {es : List Expr} {es' : Es} {p pos : Pos} (Fk : FnOk X.prog X.w X.K X.mg X.base (L2.CX X.prog X.w) k fa fd ps (spF X.K xr F k f)) (hr : Room k X.A) (tk : Takes X W) (hg : Gl X x) (hm : X.mg x = some (.ref fa)) (hk : PySem.W.keepIn X.K (.ref fa) = true) (hb : Binds X.K fd ps [])
    (hdb : (x == ("__debug__" : Str)) = false) (hs : (e :: es).all noStar = true) (ha : PA X (e :: es) (TAv X xr (callF F k) W es')) : PE X (.Call (.Name x p) (e :: es) [] pos) (TEv X xr (callF F k) W (.call f es')) := by
  have hs' : noStar e = true ∧ es.all noStar = true := by simpa using hs
  refine PE.weak (pe_callS Fk hr hg hm hk hb (fun σ => passAt tk σ) ha hdb (star_one hs'.1) (star_any hs'.2)) fun σ H Q ⟨w, δ, e, S, L, h⟩ => ?_
  subst e
  simp only [ev, tst] at h
  exact ⟨w, δ, rfl, S, L, h.bind fun ds w1 vs x1 S1 r1 h1 => ⟨w1, ds, rfl, S1, r1, h1⟩⟩
/-! ### methods -/
def baseOk : Expr → Bool
  | .Call (.Name _ _) (_ :: _) _ _ => true
  | .Call _ _ _ _ => false
  | _ => true
theorem base_ok {o : Expr} {m : Str} {env : Env} {whole : Sem Value} (h : baseOk o = true) : attributeBase o m env whole = whole := by
  unfold baseOk at h
  split at h
  · unfold attributeBase; rfl
  · cases h
  · rename_i h1 h2
    cases o <;> first | rfl | (unfold attributeBase; rfl) | exact absurd rfl (h2 _ _ _ _)
theorem mt_tyV {w : Wd} {m : MF} {d : D} {v : V} (S : StoOk K w) (h : mtTy m d w.st = true) (r : RD K w d v) (hg : m ≠ .get2) : tyV K (mtId m).1 v w.H := by
  unfold mtTy at h
  split at h
  · exact absurd rfl hg
  · exact absurd rfl hg
  · split at h
    · rename_i q
      rw [RD] at r
      obtain ⟨a, rfl, ha⟩ := r
      obtain ⟨xs, h1, _⟩ := S.mem q ha
      exact .inl ⟨rfl, xs, .of h1⟩
    · cases h
  · cases h
  · cases h
  · cases r.str_inv
    cases m <;> first | rfl | (exact absurd rfl hg) | (rename_i n1 n2; exact absurd rfl n1) | skip
    all_goals (rename_i n1 n2 n3; simp_all)
  · cases h
theorem mt_read {m : MF} {o' : E} {es : Es} {σ : L2.St} {H : Hp} {Q : VK} (h : TEv X xr cl W (.mt m o' es) σ H Q) (hg : m ≠ .get2) : tBM X.K (mtId m).1 (rM X.K xr (mtD m)) (TEv X xr cl W o') (TAv X xr cl W es) σ H Q := by
  obtain ⟨w, δ, e, S, L, h⟩ := h
  subst e
  simp only [ev, tst] at h
  refine ⟨w, δ, rfl, S, L, h.bind fun d w1 v x1 S1 r1 h1 => ?_⟩
  split at h1
  · rename_i t
    exact ⟨mt_tyV S1 t r1 hg, w1, δ, rfl, S1, L.ext x1, h1.bind fun ds w2 vs x2 S2 r2 h2 => ⟨w2, d, ds, rfl, S2, r1.ext x2, r2, h2.nox (nox_mt _ _ _ _)⟩⟩
  · exact h1.elim
theorem mt0_read {m : MF} {o' : E} {σ : L2.St} {H : Hp} {Q : VK} (h : TEv X xr cl W (.mt m o' .nil) σ H Q) (hg : m ≠ .get2) : tBM0 X.K (mtId m).1 (rM X.K xr (mtD m)) (TEv X xr cl W o') σ H Q := by
  obtain ⟨w, δ, e, S, L, h⟩ := h
  subst e
  simp only [ev, evs, tst] at h
  refine ⟨w, δ, rfl, S, L, h.bind fun d w1 v x1 S1 r1 h1 => ?_⟩
  split at h1
  · rename_i t
    exact ⟨mt_tyV S1 t r1 hg, w1, d, [], rfl, S1, r1, .nil, Pst.nox (nox_mt _ _ _ _) h1⟩
  · exact h1.elim
end
end PV
set_option Elab.async false
set_option linter.all false
set_option maxRecDepth 100000
set_option maxHeartbeats 1000000
/-! PV14: methods' calls, comprehensions. -/
namespace PV
open PySem PySem.Spec PyProof.Rows L2
variable {K : PySem.W.Frag}
section
variable {X : Cx} {xr : XR} {cl : Nat → List D → Sto → R D} {W : WX}
def mtName (m : MF) : Str := match m with
  | .index => "index"
  | .get2 => "get"
  | .join => "join"
  | .isdigit => "isdigit"
  | .isalpha => "isalpha"
  | .isalnum => "isalnum"
  | .append => "append"
/-- o.m(e) -/
theorem pe_mt1E (hc : X.calm = true) (tk : Takes X W) {m : MF} (hm : m = .index ∨ m = .join ∨ m = .append) {o e : Expr} {o' e' : E} {apos cpos : Pos} (hb : baseOk o = true) (hl : (apos.endLine == cpos.line) = true) (hs : noStar e = true) (ho : PE X o (TEv X xr cl W o')) (he : PE X e (TEv X xr cl W e')) :
    PE X (.Call (.Attribute o (mtName m) apos) [e] [] cpos) (TEv X xr cl W (.mt m o' (.cons e' .nil))) := by
  have hs' : ([e] : List Expr).all noStar = true := by simp [hs]
  have ha : PA X [e] (TAv X xr cl W (.cons e' .nil)) := pa_all (es := [e]) (fs := [e']) hs' ⟨he, trivial⟩
  have s1 := star_one (es := []) (env := X.env) hs
  have s2 := star_any (env := X.env) (pos := cpos) (es := []) rfl
  have s3 := star_few (env := X.env) (pos := cpos) hs' (by simp)
  rcases hm with rfl | rfl | rfl
  · exact PE.weak (pe_bmS PySem.F.plainAttrs_str PySem.F.slot_str_index PySem.F.type_str_index (mt_indexD (xr := xr) hc tk) ho ha (base_ok hb) s3 hl s1 s2) fun σ H Q z => mt_read z (by simp)
  · exact PE.weak (pe_bm PySem.F.plainAttrs_str PySem.F.slot_str_join PySem.F.type_str_join (mt_D (xr := xr) hc .join (by simp) (by simp)) ho ha (base_ok hb) s3 hl s1 s2) fun σ H Q z => mt_read z (by simp)
  · exact PE.weak (pe_bm PySem.F.plainAttrs_list PySem.F.slot_list_append PySem.F.type_list_append (mt_D (xr := xr) hc .append (by simp) (by simp)) ho ha (base_ok hb) s3 hl s1 s2) fun σ H Q z => mt_read z (by simp)
/-- o.m() -/
theorem pe_mt0E (hc : X.calm = true) {m : MF} (hm : m = .isdigit ∨ m = .isalpha ∨ m = .isalnum) {o : Expr} {o' : E} {apos cpos : Pos} (hb : baseOk o = true) (hl : (apos.endLine == cpos.line) = true) (ho : PE X o (TEv X xr cl W o')) :
    PE X (.Call (.Attribute o (mtName m) apos) [] [] cpos) (TEv X xr cl W (.mt m o' .nil)) := by
  rcases hm with rfl | rfl | rfl
  · exact PE.weak (pe_bm0 PySem.F.plainAttrs_str PySem.F.slot_str_isdigit PySem.F.type_str_isdigit (mt_D (xr := xr) hc .isdigit (by simp) (by simp)) ho (base_ok hb) hl) fun σ H Q z => mt0_read z (by simp)
  · exact PE.weak (pe_bm0 PySem.F.plainAttrs_str PySem.F.slot_str_isalpha PySem.F.type_str_isalpha (mt_D (xr := xr) hc .isalpha (by simp) (by simp)) ho (base_ok hb) hl) fun σ H Q z => mt0_read z (by simp)
  · exact PE.weak (pe_bm0 PySem.F.plainAttrs_str PySem.F.slot_str_isalnum PySem.F.type_str_isalnum (mt_D (xr := xr) hc .isalnum (by simp) (by simp)) ho (base_ok hb) hl) fun σ H Q z => mt0_read z (by simp)
theorem get_spec {w : Wd} {d y z : D} {st : Sto} {rel : Wd → D → V → Prop} {Q : VK} {E : XK} (h : Pst K xr w (mtD .get2 d [y, z] st) rel Q E) :
    ∃ ks vs k, keyOf y = some k ∧ (d = .dct ks vs ∨ ∃ j, d = .ref j ∧ getMO st j = some (.dct ks vs)) ∧ Pst K xr w (.ok ((lookK k ks vs).getD z) st) rel Q E := by
  cases d <;> first | (exact h.elim) | skip
  · rename_i ks vs
    cases y <;> first | (exact h.elim) | skip
    rename_i q t
    unfold mtD at h
    dsimp only at h
    cases e : keyOf (.tup q t) with
    | none => rw [e] at h; exact h.elim
    | some k =>
      rw [e] at h
      exact ⟨ks, vs, k, rfl, .inl rfl, h⟩
  · rename_i j
    cases y <;> first | (exact h.elim) | skip
    rename_i q t
    unfold mtD at h
    dsimp only at h
    split at h
    · rename_i k ks vs e1 e2
      exact ⟨ks, vs, k, e1, .inr ⟨j, rfl, e2⟩, h⟩
    · exact h.elim
theorem mtTy_get {d : D} {st : Sto} (h : mtTy .get2 d st = true) : (∃ ks vs, d = .dct ks vs) ∨ ∃ j ks vs, d = .ref j ∧ getMO st j = some (.dct ks vs) := by
  cases d <;> first | (cases h; done) | skip
  · exact .inl ⟨_, _, rfl⟩
  · rename_i j
    unfold mtTy at h
    dsimp only at h
    split at h
    · rename_i ks vs e
      exact .inr ⟨j, ks, vs, rfl, e⟩
    · cases h
/-- o.get(e, f) -/
theorem pe_getE (hu : X.A.units + 64 < cLine) {o e f : Expr} {o' e' f' : E} {apos cpos : Pos} (hb : baseOk o = true) (hl : (apos.endLine == cpos.line) = true) (hs : noStar e = true) (hs2 : noStar f = true) (ho : PE X o (TEv X xr cl W o')) (he : PE X e (TEv X xr cl W e')) (hf : PE X f (TEv X xr cl W f')) :
    PE X (.Call (.Attribute o "get" apos) [e, f] [] cpos) (TEv X xr cl W (.mt .get2 o' (.cons e' (.cons f' .nil)))) := by
  have hs' : ([e, f] : List Expr).all noStar = true := by simp [hs, hs2]
  have m2 : M2 X o "get" apos e f cpos := ⟨base_ok hb, star_few hs' (by simp), hl, by rw [star_all hs']; rfl⟩
  refine PE.weak (pe_dget2 (by omega) ho he hf m2) fun σ H Q ⟨w, δ, e, S, L, h⟩ => ?_
  subst e
  simp only [ev, evs, tst] at h
  refine ⟨w, δ, rfl, S, L, h.bind fun d w1 v x1 S1 r1 h1 => ?_⟩
  split at h1
  · rename_i t
    have key : ∀ (a : Addr) (d2 : D), v = .ref a → IsD w1.H a → (∀ (w3 : Wd) (y z : D) (yv zv : V), Ext w1 w3 → StoOk X.K w3 → RD X.K w3 y yv → RD X.K w3 z zv → Pst X.K xr w3 (mtD .get2 d [y, z] w3.st) (RD X.K) Q (fun c d H' => W c d σ H') → ∃ o, DGet w3.H a yv o ∧ Q (o.getD zv) w3.H) →
        ∃ a, v = .ref a ∧ IsD w1.H a ∧ TEv X xr cl W e' σ w1.H fun y H2 => TEv X xr cl W f' σ H2 fun z H3 => ∃ o, DGet H3 a y o ∧ Q (o.getD z) H3 := fun a d2 ea isd kk => by
      refine ⟨a, ea, isd, w1, δ, rfl, S1, L.ext x1, ?_⟩
      refine (show Pst X.K xr w1 ((ev cl e' false δ w1.st).bind fun y st2 => (ev cl f' false δ st2).bind fun z st3 => mtD .get2 d [y, z] st3) _ _ _ from ?_).bind fun y w2 yv x2 S2 r2 h2 => ⟨w2, δ, rfl, S2, (L.ext x1).ext x2, h2.bind fun z w3 zv x3 S3 r3 h3 => kk w3 y z yv zv (x2.trans x3) S3 (r2.ext x3) r3 h3⟩
      · refine cast ?_ h1
        congr 1
        cases ev cl e' false δ w1.st <;> simp only [R.bind]
        rename_i y st2
        cases ev cl f' false δ st2 <;> rfl
    rcases mtTy_get t with ⟨ks, vs, rfl⟩ | ⟨j, ks, vs, rfl, hj⟩
    · rw [RD] at r1
      obtain ⟨a, kvs, rfl, k1, k0, k3, k4⟩ := r1
      refine key a .non rfl (.inr ⟨kvs, k1⟩) fun w3 y z yv zv x3 S3 ry rz h3 => ?_
      obtain ⟨k1, _⟩ := x3.mv.dict a kvs k1 k0
      have k4 := k4.ext x3
      obtain ⟨ks', vs', k, hk, hd, h4⟩ := get_spec h3
      rcases hd with hd | ⟨_, hd, _⟩
      · injection hd with q1 q2
        subst q1; subst q2
        obtain ⟨o, g, ro⟩ := dget_D k1 k3 k4 hk ry rz
        exact ⟨o, g, h4.here S3 ro⟩
      · cases hd
    · rw [RD] at r1
      obtain ⟨a, rfl, ha⟩ := r1
      obtain ⟨kvs, k1, k3, k4⟩ := S1.mem hj ha
      refine key a .non rfl (.inr ⟨kvs, .inl k1⟩) fun w3 y z yv zv x3 S3 ry rz h3 => ?_
      obtain ⟨ks', vs', k, hk, hd, h4⟩ := get_spec h3
      rcases hd with hd | ⟨j', hd, hj'⟩
      · cases hd
      · injection hd with hd
        subst hd
        obtain ⟨kvs', k1', k3', k4'⟩ := S3.mem hj' (x3.mv.at ha)
        obtain ⟨o, g, ro⟩ := dget_D (.inl k1') k3' k4' hk ry rz
        exact ⟨o, g, h4.here S3 ro⟩
  · exact h1.elim
end
end PV
set_option Elab.async false
set_option linter.all false
set_option maxRecDepth 100000
set_option maxHeartbeats 1000000
/-! PV15: comprehensions: the new list is a hole of the world while it is built. -/
namespace PV
open PySem PySem.Spec PyProof.Rows L2
variable {K : PySem.W.Frag}
abbrev Wd.hole (w : Wd) (D : Addr) (o : HO := .lst []) : Wd := ⟨w.β, w.st, upd w.H D o, D :: w.ho⟩
theorem live_hole {w : Wd} {D a : Addr} {o : HO} (h : live (w.hole D o) a) : a = D ∨ live w a := by
  rcases h with h | h
  · rcases List.mem_cons.mp h with h | h
    · exact .inl h
    · exact .inr (.inl h)
  · exact .inr (.inr h)
theorem Mv.hole {w : Wd} {D : Addr} {o : HO} (h : w.H D = none) : Mv w (w.hole D o) := by
  refine ⟨⟨[], by simp⟩, fun a o e _ n => ⟨?_, fun z => ?_⟩⟩
  · show upd w.H D _ a = _
    rw [upd_ne (ne_of_none e h)]; exact e
  · rcases live_hole z with z | z
    · exact ne_of_none e h z
    · exact n z
theorem StoOk.hole {w : Wd} {D : Addr} {o : HO} (S : StoOk K w) (h : w.H D = none) (nt : noT o := by exact ⟨fun _ z => (nomatch z), fun _ z => (nomatch z), fun _ z => (nomatch z)⟩) : StoOk K (w.hole D o) := by
  refine ⟨S.len, S.nd, fun j m e => ?_, fun a ha => noO_new h (S.occ a ha), fun a ha => ?_, fun a ha z => ?_, tabs_new S.tab h⟩
  · obtain ⟨a, e1, k1⟩ := S.at_ j m e
    refine ⟨a, e1, k1.mv (Mv.hole h) ?_⟩
    obtain ⟨o', e2⟩ := k1.some
    show upd w.H D _ a = _
    rw [upd_ne (ne_of_none e2 h)]
  · rcases List.mem_cons.mp ha with q | q
    · subst q; exact ⟨o, upd_same, nt⟩
    · obtain ⟨o', e, n⟩ := S.hoL a q
      exact ⟨o', by show upd w.H D _ a = _; rw [upd_ne (ne_of_none e h)]; exact e, n⟩
  · have z : a ∈ w.β := z
    rcases List.mem_cons.mp ha with q | q
    · subst q; exact S.occ _ z (.inl h)
    · exact S.sep a q z
/-- the hole's list is another one -/
abbrev Wd.fill (w : Wd) (D : Addr) (o : HO) : Wd := ⟨w.β, w.st, upd w.H D o, w.ho⟩
theorem Mv.fill {w : Wd} {D : Addr} {o : HO} (h : D ∈ w.ho) : Mv w (w.fill D o) := by
  refine ⟨⟨[], by simp⟩, fun a o' e _ n => ⟨?_, n⟩⟩
  show upd w.H D _ a = _
  rw [upd_ne (fun z => n (.inl (by rw [z]; exact h)))]; exact e
theorem StoOk.fill {w : Wd} {D : Addr} {o : HO} (S : StoOk K w) (h : D ∈ w.ho) (nt : noT o := by exact ⟨fun _ z => (nomatch z), fun _ z => (nomatch z), fun _ z => (nomatch z)⟩) : StoOk K (w.fill D o) := by
  refine ⟨S.len, S.nd, fun j m e => ?_, fun a ha => noO_upd nt fun _ => S.occ a ha, fun a ha => ?_, S.sep, tabs_upd S.tab fun u hu => by
    obtain ⟨o', e, n⟩ := S.hoL D h
    rw [hu] at e; cases e
    exact .inl n⟩
  · obtain ⟨a, e1, k1⟩ := S.at_ j m e
    refine ⟨a, e1, k1.mv (Mv.fill h) ?_⟩
    show upd w.H D _ a = _
    rw [upd_ne (fun z => S.sep D h (by rw [← z]; exact List.mem_of_getElem? e1))]
  · by_cases q : a = D
    · subst q; exact ⟨o, upd_same, nt⟩
    · obtain ⟨o', e, n⟩ := S.hoL a ha
      exact ⟨o', by show upd w.H D _ a = _; rw [upd_ne q]; exact e, n⟩
/-- the hole is one no more -/
abbrev Wd.heal (w : Wd) (ho : List Addr) : Wd := ⟨w.β, w.st, w.H, ho⟩
theorem Mv.heal {w : Wd} {ho : List Addr} (h : ∀ a ∈ ho, a ∈ w.ho) : Mv w (w.heal ho) := ⟨⟨[], by simp⟩, fun a o e _ n => ⟨e, fun z => n (z.elim (fun z => .inl (h a z)) .inr)⟩⟩
theorem StoOk.heal {w : Wd} {ho : List Addr} (S : StoOk K w) (h : ∀ a ∈ ho, a ∈ w.ho) : StoOk K (w.heal ho) := by
  refine ⟨S.len, S.nd, fun j m e => ?_, S.occ, fun a ha => S.hoL a (h a ha), fun a ha => S.sep a (h a ha), S.tab⟩
  obtain ⟨a, e1, k1⟩ := S.at_ j m e
  exact ⟨a, e1, k1.mv (Mv.heal h) rfl⟩
section
variable {X : Cx} {xr : XR} {cl : Nat → List D → Sto → R D} {W : WX}
def bodyR (cl : Nat → List D → Sto → R D) (ws : List Nat) (tg : T) (cond : Eo) (e : E) (δ : Sl) : D → Sto → R (Option D) := fun d st => match (tg.ix.all fun i => ws.contains i), asgT tg d (wipe δ ws) with
  | true, some δ1 => (evc cl cond δ1 st).bind fun b st2 => match b with
    | true => (ev cl e false δ1 st2).bind fun y st3 => .ok (some y) st3
    | false => .ok none st2
  | _, _ => .bad
theorem bind_ok {α β : Type} {r : R α} {f : α → Sto → R β} {b : β} {st : Sto} (h : r.bind f = .ok b st) : ∃ a st1, r = .ok a st1 ∧ f a st1 = .ok b st := by
  cases r with
  | ok a st1 => exact ⟨a, st1, rfl, h⟩
  | exc c p st1 => cases h
  | bad => cases h
theorem body_ok {ws : List Nat} {tg : T} {cond : Eo} {e : E} {δ : Sl} {d : D} {st st' : Sto} {o : Option D} (h : bodyR cl ws tg cond e δ d st = .ok o st') :
    ∃ δ1, (∀ i ∈ tg.ix, i ∈ ws) ∧ asgT tg d (wipe δ ws) = some δ1 ∧ ∃ b st2, evc cl cond δ1 st = .ok b st2 ∧ ((b = true ∧ ∃ y, ev cl e false δ1 st2 = .ok y st' ∧ o = some y) ∨ (b = false ∧ o = none ∧ st' = st2)) := by
  unfold bodyR at h
  split at h
  · rename_i δ1 h1 h2
    obtain ⟨b, st2, e1, e2⟩ := bind_ok h
    refine ⟨δ1, fun i hi => ?_, h2, b, st2, e1, ?_⟩
    · rw [List.all_eq_true] at h1
      simpa using h1 i hi
    · cases b with
      | true =>
        obtain ⟨y, st3, e3, e4⟩ := bind_ok e2
        injection e4 with e4 e5
        subst e5
        exact .inl ⟨rfl, y, e3, e4.symm⟩
      | false =>
        injection e2 with e4 e5
        exact .inr ⟨rfl, e4.symm, e5.symm⟩
  · cases h
abbrev WF : WX := fun _ _ _ _ => False
theorem lc_walk {tg : T} {cond : Eo} {e : E} {ws : List Nat} {δ : Sl} {σ : L2.St} {w1 : Wd} {J : It} {ds ys : List D} {stE : Sto} {Q : VK} (S1 : StoOk X.K w1) (L : LR X.K w1 δ σ) (jok : JOk X.K w1 J ds) (hm : mapR (bodyR cl ws tg cond e δ) ds [] w1.st = .ok ys stE) (hf : fits ds.length = true)
    (hq : ∀ (β' : List Addr) (H' : Hp) (v : V), Ext w1 ⟨β', stE, H', w1.ho⟩ → StoOk X.K ⟨β', stE, H', w1.ho⟩ → RD X.K ⟨β', stE, H', w1.ho⟩ (.lst ys) v → Q v H') :
    ∀ D, w1.H D = none → ∃ Wt : Nat → Nat → Hp → Prop, (∃ m, Wt 0 m (upd w1.H D (.lst []))) ∧ ∀ i m H, Wt i m H →
  (J.stop i H ∧ Q (.ref D) H) ∨ (J.go i H ∧ ∃ Nx : Hp → Prop, (∀ H', Nx H' → ∃ m', m' < m ∧ Wt (i + 1) m' H') ∧ ∀ x H', J.yld i H x H' → TGv X tg x (L2.wipe σ ws) H' fun σ2 H2 => L2.wipe σ2 ws = L2.wipe σ ws ∧ TCv X xr cl WF cond σ2 H2 fun b H3 =>
    if b = true then TEv X xr cl WF e σ2 H3 fun y H4 => ∃ acc, H4 D = some (.lst acc) ∧ acc.length < sizeLine ∧ Nx (upd H4 D (.lst (acc ++ [y]))) else Nx H3) := by
  intro Da hD
  let P : Nat → Hp → Prop := fun i H => ∃ (acc : List D) (w : Wd) (av : List V), w.H = H ∧ StoOk X.K w ∧ w.ho = Da :: w1.ho ∧ Mv w1 w ∧ (∀ a ∈ w1.ho, ∀ o, w1.H a = some o → H a = some o) ∧ H Da = some (.lst av) ∧ RDs X.K w acc.reverse av ∧ acc.length ≤ i ∧ mapR (bodyR cl ws tg cond e δ) (ds.drop i) acc w.st = .ok ys stE
  refine ⟨fun i m H => m = ds.length - i ∧ i ≤ ds.length ∧ P i H, ⟨ds.length, by simp, Nat.zero_le _, ?_⟩, ?_⟩
  · refine ⟨[], w1.hole Da, [], rfl, S1.hole hD, rfl, Mv.hole hD, fun a ha o h => ?_, upd_same, .nil, Nat.le_refl _, hm⟩
    rw [upd_ne (ne_of_none h hD)]; exact h
  rintro i m H ⟨rfl, hi, acc, w, av, rfl, S, hho, mv, hol, hav, rav, hacc, hmap⟩
  obtain ⟨jg, js, jy⟩ := jok w mv S
  have Dm : Da ∈ w.ho := by rw [hho]; simp
  by_cases hlt : i < ds.length
  · refine .inr ⟨jg i hlt, P (i + 1), fun H' p => ⟨ds.length - (i + 1), by omega, rfl, hlt, p⟩, fun x H' hy => ?_⟩
    obtain ⟨d, hd, xY, SY, rd⟩ := jy i x H' hlt hy
    have hdrop : ds.drop i = d :: ds.drop (i + 1) := by
      obtain ⟨h1, h2⟩ := List.getElem?_eq_some_iff.mp hd
      rw [List.drop_eq_getElem_cons h1, h2]
    rw [hdrop] at hmap
    unfold mapR at hmap
    obtain ⟨o, st', hb, hmap⟩ := bind_ok hmap
    obtain ⟨δ1, hsub, hasg, b, st2, hc, hb⟩ := body_ok hb
    have LY : LR X.K ⟨w.β, w.st, H', w.ho⟩ (wipe δ ws) (L2.wipe σ ws) := ((L.mv mv).ext xY).wipe ws
    refine ⟨_, _, δ1, d, rfl, SY, LY, rd, hasg, fun σ2 L2' only => ⟨only.wipe hsub, _, δ1, rfl, SY, L2', ?_⟩⟩
    show Pst X.K xr _ (evc cl cond δ1 w.st) _ _ _
    rw [hc]
    intro β3 H3 b' x3 S3 e3
    subst e3
    have hol3 : ∀ a ∈ w.ho, ∀ o, w.H a = some o → H3 a = some o := fun a ha o h => x3.hol a ha o (xY.hol a ha o h)
    have mv3 : Mv w1 ⟨β3, st2, H3, w.ho⟩ := mv.trans (xY.trans x3).mv
    rcases hb with ⟨rfl, y, hy, rfl⟩ | ⟨rfl, rfl, rfl⟩
    · rw [if_pos rfl]
      refine ⟨_, δ1, rfl, S3, L2'.ext x3, ?_⟩
      show Pst X.K xr _ (ev cl e false δ1 st2) _ _ _
      rw [hy]
      intro β4 H4 v x4 S4 r4
      have hol4 : ∀ a ∈ w.ho, ∀ o, w.H a = some o → H4 a = some o := fun a ha o h => x4.hol a ha o (hol3 a ha o h)
      have hl : av.length ≤ i := by have := rav.length; simp at this; omega
      refine ⟨av, hol4 Da Dm _ hav, ?_, y :: acc, Wd.fill ⟨β4, st', H4, w.ho⟩ Da (.lst (av ++ [v])), av ++ [v], rfl, S4.fill Dm, hho, (mv3.trans x4.mv).trans (Mv.fill Dm), fun a ha o h => ?_, upd_same, ?_, ?_, hmap⟩
      · have := fits_le hf
        omega
      · have ha' : a ∈ w.ho := by rw [hho]; exact List.mem_cons_of_mem _ ha
        have := hol4 a ha' o (hol a ha o h)
        rw [upd_ne (ne_of_none h hD)]; exact this
      · rw [List.reverse_cons]
        have mf : Mv ⟨β4, st', H4, w.ho⟩ (Wd.fill ⟨β4, st', H4, w.ho⟩ Da (.lst (av ++ [v]))) := Mv.fill Dm
        exact ((rav.mv ((xY.trans x3).trans x4).mv).mv mf).append (.cons (RD.mv mf r4) .nil)
      · simp; omega
    · rw [if_neg Bool.false_ne_true]
      refine ⟨acc, ⟨β3, st', H3, w.ho⟩, av, rfl, S3, hho, mv3, fun a ha o h => hol3 a (by rw [hho]; exact List.mem_cons_of_mem _ ha) o (hol a ha o h), hol3 Da Dm _ hav, rav.ext (xY.trans x3), by omega, hmap⟩
  · have e : i = ds.length := by omega
    subst e
    rw [List.drop_length] at hmap
    unfold mapR at hmap
    injection hmap with e1 e2
    subst e1; subst e2
    have hsub : ∀ a ∈ w1.ho, a ∈ w.ho := fun a ha => by rw [hho]; exact List.mem_cons_of_mem _ ha
    refine .inl ⟨js, hq w.β w.H (.ref Da) ⟨(mv.trans (Mv.heal hsub)).pre, (mv.trans (Mv.heal hsub)).keep, rfl, hol⟩ (S.heal hsub) ?_⟩
    rw [RD]
    refine ⟨Da, av, rfl, hav, fun z => ?_, rav.mv (Mv.heal hsub)⟩
    rcases z with z | ⟨j, m, z, _⟩
    · obtain ⟨o', q, _⟩ := S1.hoL Da z
      rw [hD] at q; cases q
    · exact S.sep Da Dm (List.mem_of_getElem? z)
theorem lc_read {it : I} {tg : T} {cond : Eo} {e : E} {ws : List Nat} {σ : L2.St} {H : Hp} {Q : VK} (h : TEv X xr cl W (.lc ws tg it cond e) σ H Q) : tLc (TIv X xr cl W it) (TGv X tg) (TCv X xr cl WF cond) (TEv X xr cl WF e) ws σ H Q := by
  obtain ⟨w, δ, e, S, L, h⟩ := h
  subst e
  simp only [ev, tst] at h
  refine ⟨w, δ, rfl, S, L, h.bind fun ds w1 J x1 S1 jok h1 => ?_⟩
  cases q : mapR (bodyR cl ws tg cond _ δ) ds [] w1.st with
  | ok ys stE =>
    have h1 := cast (congrArg (fun r => Pst X.K xr w1 ((noX r).bind fun ys st2 => okb (fits ds.length) (.lst ys) st2) (RD X.K) Q _) q) h1
    obtain ⟨hf, h2⟩ := Pst.okb (show Pst X.K xr w1 (okb (fits ds.length) (.lst ys) stE) _ _ _ from h1)
    exact lc_walk S1 (L.ext x1) jok q hf h2
  | exc c p st1 =>
    have h1 := cast (congrArg (fun r => Pst X.K xr w1 ((noX r).bind fun ys st2 => okb (fits ds.length) (.lst ys) st2) (RD X.K) Q _) q) h1
    exact h1.elim
  | bad =>
    have h1 := cast (congrArg (fun r => Pst X.K xr w1 ((noX r).bind fun ys st2 => okb (fits ds.length) (.lst ys) st2) (RD X.K) Q _) q) h1
    exact h1.elim
end
end PV
set_option Elab.async false
set_option linter.all false
set_option maxRecDepth 100000
set_option maxHeartbeats 1000000
/-! PV16: dicts walked: locked meanwhile. -/
namespace PV
open PySem PySem.Spec PyProof.Rows L2
variable {K : PySem.W.Frag}
def DTo (kvs : List (List Key × V)) (o : HO) : Prop := o = .dT kvs ∨ ∃ od, o = .frz od (.dT kvs)
abbrev Wd.lk (w : Wd) (a : Addr) (o : HO) : Wd := ⟨w.β, w.st, upd w.H a o, w.ho⟩
structure Lk (w : Wd) (a : Addr) (kvs : List (List Key × V)) (o : HO) : Prop where
  was : ∃ u, w.H a = some u ∧ DTo kvs u
  is_ : DTo kvs o
  nl : ¬ live w a
section
variable {w : Wd} {a : Addr} {kvs : List (List Key × V)} {o : HO}
theorem Lk.ne (l : Lk w a kvs o) {b : Addr} {u : HO} (h : w.H b = some u) (d : ∀ od, u ≠ .dT kvs ∧ u ≠ .frz od (.dT kvs)) : b ≠ a := fun z => by
  obtain ⟨u', e, q⟩ := l.was
  rw [z, e] at h
  injection h with h
  subst h
  rcases q with q | ⟨od, q⟩
  · exact (d default).1 q
  · exact (d od).2 q
mutual
theorem RD.lk (l : Lk w a kvs o) : ∀ {d : D} {v : V}, RD K w d v → RD K (w.lk a o) d v
  | .non, v, h => by simpa [RD] using h
  | .bl b, v, h => by simpa [RD] using h
  | .int i, v, h => by simpa [RD] using h
  | .str s, v, h => by simpa [RD] using h
  | .tup k ds, v, h => by
    rw [RD] at h ⊢
    obtain ⟨b, xs, e, h1, h2⟩ := h
    refine ⟨b, xs, e, ?_, RDs.lk l h2⟩
    cases k with
    | true => exact h1
    | false =>
      simp only [Bool.false_eq_true, if_false] at h1 ⊢
      exact ⟨by show upd w.H a o b = _; rw [upd_ne (l.ne h1.1 fun od => ⟨fun z => (nomatch z), fun z => (nomatch z)⟩)]; exact h1.1, h1.2⟩
  | .lst ds, v, h => by
    rw [RD] at h ⊢
    obtain ⟨b, xs, e, h1, h3, h2⟩ := h
    exact ⟨b, xs, e, by show upd w.H a o b = _; rw [upd_ne (l.ne h1 fun od => ⟨fun z => (nomatch z), fun z => (nomatch z)⟩)]; exact h1, h3, RDs.lk l h2⟩
  | .dct ks ds, v, h => by
    rw [RD] at h ⊢
    obtain ⟨b, kvs', e, h1, h3, h4, h2⟩ := h
    refine ⟨b, kvs', e, ?_, h3, h4, RDs.lk l h2⟩
    by_cases q : b = a
    · subst q
      have ek : kvs' = kvs := by
        obtain ⟨u', e', q'⟩ := l.was
        rcases h1 with h1 | ⟨od, h1⟩ <;> rw [e'] at h1 <;> injection h1 with h1 <;> subst h1 <;> rcases q' with q' | ⟨od', q'⟩ <;> cases q' <;> rfl
      subst ek
      rcases l.is_ with z | ⟨od, z⟩
      · exact .inl (by show upd w.H b o b = _; rw [upd_same, z])
      · exact .inr ⟨od, by show upd w.H b o b = _; rw [upd_same, z]⟩
    · rcases h1 with h1 | ⟨od, h1⟩
      · exact .inl (by show upd w.H a o b = _; rw [upd_ne q]; exact h1)
      · exact .inr ⟨od, by show upd w.H a o b = _; rw [upd_ne q]; exact h1⟩
  | .ref j, v, h => by rw [RD] at h ⊢; exact h
  | .fn _, v, h => by simp [RD] at h
  | .scr ns, v, h => by
    rw [RD] at h ⊢
    obtain ⟨b, e, h⟩ := h
    refine ⟨b, e, ?_⟩
    rcases h with ⟨h1 | ⟨ob, h1⟩, h2⟩ | h
    · exact .inl ⟨.inl (by show upd w.H a o b = _; rw [upd_ne (l.ne h1 fun od => ⟨fun z => (nomatch z), fun z => (nomatch z)⟩)]; exact h1), h2⟩
    · exact .inl ⟨.inr ⟨ob, by show upd w.H a o b = _; rw [upd_ne (l.ne h1 fun od => ⟨fun z => (nomatch z), fun z => (nomatch z)⟩)]; exact h1⟩, h2⟩
    · exact .inr h
  | .exn _ _, v, h => by simp [RD] at h
theorem RDs.lk (l : Lk w a kvs o) : ∀ {ds : List D} {vs : List V}, RDs K w ds vs → RDs K (w.lk a o) ds vs
  | [], vs, h => by simpa [RDs] using h
  | d :: ds, vs, h => by
    obtain ⟨v, r, e, h1, h2⟩ := RDs.cons_inv h
    subst e
    exact .cons (RD.lk l h1) (RDs.lk l h2)
end
theorem StoOk.lk (l : Lk w a kvs o) (S : StoOk K w) : StoOk K (w.lk a o) := by
  refine ⟨S.len, S.nd, fun j m e => ?_, fun b hb => noO_upd (by rcases l.is_ with z | ⟨od, z⟩ <;> subst z <;> exact ⟨fun _ z => (nomatch z), fun _ z => (nomatch z), fun _ z => (nomatch z)⟩) fun _ => S.occ b hb, fun b hb => ?_, S.sep, tabs_upd S.tab fun u hu => by
    obtain ⟨u', e, q⟩ := l.was
    rw [hu] at e; cases e
    rcases q with z | ⟨od, z⟩ <;> subst z <;> exact .inl ⟨fun _ z => (nomatch z), fun _ z => (nomatch z), fun _ z => (nomatch z)⟩⟩
  · obtain ⟨b, e1, k1⟩ := S.at_ j m e
    have hne : b ≠ a := fun z => l.nl (.inr ⟨j, m, by rw [← z]; exact e1, e⟩)
    refine ⟨b, e1, ?_⟩
    cases m with
    | lst ds =>
      obtain ⟨xs, h1, h2⟩ := k1
      exact ⟨xs, by show upd w.H a o b = _; rw [upd_ne hne]; exact h1, h2.lk l⟩
    | dct ks ds =>
      obtain ⟨xs, h1, h3, h2⟩ := k1
      exact ⟨xs, by show upd w.H a o b = _; rw [upd_ne hne]; exact h1, h3, h2.lk l⟩
  · have hne : b ≠ a := fun z => l.nl (.inl (by rw [← z]; exact hb))
    obtain ⟨o', e, n⟩ := S.hoL b hb
    exact ⟨o', by show upd w.H a o b = _; rw [upd_ne hne]; exact e, n⟩
theorem LR.lk {δ : Sl} {σ : L2.St} (l : Lk w a kvs o) (h : LR K w δ σ) : LR K (w.lk a o) δ σ := ⟨h.1, fun i d e => let ⟨v, h1, h2⟩ := h.2 i d e; ⟨v, h1, h2.lk l⟩⟩
/-- locked, walked on, let go -/
theorem Ext.unlock {u : HO} {w' : Wd} (hu : w.H a = some u) (du : DTo kvs u) (l : Lk w a kvs o) (x : Ext (w.lk a o) w') : w'.H a = some o ∧ Lk w' a kvs u ∧ Ext w (w'.lk a u) := by
  have nl : ¬ live (w.lk a o) a := l.nl
  have ho : (w.lk a o).H a = some o := upd_same
  have im : imm o := by rcases l.is_ with z | ⟨od, z⟩ <;> subst z <;> trivial
  obtain ⟨k1, k2⟩ := x.keep a o ho im nl
  refine ⟨k1, ⟨⟨o, k1, l.is_⟩, du, k2⟩, ⟨x.pre, fun b ob e i n => ?_, x.ho, fun b hb ob e => ?_⟩⟩
  · by_cases q : b = a
    · subst q
      rw [hu] at e
      injection e with e
      subst e
      exact ⟨upd_same, k2⟩
    · have e' : (w.lk a o).H b = some ob := by show upd w.H a o b = _; rw [upd_ne q]; exact e
      obtain ⟨m1, m2⟩ := x.keep b ob e' i n
      exact ⟨by show upd w'.H a u b = _; rw [upd_ne q]; exact m1, m2⟩
  · have q : b ≠ a := fun z => l.nl (.inl (by rw [← z]; exact hb))
    have e' : (w.lk a o).H b = some ob := by show upd w.H a o b = _; rw [upd_ne q]; exact e
    have := x.hol b hb ob e'
    show upd w'.H a u b = _
    rw [upd_ne q]; exact this
end
theorem jok_keys {w0 : Wd} {a : Addr} {od : Obj} {kvs : List (List Key × V)} {ks : List (List Int)} (h : w0.H a = some (.frz od (.dT kvs))) (n : ¬ live w0 a) (hk : kvs.map (·.1) = ks.map (·.map Sum.inl)) : JOk K w0 (Itkt a od kvs) (ks.map ofKey) := jok_same fun w x S => by
  obtain ⟨h1, _⟩ := x.keep a _ h trivial n
  have hl : kvs.length = ks.length := by have := congrArg List.length hk; simpa using this
  rw [List.length_map]
  refine ⟨fun i hi => ⟨h1, by omega⟩, ⟨h1, by omega⟩, fun i y H' hi q => ?_⟩
  obtain ⟨rfl, k, v, b, e1, rfl, e2⟩ := q
  refine ⟨rfl, ofKey (ks[i]'hi), by simp [hi], .key S ?_⟩
  have e3 : (kvs.map (·.1))[i]? = some k := by rw [List.getElem?_map, e1]; rfl
  rw [hk, List.getElem?_map, List.getElem?_eq_getElem hi] at e3
  injection e3 with e3
  have e3 : (ks[i]'hi).map Sum.inl = k := e3
  rw [e3]; exact e2
section
variable {X : Cx} {xr : XR} {cl : Nat → List D → Sto → R D} {W : WX}
theorem lcK_read {x : Nat} {tg : T} {cond : Eo} {e : E} {ws : List Nat} {σ : L2.St} {H : Hp} {Q : VK} (h : TEv X xr cl W (.lcK ws tg x cond e) σ H Q) :
    tLockE (tLc (iKeys (tVar x)) (TGv X tg) (TCv X xr cl WF cond) (TEv X xr cl WF e) ws) σ H Q ∨ tLc (iKeys (tVar x)) (TGv X tg) (TCv X xr cl WF cond) (TEv X xr cl WF e) ws σ H Q := by
  obtain ⟨w, δ, eH, S, L, h⟩ := h
  subst eH
  simp only [ev, tst] at h
  split at h
  · rename_i ks vs hx
    obtain ⟨v, hσ, r⟩ := L.2 x _ hx
    rw [RD] at r
    obtain ⟨a, kvs, rfl, h1, h3, h4, h2⟩ := r
    have key : ∃ ys stE, mapR (bodyR cl ws tg cond e δ) (ks.map ofKey) [] w.st = .ok ys stE ∧ fits ks.length = true ∧ Pst X.K xr w (.ok (.lst ys) stE) (RD X.K) Q (fun c d H' => W c d σ H') := by
      cases q : mapR (bodyR cl ws tg cond e δ) (ks.map ofKey) [] w.st with
      | ok ys stE =>
        have h1 := cast (congrArg (fun r => Pst X.K xr w ((noX r).bind fun ys st2 => okb (fits ks.length) (.lst ys) st2) (RD X.K) Q _) q) h
        obtain ⟨hf, h2⟩ := Pst.okb (show Pst X.K xr w (okb (fits ks.length) (.lst ys) stE) _ _ _ from h1)
        exact ⟨ys, stE, rfl, hf, h2⟩
      | exc c p st1 =>
        have h1 := cast (congrArg (fun r => Pst X.K xr w ((noX r).bind fun ys st2 => okb (fits ks.length) (.lst ys) st2) (RD X.K) Q _) q) h
        exact h1.elim
      | bad =>
        have h1 := cast (congrArg (fun r => Pst X.K xr w ((noX r).bind fun ys st2 => okb (fits ks.length) (.lst ys) st2) (RD X.K) Q _) q) h
        exact h1.elim
    obtain ⟨ys, stE, hm, hf, hq⟩ := key
    have hf' : fits (ks.map ofKey).length = true := by rw [List.length_map]; exact hf
    rcases h1 with h1 | ⟨od, h1⟩
    · refine .inl ⟨a, .dT kvs, h1, trivial, fun od => ?_⟩
      have l : Lk w a kvs (.frz od (.dT kvs)) := ⟨⟨_, h1, .inl rfl⟩, .inr ⟨od, rfl⟩, h3⟩
      have hl : (w.lk a (.frz od (.dT kvs))).H a = some (.frz od (.dT kvs)) := upd_same
      refine ⟨.ref a, hσ, a, od, rfl, .inr ⟨kvs, hl, ?_⟩⟩
      refine lc_walk (xr := xr) (Q := fun v H' => H' a = some (.frz od (.dT kvs)) ∧ Q v (upd H' a (.dT kvs))) (w1 := w.lk a (.frz od (.dT kvs))) (S.lk l) (L.lk l) (jok_keys hl h3 h4) hm hf' fun β' H' v x' S' r' => ?_
      obtain ⟨k1, k2, k3⟩ := Ext.unlock h1 (.inl rfl) l x'
      exact ⟨k1, hq β' _ v k3 (S'.lk k2) (r'.lk k2)⟩
    · exact .inr ⟨.ref a, hσ, a, od, rfl, .inr ⟨kvs, h1, lc_walk S L (jok_keys h1 h3 h4) hm hf' hq⟩⟩
  · exact h.elim
end
end PV
set_option Elab.async false
set_option linter.all false
set_option maxRecDepth 100000
set_option maxHeartbeats 1000000
/-! PV17: {**a, k: v}, keys that are tuples of ints. -/
namespace PVM
open PySem
section
variable {prog : Program} {w : World} {K : Type} [DecidableEq K] {knd : HeapKind prog w K} {A : Around} {E : Value → Shared → Prop} {s : Shared}
theorem put_heap {d a : Addr} {xs : List (K × Addr × Value)} {k : K} {v : Value} {Q : Unit → Shared → Prop} (hu : knd.room A) (hkey : knd.is s.heap k a) (hm : s.heap.DictOfH knd d xs)
    (hQ : ∀ h', h'.DictOfH knd d (storedH xs k a v) → Heap.SameBut d s.heap h' → Q () { s with heap := h' })
    (hsz : xs.length ≤ sizeLine) :
    wpAny (model prog w) A (dictPut d (knd.hash k) (.ref a) v) Q E s := by
  obtain ⟨o, es, ep, ho, hc, hd, he, his, hn⟩ := hm
  unfold dictPut
  refine wpAny_bind (wpAny_dictFind_heap hu hkey ho hd he his hn ?_ ?_)
  · intro hno
    have hnot : k ∉ xs.map (·.1) := not_mem_keys_of_get hno
    refine wpAny_updateDictKeys (hz := by have e := size_of_entries he; omega) ho hd (hQ _ ⟨_, _, ep + 1, Heap.get?_update_self _ ho (Obj.isFreed_of_dict (Obj.data_mapDictKeys hd _)),
      hc.mapDictKeys _, Obj.data_mapDictKeys hd _, ?_, ?_, ?_⟩ (Heap.SameBut.update ..))
    · rw [storedH_new (atKey_none_of_get hno)]
      simp [he, entryOfKey]
    · rw [storedH_new (atKey_none_of_get hno)]
      intro x hx
      rcases List.mem_append.mp hx with hx | hx
      · exact knd.keeps (his x hx) ho hd (Heap.SameBut.update ..)
      · simp only [List.mem_singleton] at hx
        subst hx
        exact knd.keeps hkey ho hd (Heap.SameBut.update ..)
    · rw [storedH_new (atKey_none_of_get hno)]
      rw [List.map_append, List.nodup_append]
      refine ⟨hn, by simp, ?_⟩
      intro x hx y hy
      simp only [List.map_cons, List.map_nil, List.mem_singleton] at hy
      subst hy
      exact fun e => hnot (e ▸ hx)
  · intro j p hj
    refine wpAny_updateDict ho hd (hQ _ ⟨_, _, ep, Heap.get?_update_self _ ho (Obj.isFreed_of_dict (Obj.data_mapDict hd _)),
      hc.mapDict _, Obj.data_mapDict hd _, ?_, ?_, ?_⟩ (Heap.SameBut.update ..))
    · rw [storedH_old (atKey_of_get hn hj)]
      have := modify_map_putAt (entryOfKey knd) (fun e : DictEntry => { e with val := v }) k v (fun _ _ => rfl) hn hj
      rw [← he] at this
      obtain ⟨l⟩ := es
      simpa using this
    · rw [storedH_old (atKey_of_get hn hj)]
      intro x hx
      obtain ⟨y, hy, rfl⟩ := List.mem_map.mp hx
      unfold putAt
      split <;> exact knd.keeps (his y hy) ho hd (Heap.SameBut.update ..)
    · rw [storedH_old (atKey_of_get hn hj)]
      rw [keys_map_putAt]; exact hn
theorem merge_loop {d o : Addr} {oo : Obj} {eso : Array DictEntry} {epo : Nat} {kvs more : List (K × Addr × Value)} {Q : Unit → Shared → Prop} (hu : knd.room A) (hdo : d ≠ o)
    (hd : s.heap.DictOfH knd d kvs) (ho : s.heap.DictOfH knd o more) (hoo : s.heap.get? o = some oo) (hdo' : oo.data = .dict eso epo) (heo : eso.toList = more.map (entryOfKey knd)) (hlen : eso.size = more.length)
    (hQ : ∀ h', h'.DictOfH knd d (storedAllH kvs more) → h'.DictOfH knd o more → Heap.SameBut d s.heap h' → Q () { s with heap := h' })
    (hsz : kvs.length + more.length ≤ sizeLine) :
    wpAny (model prog w) A (forIn (List.range eso.size) PUnit.unit fun i (_ : PUnit) => (do
                    let l ← dictEntries o
                    match l[i]? with
                      | some e => do
                        holding [e.key, e.val]
                            (if false = true then do
                              let f ← dictFind d e.key e.hash
                              if f.isSome = true then do
                                  rule "dict.merge.duplicate-key"
                                  let x ← newExc (Value.type "KeyError") [e.key]
                                  raiseNew x
                                  dictPut d e.hash e.key e.val
                                else dictPut d e.hash e.key e.val
                            else dictPut d e.hash e.key e.val)
                        let ep' ← dictEpoch o
                        if (ep' != epo) = true then do
                            (unsupported "dict.changed-during-merge" : Sem PUnit)
                            pure (ForInStep.yield PUnit.unit)
                          else pure (ForInStep.yield PUnit.unit)
                      | _ => do
                        (unsupported "dict.changed-during-merge" : Sem PUnit)
                        pure (ForInStep.yield PUnit.unit) : Sem (ForInStep PUnit))) (fun _ s' => wpAny (model prog w) A (pure ()) Q E s') E s := by
  rw [List.range_eq_range']
  refine wpAny_forIn_list _
    (fun rest _ s' => ∃ h' i, s' = { s with heap := h' } ∧ rest = List.range' i (eso.size - i) ∧ i ≤ eso.size ∧ h'.DictOfH knd d (storedAllH kvs (more.take i)) ∧ h'.DictOfH knd o more ∧ h'.get? o = some oo ∧ Heap.SameBut d s.heap h')
    _ ?_ ?_ _ _ ⟨s.heap, 0, rfl, by simp, Nat.zero_le _, by simpa [storedAllH] using hd, ho, hoo, Heap.SameBut.refl _ _⟩
  · rintro x rest b s' ⟨h', i, rfl, hr, hi, hd', ho', hoo', hs'⟩
    have hlt : i < eso.size := by
      rcases Nat.lt_or_ge i eso.size with h | h
      · exact h
      · rw [Nat.sub_eq_zero_of_le h] at hr; simp at hr
    obtain ⟨rfl, hrest⟩ : x = i ∧ rest = List.range' (i + 1) (eso.size - (i + 1)) := by
      have e : eso.size - i = (eso.size - (i + 1)) + 1 := by omega
      rw [e, List.range'_succ] at hr
      injection hr with h1 h2
      exact ⟨h1, h2⟩
    refine wpAny_bind (wpAny_dictEntries hoo' hdo' ?_)
    obtain ⟨⟨k, a, v⟩, hkv⟩ : ∃ kv, more[x]? = some kv := ⟨more[x]'(by rw [← hlen]; exact hlt), List.getElem?_eq_getElem _⟩
    rw [entry_at heo x, hkv]
    show wpAny _ _ (holding [.ref a, v] (dictPut d (knd.hash k) (.ref a) v) >>= _) _ _ _
    have hmx : (storedAllH kvs (more.take x)).length ≤ sizeLine := by
      have e1 := storedAllH_length (more.take x) kvs
      have e2 : (more.take x).length ≤ more.length := by rw [List.length_take]; omega
      omega
    have hkey : knd.is h' k a := by
      obtain ⟨_, _, _, _, _, _, _, his', _⟩ := ho'
      exact his' (k, a, v) (List.mem_of_getElem? hkv)
    refine wpAny_bind (wpAny_holding (put_heap (s := { s with heap := h' }) (hsz := hmx) hu hkey hd' fun h'' hd'' hs'' => ?_))
    have hoo'' : h''.get? o = some oo := (hs''.2 o (Ne.symm hdo)).trans hoo'
    refine wpAny_bind (wpAny_dictEpoch hoo'' hdo' ?_)
    rw [if_neg (by simp)]
    exact wpAny_pure ⟨h'', x + 1, rfl, hrest, hlt, by rw [storedAllH_take_succ kvs more x (k, a, v) hkv]; exact hd'', ho'.notHere hd' hdo hs'', hoo'', hs'.trans hs''⟩
  · rintro b s' ⟨h', i, rfl, hr, hi, hd', ho', hoo', hs'⟩
    have hin : i = eso.size := by
      rcases Nat.lt_or_ge i eso.size with h | h
      · have e : eso.size - i = (eso.size - (i + 1)) + 1 := by omega
        rw [e, List.range'_succ] at hr; exact nomatch hr
      · exact Nat.le_antisymm hi h
    refine wpAny_pure (hQ h' ?_ ho' hs')
    rw [hin, hlen, List.take_length] at hd'; exact hd'
theorem merge_heap {d o : Addr} {kvs more : List (K × Addr × Value)} {Q : Unit → Shared → Prop} (hu : knd.room A) (hdo : d ≠ o) (hoS : (o == sysModules) = false)
    (hd : s.heap.DictOfH knd d kvs) (ho : s.heap.DictOfH knd o more) (hap : kvs ≠ [] ∨ ((∀ x ∈ more, s.TypeIs (.ref x.2.1) "tuple") ∧ (more.map fun x => knd.hash x.1).Nodup))
    (hQ : ∀ h', h'.DictOfH knd d (storedAllH kvs more) → h'.DictOfH knd o more → Heap.SameBut d s.heap h' → Q () { s with heap := h' })
    (hsz : kvs.length + more.length ≤ sizeLine) :
    wpAny (model prog w) A (mergeMapping d (.ref o) false) Q E s := by
  obtain ⟨od, esd, epd, hod, hcd, hdd, hed, hisd, hnd⟩ := id hd
  obtain ⟨oo, eso, epo, hoo, hco, hdo', heo, hiso, hno⟩ := id ho
  have hT : s.TypeIs (.ref o) "dict" := ho.typeIs
  have hlen : eso.size = more.length := size_of_entries heo
  have hap2 : esd.isEmpty = true → ∀ e ∈ eso.toList, PySem.KeyApart s eso e := fun hemp => by
    have hkvs : kvs = [] := by
      have h0 : esd = #[] := Array.isEmpty_iff.mp hemp
      have := size_of_entries hed
      rw [h0] at this
      exact List.length_eq_zero_iff.mp (by simpa using this.symm)
    have hap' := hap.resolve_left fun h => h hkvs
    exact keysApart heo hap'.1 hap'.2
  unfold mergeMapping
  refine wpAny_bind (wpAny_isInstance hT isSubtype_dict_dict ?_)
  rw [if_pos rfl]
  refine wpAny_bind (wpAny_specialOf hT F.slot_dict_iter.lookup ?_)
  refine wpAny_bind (wpAny_pure ?_)
  simp only [beq_self_eq_true]
  rw [if_neg (by rw [hoS]; exact Bool.false_ne_true)]
  refine wpAny_bind (wpAny_dictEntries hod hdd ?_)
  split
  · rename_i hemp
    have hq := hap2 hemp
    refine wpAny_bind (wpAny_dictEntries hoo hdo' ?_)
    refine wpAny_bind ?_
    rw [← Array.forIn_toList]
    refine wpAny_forIn_list _ (fun rest _ s' => s' = s ∧ ∀ e ∈ rest, PySem.KeyApart s eso e) _ ?_ ?_ _ _ ⟨rfl, hq⟩
    · rintro e rest b s' ⟨rfl, hall⟩
      have hrest : ∀ x ∈ rest, PySem.KeyApart s' eso x := fun x hx => hall x (List.mem_cons_of_mem _ hx)
      rcases hall e List.mem_cons_self with hv | ⟨a, hk, hT, h1⟩
      · cases hkk : e.key <;> rw [hkk] at hv <;> first | exact wpAny_pure ⟨rfl, hrest⟩ | (exact absurd hv Bool.false_ne_true) | skip
        all_goals (simp [carriedByValue] at hv)
      · rw [hk]
        refine wpAny_bind (wpAny_specialOf hT F.slot_tuple_eq.lookup ?_)
        refine wpAny_ite_split (fun _ => ?_) (fun _ => wpAny_pure ⟨rfl, hrest⟩)
        rw [if_neg (by omega)]
        exact wpAny_pure ⟨rfl, hrest⟩
    · rintro b s' ⟨rfl, _⟩
      refine wpAny_bind (wpAny_dictEntries hoo hdo' ?_)
      refine wpAny_bind (wpAny_dictEpoch hoo hdo' ?_)
      refine wpAny_bind ?_
      exact merge_loop hu hdo hd ho hoo hdo' heo hlen hQ hsz
  · refine wpAny_bind (wpAny_dictEntries hoo hdo' ?_)
    refine wpAny_bind (wpAny_dictEpoch hoo hdo' ?_)
    refine wpAny_bind ?_
    exact merge_loop hu hdo hd ho hoo hdo' heo hlen hQ hsz
end
end PVM
namespace PV
open PySem PySem.Spec PyProof.Rows L2
variable {K : PySem.W.Frag}
/-! ### the hashes of small pairs are apart -/
theorem hi (i : Nat) (h : i < 256) : hashInt (i : Int) = i := by
  have e : rawHash (i : Int) = i := by
    have e1 : (((i : Int).natAbs : Int) % ((2 ^ 61 - 1 : Nat) : Int)) = i := by omega
    unfold rawHash
    simp only [e1, beq_iff_eq]
    rw [if_neg (by omega), if_neg (by omega)]
  unfold hashInt
  rw [e]
  simp only [beq_iff_eq]
  rw [if_neg (by omega)]
def hashK (k : List Int) : Int := reduceHash (Builtin.Tuple.tupleHashOf (k.map hashInt))
theorem keyOk_spec {k : List Int} (h : keyOk k = true) : ∃ i j : Nat, i < 256 ∧ j < 256 ∧ k = [(i : Int), (j : Int)] := by
  unfold keyOk at h
  split at h
  · rename_i i j
    simp only [Bool.and_eq_true, decide_eq_true_eq] at h
    exact ⟨i.toNat, j.toNat, by omega, by omega, by rw [Int.toNat_of_nonneg h.1.1.1, Int.toNat_of_nonneg h.1.2]⟩
  · cases h
theorem hashK_inj {a b : List Int} (ha : keyOk a = true) (hb : keyOk b = true) (h : hashK a = hashK b) : a = b := by
  obtain ⟨i, j, h1, h2, rfl⟩ := keyOk_spec ha
  obtain ⟨i', j', h3, h4, rfl⟩ := keyOk_spec hb
  unfold hashK at h
  simp only [List.map_cons, List.map_nil, hi i h1, hi j h2, hi i' h3, hi j' h4] at h
  obtain ⟨e1, e2⟩ := PVH.tup_inj h1 h2 h3 h4 h
  rw [e1, e2]
theorem hashKind {P : Program} {w : World} (k : List Int) : (tupleKind (mixKind P w)).hash (k.map Sum.inl) = hashK k := by
  show reduceHash (Builtin.Tuple.tupleHashOf ((k.map Sum.inl).map (mixKind P w).hash)) = _
  rw [List.map_map]
  rfl
theorem hashes_nodup {P : Program} {w : World} {ks : List (List Int)} (hk : ks.all keyOk = true) (hn : (ks.map fun k => (k.map Sum.inl : List Key)).Nodup) : (ks.map fun k => (tupleKind (mixKind P w)).hash (k.map Sum.inl)).Nodup := by
  induction ks with
  | nil => exact List.nodup_nil
  | cons a l ih =>
    simp only [List.all_cons, Bool.and_eq_true] at hk
    rw [List.map_cons, List.nodup_cons] at hn ⊢
    refine ⟨fun m => hn.1 ?_, ih hk.2 hn.2⟩
    obtain ⟨b, hb, e⟩ := List.mem_map.mp m
    rw [hashKind, hashKind] at e
    have := hashK_inj (List.all_eq_true.mp hk.2 b hb) hk.1 e
    exact List.mem_map.mpr ⟨b, hb, by rw [this]⟩
/-! ### the display -/
def tStar (P : Program) (wo : World) (ta tk tv : TE) : TE := fun σ H Q => ∀ p, H p = none → ta σ (upd H p (.dT [])) fun x H1 => H1 p = some (.dT []) ∧ ∃ a kvs, x = .ref a ∧ a ≠ p ∧ Rd H1 a (.dT kvs) ∧ (∃ ks : List (List Int), kvs.map (·.1) = ks.map (·.map Sum.inl) ∧ ks.all keyOk = true) ∧ kvs.length < sizeLine ∧
  ∀ q, upd H1 p (.dT kvs) q = none → tk σ (upd (upd H1 p (.dT kvs)) q (.dT [])) fun y H2 => tv σ H2 fun z H3 => ∃ b k, y = .ref b ∧ H3 b = some (.tup (k.map kV)) ∧ H3 p = some (.dT kvs) ∧ H3 q = some (.dT []) ∧ q ≠ p ∧
    Q (.ref p) (upd (upd H3 q (.dT [(k, z)])) p (.dT (L2.putK kvs k z)))
section
variable {X : Cx}
theorem tup_types {H : Hp} {h : Shared} {P : Program} {w : World} (ok : HOk P w H h.heap) : ∀ {kvs : List (List Key × V)} {xs : List (List Key × Addr × Value)}, KT H kvs xs → ∀ x ∈ xs, h.TypeIs (.ref x.2.1) "tuple"
  | _, _, .nil, x, hx => by simp at hx
  | _, _, .cons r t, x, hx => by
    rcases List.mem_cons.mp hx with rfl | hx
    · obtain ⟨_, its, _, o, h1, h2, _⟩ := (show ObjOk P w H h.heap _ (.tup _) from ok _ _ r.2.1)
      exact ⟨o, h1, h2⟩
    · exact tup_types ok t x hx
theorem kt_hash {H : Hp} {f : List Key → Int} : ∀ {kvs : List (List Key × V)} {xs : List (List Key × Addr × Value)}, KT H kvs xs → (xs.map fun x => f x.1) = kvs.map fun kv => f kv.1
  | _, _, .nil => rfl
  | _, _, .cons r t => by rw [List.map_cons, List.map_cons, kt_hash t, r.1]
theorem kt_fst {H : Hp} : ∀ {kvs : List (List Key × V)} {xs : List (List Key × Addr × Value)}, KT H kvs xs → xs.map (·.1) = kvs.map (·.1)
  | _, _, .nil => rfl
  | _, _, .cons r t => by rw [List.map_cons, List.map_cons, kt_fst t, r.1]
theorem dT_write {pins : List (Addr × Obj)} {s : Shared} {σ : L2.St} {H : Hp} {h' : Heap} {t' : Nat} {a : Addr} {kvs kvs' : List (List Key × V)} {xs : List (List Key × Addr × Value)} (I : Inv X pins σ H s) (e : H a = some (.dT kvs)) (hs : Heap.SameBut a s.heap h') (rel : KT H kvs' xs) (hz : kvs'.length ≤ sizeLine) (dd : h'.DictOfH (tupleKind (mixKind X.prog X.w)) a xs) :
    Inv X pins σ (upd H a (.dT kvs')) { s with heap := h', toks := t' } := by
  obtain ⟨_, hd, _⟩ := dt_of I.hok e
  obtain ⟨q, es, ep, hq, h2, h3, h4, _, h5⟩ := dd
  refine d_write I (by rw [e]; exact True.intro) hs ⟨q, hq⟩ ⟨hz, hd, _, rel.keeps fun c ys ec => ?_, q, es, ep, hq, h2, h3, h4, h5⟩
  rw [upd_ne (ne_of ec e (fun z => nomatch z))]
  exact ec
theorem pe_star (hu : X.A.units + 64 < cLine) {a k v : Expr} {ta tk tv : TE} {pos : Pos} (ha : PE X a ta) (hk : PE X k tk) (hv : PE X v tv) : PE X (.Dict [none, some k] [a, v] pos) (tStar X.prog X.w ta tk tv) := by
  refine ⟨fun pins s σ H Q I h => ?_⟩
  have hn := I.hok.fresh (Nat.le_refl s.heap.objs.size)
  have hr : (tupleKind (mixKind X.prog X.w)).room X.A := by show X.A.units < cLine; omega
  rw [arm_eval_Dict]
  refine wpAny_bind (wpAny_standAt ?_)
  have e1 : (evalEachOpt [none, some k] X.env).zip ((evalEach [a, v] X.env).map fun v => do let x ← v; standAt pos; pure x) = [(none, do let x ← eval a X.env; standAt pos; pure x), (some (eval k X.env), do let x ← eval v X.env; standAt pos; pure x)] := by
    unfold evalEachOpt evalEachOpt evalEachOpt evalEach evalEach evalEach evalOpt
    rfl
  rw [e1]
  unfold dictDisplay
  dsimp only
  rw [List.forIn_cons]
  refine wpAny_bind (wpAny_bind ?_)
  show wpAny _ _ (Bind.bind (pure none) _) _ _ _
  refine wpAny_bind (wpAny_pure ?_)
  show wpAny _ _ (Bind.bind (PySem.alloc { cls := .type "dict", data := .dict #[] }) _) _ _ _
  refine wpAny_bind (wpAny_alloc ?_)
  have I1 := I.laid (a := s.heap.objs.size) (o := .dT []) (h' := s.heap.push { cls := .type "dict", data := .dict #[] }) (t' := s.toks) (fun _ _ q => Heap.get?_push_of_some _ q) (Nat.le_refl _) (dt_empty s.heap I.big)
  refine wpAny_bind (wpAny_holding (wpAny_bind (thn (ha.run pins _ σ _ _ I1 (h _ hn)) fun u s1 ⟨x, H1, I2, rx, q1⟩ => wpAny_bind (wpAny_standAt (wpAny_pure ?_)))))
  obtain ⟨hp1, a1, kvs, ex, hne, hrd, hnd, hlt, q2⟩ := q1
  subst ex
  obtain rfl : u = Value.ref a1 := rx
  obtain ⟨_, _, xs0, rel0, dd0⟩ := dt_of I2.hok hp1
  cases rel0
  obtain ⟨hz1, hs1, xs1, rel1, dd1⟩ := dt_rd I2.hok hrd
  have hnd : (kvs.map fun kv => (tupleKind (mixKind X.prog X.w)).hash kv.1).Nodup := by
    obtain ⟨ks, hks, hok⟩ := hnd
    have n1 := dd1.nodup
    have e0 : xs1.map (·.1) = kvs.map (·.1) := kt_fst rel1
    rw [e0, hks] at n1
    have e : (kvs.map fun kv => (tupleKind (mixKind X.prog X.w)).hash kv.1) = ks.map fun k => (tupleKind (mixKind X.prog X.w)).hash (k.map Sum.inl) := by
      have := congrArg (List.map (tupleKind (mixKind X.prog X.w)).hash) hks
      simpa [List.map_map, Function.comp_def] using this
    rw [e]
    exact hashes_nodup hok n1
  refine wpAny_bind (wpAny_onRaise (wpAny_tryCatch (wpAny_onRaise (wpAny_holding (PVM.merge_heap hr (Ne.symm hne) hs1 dd0 dd1 (.inr ⟨tup_types I2.hok rel1, by rw [kt_hash rel1]; exact hnd⟩) (fun h1 e1 e2 e3 => ?_) (by simp only [List.length_nil, Nat.zero_add]; rw [← Paired.length rel1]; exact hz1))))))
  rw [storedAllH_nil_of_nodup xs1 dd1.nodup] at e1
  have I3 := dT_write (t' := s1.toks) I2 hp1 e3 rel1 hz1 e1
  refine wpAny_pure ?_
  dsimp only
  rw [List.forIn_cons]
  refine wpAny_bind ?_
  show wpAny _ _ (pure (ForInStep.yield _)) _ _ _
  refine wpAny_pure ?_
  dsimp only
  rw [List.forIn_nil]
  refine wpAny_pure ?_
  refine wpAny_bind ?_
  show wpAny _ _ (Bind.bind (holding [.ref s.heap.objs.size] (subDict [(eval k X.env, do let x ← eval v X.env; standAt pos; pure x)])) _) _ _ _
  refine wpAny_bind (wpAny_holding ?_)
  have hn3 := I3.hok.fresh (Nat.le_refl h1.objs.size)
  have I4 := I3.laid (a := h1.objs.size) (o := .dT []) (h' := h1.push { cls := .type "dict", data := .dict #[] }) (t' := s1.toks) (fun _ _ q => Heap.get?_push_of_some _ q) (Nat.le_refl _) (dt_empty h1 I3.big)
  refine wpAny_subDictH (knd := tupleKind (mixKind X.prog X.w)) (s := { s1 with heap := h1 }) hr (by simp) ?_
  unfold evalPairs
  refine wpAny_bind (thn (hk.run pins _ σ _ _ I4 (q2 _ hn3)) fun ky s2 ⟨y, H2, I5, ry, q3⟩ => ?_)
  refine wpAny_bind (wpAny_holding (wpAny_bind (thn (hv.run pins _ σ _ _ I5 q3) fun vz s3 ⟨z, H3, I6, rz, q4⟩ => wpAny_bind (wpAny_standAt (wpAny_pure ?_)))))
  obtain ⟨b, kk, ey, hb, hp3, hq3, hqp, q5⟩ := q4
  subst ey
  obtain rfl : ky = Value.ref b := ry
  unfold evalPairs
  refine wpAny_bind (wpAny_holding (wpAny_pure (wpAny_pure ?_)))
  have hkey := key_of I6.hok hb
  obtain ⟨_, _, xs2, rel2, dd2⟩ := dt_of I6.hok hq3
  cases rel2
  refine ⟨[(kk, b, vz)], ⟨rfl, rfl, hkey, trivial⟩, dd2, fun h2 tk f1 f2 => ?_⟩
  have relq : KT H3 [(kk, z)] (storedAllH [] [(kk, b, vz)]) := by
    have : storedAllH ([] : List (List Key × Addr × Value)) [(kk, b, vz)] = [(kk, b, vz)] := rfl
    rw [this]
    exact .cons ⟨rfl, hb, rz⟩ .nil
  have I7 := dT_write (t' := tk) I6 hq3 f2 relq (by show 1 ≤ sizeLine; decide) f1
  have hp7 : (upd H3 h1.objs.size (.dT [(kk, z)])) s.heap.objs.size = some (.dT kvs) := by rw [upd_ne (Ne.symm hqp)]; exact hp3
  obtain ⟨hz7, hs7, xs7, rel7, dd7⟩ := dt_of I7.hok hp7
  have hq7 : (upd H3 h1.objs.size (.dT [(kk, z)])) h1.objs.size = some (.dT [(kk, z)]) := upd_same
  obtain ⟨hz8, hs8, xs8, rel8, dd8⟩ := dt_of I7.hok hq7
  refine wpAny_bind (wpAny_onRaise (wpAny_holding (PVM.merge_heap hr (Ne.symm hqp) hs8 dd7 dd8 (.inr ⟨tup_types I7.hok rel8, ?_⟩) (fun h3 g1 g2 g3 => ?_) ?_)))
  · rw [kt_hash rel8]; simp
  · have e8 : ∃ u8, xs8 = [(kk, u8)] ∧ (upd H3 h1.objs.size (.dT [(kk, z)])) u8.1 = some (.tup (kk.map kV)) ∧ RelV z u8.2 := by
      cases rel8 with
      | cons r t =>
        cases t
        rename_i p8
        obtain ⟨k8, u8⟩ := p8
        obtain ⟨r1, r2, r3⟩ := r
        cases r1
        exact ⟨u8, rfl, r2, r3⟩
    obtain ⟨u8, rfl, r2, r3⟩ := e8
    have I8 := dT_write (t' := tk) (xs := storedAllH xs7 [(kk, u8)]) I7 hp7 g3 (KT.put rel7 kk r2 r3) (by have := length_putK kvs kk z; omega) g1
    refine wpAny_pure (wpAny_pure ⟨.ref s.heap.objs.size, _, I8, rfl, q5⟩)
  · have := Paired.length rel7
    have := Paired.length rel8
    simp at this
    omega
end
end PV
set_option Elab.async false
set_option linter.all false
set_option maxRecDepth 100000
set_option maxHeartbeats 1000000
/-! PV18: {**a, k: v} as the evaluator tells it. -/
namespace PV
open PySem PySem.Spec PyProof.Rows L2
variable {K : PySem.W.Frag}
section
variable {X : Cx} {xr : XR} {cl : Nat → List D → Sto → R D} {W : WX}
theorem Pst.noX_bind {α β γ : Type} {w : Wd} {r : R α} {f : α → Sto → R β} {rel : Wd → β → γ → Prop} {Q : γ → Hp → Prop} {E : XK} (h : Pst K xr w ((noX r).bind f) rel Q E) : ∃ a st, r = .ok a st ∧ Pst K xr w (f a st) rel Q E := by
  cases r with
  | ok a st => exact ⟨a, st, rfl, h⟩
  | exc c p st => exact h.elim
  | bad => exact h.elim
theorem star_read {a k v : E} {σ : L2.St} {H : Hp} {Q : VK} (h : TEv X xr cl W (.dstar a k v) σ H Q) : tStar X.prog X.w (TEv X xr cl W a) (TEv X xr cl W k) (TEv X xr cl W v) σ H Q := by
  obtain ⟨w, δ, eH, S, L, h⟩ := h
  subst eH
  simp only [ev, tst] at h
  obtain ⟨x, st1, ea, h⟩ := h.noX_bind
  intro p hp
  have mv1 : Mv w (w.hole p (.dT [])) := Mv.hole hp
  have S1 : StoOk X.K (w.hole p (.dT [])) := S.hole hp
  refine ⟨w.hole p (.dT []), δ, rfl, S1, L.mv mv1, ?_⟩
  show Pst X.K xr _ (ev cl a false δ w.st) _ _ _
  rw [ea]
  intro β1 H1 xv x1 S2 r1
  have hp1 : H1 p = some (.dT []) := x1.hol p (by simp) _ upd_same
  split at h
  · rename_i ks vs
    split at h
    · rename_i hc
      simp only [Bool.and_eq_true] at hc
      obtain ⟨y, st2, ek, h⟩ := h.noX_bind
      obtain ⟨z, st3, ev_, h⟩ := h.noX_bind
      split at h
      · rename_i kk hk
        rw [RD] at r1
        obtain ⟨a1, kvs, rfl, hrd, nl, hkeys, rvs⟩ := r1
        have hl : kvs.length = ks.length := by have := congrArg List.length hkeys; simpa using this
        have hne : a1 ≠ p := fun q => nl (.inl (by rw [q]; simp))
        refine ⟨hp1, a1, kvs, rfl, hne, hrd, ⟨ks, hkeys, hc.1⟩, by rw [hl]; exact fits_lt hc.2, ?_⟩
        · intro q hq
          have pm : p ∈ (⟨β1, st1, H1, p :: w.ho⟩ : Wd).ho := by simp
          have mv2 : Mv ⟨β1, st1, H1, p :: w.ho⟩ (Wd.fill ⟨β1, st1, H1, p :: w.ho⟩ p (.dT kvs)) := Mv.fill pm
          have S3 : StoOk X.K (Wd.fill ⟨β1, st1, H1, p :: w.ho⟩ p (.dT kvs)) := StoOk.fill S2 pm
          have mv3 : Mv (Wd.fill ⟨β1, st1, H1, p :: w.ho⟩ p (.dT kvs)) ((Wd.fill ⟨β1, st1, H1, p :: w.ho⟩ p (.dT kvs)).hole q (.dT [])) := Mv.hole hq
          have S4 : StoOk X.K ((Wd.fill ⟨β1, st1, H1, p :: w.ho⟩ p (.dT kvs)).hole q (.dT [])) := S3.hole hq
          have mvA := (mv1.trans x1.mv).trans (mv2.trans mv3)
          have hqp : q ≠ p := fun z => by rw [z, upd_same] at hq; cases hq
          refine ⟨_, δ, rfl, S4, L.mv mvA, ?_⟩
          show Pst X.K xr _ (ev cl k false δ st1) _ _ _
          rw [ek]
          intro β2 H2 yv x2 S5 r2
          refine ⟨_, δ, rfl, S5, (L.mv mvA).mv x2.mv, ?_⟩
          show Pst X.K xr _ (ev cl v false δ st2) _ _ _
          rw [ev_]
          intro β3 H3 zv x3 S6 r3
          have hp3 : H3 p = some (.dT kvs) := x3.hol p (by simp) _ (x2.hol p (by simp) _ (by show upd (upd H1 p _) q _ p = _; rw [upd_ne (Ne.symm hqp), upd_same]))
          have hq3 : H3 q = some (.dT []) := x3.hol q (by simp) _ (x2.hol q (by simp) _ upd_same)
          obtain ⟨b, rfl, hb, nb⟩ := key_at hk (r2.ext x3)
          refine ⟨b, kk.map Sum.inl, rfl, hb, hp3, hq3, hqp, ?_⟩
          -- the world behind it
          have qm : q ∈ (⟨β3, st3, H3, q :: p :: w.ho⟩ : Wd).ho := by simp
          have mv6 : Mv ⟨β3, st3, H3, q :: p :: w.ho⟩ (Wd.fill ⟨β3, st3, H3, q :: p :: w.ho⟩ q (.dT [(kk.map Sum.inl, zv)])) := Mv.fill qm
          have S7 : StoOk X.K (Wd.fill ⟨β3, st3, H3, q :: p :: w.ho⟩ q (.dT [(kk.map Sum.inl, zv)])) := StoOk.fill S6 qm
          have pm7 : p ∈ (Wd.fill ⟨β3, st3, H3, q :: p :: w.ho⟩ q (.dT [(kk.map Sum.inl, zv)])).ho := by simp
          have mv7 : Mv (Wd.fill ⟨β3, st3, H3, q :: p :: w.ho⟩ q (.dT [(kk.map Sum.inl, zv)])) ((Wd.fill ⟨β3, st3, H3, q :: p :: w.ho⟩ q (.dT [(kk.map Sum.inl, zv)])).fill p (.dT (L2.putK kvs (kk.map Sum.inl) zv))) := Mv.fill pm7
          have S8 : StoOk X.K ((Wd.fill ⟨β3, st3, H3, q :: p :: w.ho⟩ q (.dT [(kk.map Sum.inl, zv)])).fill p (.dT (L2.putK kvs (kk.map Sum.inl) zv))) := StoOk.fill S7 pm7
          have hsub : ∀ a ∈ w.ho, a ∈ ((Wd.fill ⟨β3, st3, H3, q :: p :: w.ho⟩ q (.dT [(kk.map Sum.inl, zv)])).fill p (.dT (L2.putK kvs (kk.map Sum.inl) zv))).ho := fun a ha => by simp [ha]
          have mv8 := Mv.heal hsub
          have S9 := S8.heal hsub
          have mvB := ((mvA.trans x2.mv).trans x3.mv).trans ((mv6.trans mv7).trans mv8)
          refine h β3 _ (.ref p) ⟨mvB.pre, mvB.keep, rfl, fun c hcm o e => ?_⟩ S9 ?_
          · have hcp : c ≠ p := ne_of_none e hp
            have hcq : c ≠ q := fun z => by
              have e1 : H1 c = some o := x1.hol c (by simp [hcm]) o (by show upd w.H p _ c = _; rw [upd_ne hcp]; exact e)
              rw [upd_ne hqp, ← z, e1] at hq
              cases hq
            have e1 : H1 c = some o := x1.hol c (by simp [hcm]) o (by show upd w.H p _ c = _; rw [upd_ne hcp]; exact e)
            have e2 : H2 c = some o := x2.hol c (by simp [hcm]) o (by show upd (upd H1 p _) q _ c = _; rw [upd_ne hcq, upd_ne hcp]; exact e1)
            have e3 : H3 c = some o := x3.hol c (by simp [hcm]) o e2
            show upd (upd H3 q _) p _ c = _
            rw [upd_ne hcp, upd_ne hcq]; exact e3
          · rw [RD]
            have hpk := putK_of (w := ⟨β3, st3, H3, q :: p :: w.ho⟩) (k := kk) r3 hkeys (((rvs.mv (mv2.trans mv3)).mv x2.mv).mv x3.mv)
            refine ⟨p, L2.putK kvs (kk.map Sum.inl) zv, rfl, .inl upd_same, fun z => ?_, hpk.1, hpk.2.mv ((mv6.trans mv7).trans mv8)⟩
            rcases z with z | ⟨j, m, z, _⟩
            · obtain ⟨o', e, _⟩ := S.hoL p z
              rw [hp] at e; cases e
            · exact S8.sep p (by simp) (List.mem_of_getElem? z)
      · exact h.elim
    · exact h.elim
  · exact h.elim
end
end PV
set_option Elab.async false
set_option linter.all false
set_option maxRecDepth 100000
set_option maxHeartbeats 1000000
/-! PVS: sorted by a lambda: (-own[0][0] - own[0][1], -own[0][0]). -/
namespace PV
open PySem PySem.Spec PyProof.Rows L2
/-- the key's text -/
structure SPos where
  p : Nat → Pos
  k : Nat → Nat
def itemX (x : Str) (s : SPos) (a b : Nat) (i : Int) : Expr := .Subscript (.Subscript (.Name x (s.p a)) (.Constant (.int 0) (s.k a) (s.p (a + 1))) (s.p (a + 2))) (.Constant (.int i) (s.k b) (s.p b)) (s.p (b + 1))
def keyX (x : Str) (s : SPos) (n : Nat) : Expr := .Tuple [.BinOp (.UnaryOp .USub (itemX x s 0 3 0) (s.p 5)) .Sub (itemX x s 6 9 1) (s.p 11), .UnaryOp .USub (itemX x s 12 15 0) (s.p 17)] n (s.p 18)
def keyPy (i j : Int) : PyData := .tuple [.int (-i - j), .int (-i)]
section
variable {prog : Program} {w : World} {A : Around} {E : Value → Shared → Prop} {s : Shared} {env : Env} {x : Str} {L : Addr} {m : Str → Option Value} {t q : Addr} {u1 u2 : Tok} {i j : Int} {sp : SPos}
/-- own[0][k] -/
theorem run_item {Q : Value → Shared → Prop} {a b : Nat} {c : Int} {jj : Nat} {y : Value} {pits its : Array Value} (hk : env.scope.kind = .function) (hx : env.kindOf x = some .local) (hL : env.locals = L) (hdb : (x == ("__debug__" : Str)) = false)
    (hns : s.heap.Ns L m) (hm : m x = some (.ref t)) (ht : IsTup s.heap t its) (h0 : its[0]? = some (.ref q)) (hq : IsTup s.heap q pits) (hjj : seqIndex? c pits.size = some jj) (hy : pits[jj]? = some y) (h1 : 0 < its.size)
    (hc1 : -(2 ^ 63) ≤ c) (hc2 : c < 2 ^ 63) (h : ∀ tk, Q y { s with toks := tk }) :
    wpAny (model prog w) A (eval (itemX x sp a b c) env) Q E s := by
  have hz : seqIndex? 0 its.size = some 0 := by
    unfold seqIndex?
    simp [h1]
  refine Subscript_ (Subscript_ (wpAny_Name (wpAny_loadName_local hk hx (by rw [hL]; exact hns) hm (wpAny_Constant_int ?_)) hdb))
  refine item_tuple (t := t) (items := its) ht (by decide) (by decide) hz h0 ?_
  refine wpAny_Constant_int ?_
  exact item_tupleT (t := q) (l := pits.toList) (by simpa using hq) hc1 hc2 (by simpa using hjj) (by simpa using hy) (h _)
theorem run_key {Q : Value → Shared → Prop} {n : Nat} {its : Array Value} (hk : env.scope.kind = .function) (hx : env.kindOf x = some .local) (hL : env.locals = L) (hdb : (x == ("__debug__" : Str)) = false)
    (hns : s.heap.Ns L m) (hm : m x = some (.ref t)) (ht : IsTup s.heap t its) (h0 : its[0]? = some (.ref q)) (hq : IsTup s.heap q #[.int i u1, .int j u2]) (h1 : 0 < its.size)
    (h : ∀ tk a b, Q (.ref s.heap.objs.size) { s with heap := s.heap.push { cls := .type "tuple", data := .seq #[.int (-i - j) a, .int (-i) b] }, toks := tk }) :
    wpAny (model prog w) A (eval (keyX x sp n) env) Q E s := by
  unfold keyX
  refine wpAny_Tuple ?_
  show wpAny _ _ (spliced [(false, _), (false, _)]) _ _ _
  refine Calls.spliced_cons (wpAny_BinOp (UnaryOp_ (run_item (jj := 0) (c := 0) hk hx hL hdb hns hm ht h0 hq rfl rfl h1 (by decide) (by decide) fun tk => ?_)))
  refine neg_int ?_
  refine run_item (jj := 1) (c := 1) (pits := #[.int i u1, .int j u2]) hk hx hL hdb hns hm ht h0 hq rfl rfl h1 (by decide) (by decide) fun tk => ?_
  refine sub_int ?_
  refine Calls.spliced_cons (UnaryOp_ (run_item (jj := 0) (c := 0) (pits := #[.int i u1, .int j u2]) hk hx hL hdb hns hm ht h0 hq rfl rfl h1 (by decide) (by decide) fun tk => ?_))
  refine neg_int ?_
  refine Calls.spliced_nil ?_
  refine ⟨by show 2 ≤ sizeLine; rw [sizeLine_eq]; decide, ?_⟩
  exact h _ _ _
end
theorem fm_congr {α β : Type} {f g : α → Option β} : ∀ {l : List α}, (∀ a ∈ l, f a = g a) → l.filterMap f = l.filterMap g
  | [], _ => rfl
  | a :: l, h => by rw [List.filterMap_cons, List.filterMap_cons, h a List.mem_cons_self, fm_congr fun b hb => h b (List.mem_cons_of_mem _ hb)]
theorem lk_zip : ∀ {ps : List Str} {us : List Value}, ps.Nodup → us.length = ps.length → ps.filterMap (fun n => ((ps.zip us).lookup n).map (n, ·)) = ps.zip us ∧ ∀ n ∈ ps, ((ps.zip us).lookup n).isNone = false
  | [], [], _, _ => ⟨rfl, fun _ h => by cases h⟩
  | a :: ps, u :: us, hn, hl => by
    obtain ⟨h1, h2⟩ := List.nodup_cons.mp hn
    obtain ⟨i1, i2⟩ := lk_zip h2 (Nat.succ.inj hl)
    refine ⟨?_, fun n hm => ?_⟩
    · rw [List.zip_cons_cons, List.filterMap_cons, List.lookup_cons_self]
      show (a, u) :: _ = _
      refine congrArg _ (Eq.trans ?_ i1)
      refine fm_congr fun n hm => ?_
      have hne : (n == a) = false := by
        have : n ≠ a := fun z => h1 (z ▸ hm)
        simpa using this
      rw [List.lookup_cons, hne]
    · rw [List.zip_cons_cons, List.lookup_cons]
      split
      · rfl
      · rename_i e
        rcases List.mem_cons.mp hm with z | z
        · subst z; simp at e
        · exact i2 n z
theorem bind_plain {qual x : Str} {as : List Arg} {body : List Stmt} {scope : Scope} (hn : (as.map (·.arg)).Nodup) (kV doc pm : Value) (an : Option Addr) (cdv ct : Value) (us : List Value) (hl : us.length = (as.map (·.arg)).length) :
    bindArgs (PySem.W.fnOf x qual { posonlyargs := [], args := as, vararg := none, kwonlyargs := [], kw_defaults := [], kwarg := none, defaults := [] } body scope .none kV doc pm an cdv ct) ⟨us, []⟩ = pure ((as.map (·.arg)).zip us) := by
  obtain ⟨h1, h2⟩ := lk_zip hn hl
  unfold bindArgs
  have e0 : seqItems? Value.none = pure none := rfl
  have hz : ¬ (us.length > (as.map (·.arg)).length) := by omega
  have hm : (as.map (·.arg)).filter (fun n => (((as.map (·.arg)).zip us).lookup n).isNone) = [] := List.filter_eq_nil_iff.mpr fun n hn => by rw [h2 n hn]; decide
  dsimp only [PySem.W.fnOf]
  rw [e0]
  simp only [List.map_nil, List.nil_append, List.append_nil, List.forIn_nil, pure_bind, Option.getD_none, List.drop_nil, List.length_nil, Nat.sub_zero, List.zip_nil_right, List.take_length, hm, h1, List.isEmpty_nil, Bool.not_true, Option.isNone_none, hz, decide_false, Bool.false_and, Bool.and_true]
  rfl
section
variable {prog : Program} {w : World} {A : Around} {E : Value → Shared → Prop} {s : Shared} {env : Env} {x : Str} {L : Addr} {m : Str → Option Value} {t q : Addr} {u1 u2 : Tok} {i j : Int} {sp : SPos}
/-- the lambda's parameters and names -/
def lamArgs (a : Arg) : Arguments := { posonlyargs := [], args := [a], vararg := none, kwonlyargs := [], kw_defaults := [], kwarg := none, defaults := [] }
structure KScope (scope : Scope) (x : Str) : Prop where
  kind : scope.kind = .function
  co : scope.isCoroutine = false
  gen : scope.isGenerator = false
  names : ∀ y ∈ scope.names, y.2 ≠ .cell ∧ y.2 ≠ .free
  loc : scope.names.lookup x = some .local
theorem bind_lam {qual x : Str} {a : Arg} (ha : a.arg = x) {body : Expr} {scope : Scope} {cl : List (Str × Addr)} (pm cdv ct u : Value) :
    bindArgs (PySem.W.kla_fn "<lambda>" qual (lamArgs a) body scope cl pm cdv ct) ⟨[u], []⟩ = pure [(x, u)] := by
  subst ha
  have := bind_plain (qual := qual) (x := "<lambda>") (as := [a]) (body := []) (scope := scope) (by simp) .none .none pm none cdv ct [u] rfl
  exact this
theorem run_lam {f c' : Addr} {qual : Str} {a : Arg} {scope : Scope} {cl : List (Str × Addr)} {pm ctv : Value} {n : Nat} {its : Array Value} (ha : a.arg = x) (hdb : (x == ("__debug__" : Str)) = false) (S : KScope scope x) (hd : A.depth < recursionLimit) (hl : s.heap.NoLimit)
    (hf : s.heap.get? f = some (PySem.W.kla_obj "<lambda>" qual (lamArgs a) (keyX x sp n) scope cl pm c' ctv)) (hcd : s.heap.CodeRec (.ref c') qual)
    (ht : IsTup s.heap t its) (h0 : its[0]? = some (.ref q)) (hq : IsTup s.heap q #[.int i u1, .int j u2]) :
    wpAny (model prog w) A (call (.ref f) [.ref t]) (PySem.W.KeyPure (keyPy i j) s) (fun _ _ => False) s := by
  have h1 : 0 < its.size := by
    rcases Nat.eq_zero_or_pos its.size with z | z
    · rw [Array.getElem?_eq_none (by omega)] at h0
      cases h0
    · exact z
  refine wpAny_call (PySem.W.kla_callFunE hd hf rfl S.co S.gen rfl hcd ?_)
  rw [bind_lam ha]
  refine wpAny_pure (wpAny_newFunctionEnv (fun y hy => (S.names y hy).1) (fun y hy => ?_) (fun h₁ hns hsb => ⟨hl.fresh _ hsb, ?_⟩) S.kind)
  · rw [List.mem_singleton] at hy
    subst hy
    exact S.loc
  refine PySem.W.kla_codeExpr ?_
  have kp : ∀ b o, s.heap.get? b = some o → h₁.get? b = some o := fun b o e => hsb.extBut b o (Nat.ne_of_lt (Heap.lt_size e)) (Heap.get?_push_of_some _ e)
  refine run_key (t := t) (q := q) (i := i) (j := j) (u1 := u1) (u2 := u2) (its := its) S.kind S.loc rfl hdb hns (by simp [List.lookup]) (ht.keeps kp) h0 (hq.keeps kp) h1 fun tk a b => ?_
  refine ⟨_, _, rfl, fun b o e => Heap.get?_push_of_some _ (kp b o e), ?_⟩
  exact Reads.tuple (as := []) (Heap.get?_push_size _ rfl) rfl rfl (ReadsAll.cons (as := []) (bs := []) (Reads.int _ _) (ReadsAll.cons (as := []) (bs := []) (Reads.int _ _) ReadsAll.nil))
end
/-! ### the order -/
theorem ltS_total : PySem.W.TotalLe fun a b : D => !ltS b a := by
  refine ⟨fun a b c h1 h2 => ?_, fun a b => ?_⟩
  · unfold ltS at *
    simp only [Bool.not_eq_true', Bool.or_eq_false_iff, Bool.and_eq_false_imp, decide_eq_true_eq, decide_eq_false_iff_not] at *
    omega
  · unfold ltS
    simp only [Bool.not_eq_true', Bool.or_eq_false_iff, Bool.and_eq_false_imp, decide_eq_true_eq, decide_eq_false_iff_not]
    omega
def keyD (d : D) : PyData := .tuple [.int (kfS d), .int (kgS d)]
theorem srtSD_merge (ds : List D) : srtSD ds = ds.mergeSort (PySem.W.dataLe false keyD) := by
  unfold srtSD
  rw [isort_merge ltS_total]
  have e : PySem.W.dataLe false keyD = fun a b : D => !ltS b a := by
    unfold keyD
    rw [PySem.W.dataLe_ii]
    funext p q
    unfold ltS
    rw [Bool.eq_iff_iff]
    simp only [Bool.not_eq_true', Bool.or_eq_false_iff, Bool.and_eq_false_imp, decide_eq_true_eq, decide_eq_false_iff_not]
    omega
  rw [e]
theorem okS_spec {d : D} (h : okS d = true) : ∃ b b' i j r, d = .tup b (.tup b' [.int i, .int j] :: r) := by
  unfold okS at h
  split at h
  · exact ⟨_, _, _, _, _, rfl⟩
  · cases h
/-! ### the world -/
theorem ext_N {K : PySem.W.Frag} {w : Wd} {H1 : Hp} (e : LamX.ExtN w.H H1) (S : StoOk K w) (t : LamX.Tabs (tabsK K) H1) : Ext w ⟨w.β, w.st, H1, w.ho⟩ ∧ StoOk K ⟨w.β, w.st, H1, w.ho⟩ := by
  have x : Ext w ⟨w.β, w.st, H1, w.ho⟩ := by
    refine ⟨⟨[], by simp⟩, fun a o h i n => ⟨e a o h fun ps z => ?_, n⟩, rfl, fun a ha o h => e a o h fun ps z => ?_⟩
    · subst z; exact i
    · obtain ⟨o', h', n⟩ := S.hoL a ha
      rw [h] at h'
      injection h' with h'
      exact n.2.1 ps (h' ▸ z)
  refine ⟨x, S.len, S.nd, fun j m g => ?_, fun a ha => ?_, fun a ha => ?_, S.sep, t⟩
  · obtain ⟨a, h1, h2⟩ := S.at_ j m g
    refine ⟨a, h1, h2.mv x.mv ?_⟩
    cases m with
    | lst ds =>
      obtain ⟨xs, k1, k2⟩ := h2
      exact (e a _ k1 fun ps z => by cases z).trans k1.symm
    | dct ks ds =>
      obtain ⟨kvs, k1, k2⟩ := h2
      exact (e a _ k1 fun ps z => by cases z).trans k1.symm
  · have h := S.occ a ha
    cases q : w.H a with
    | none => exact absurd (.inl q) h
    | some o =>
      show ¬ NoO (H1 a)
      rw [e a o q fun ps z => h (.inr ⟨ps, by rw [q, z]⟩), ← q]
      exact h
  · obtain ⟨o, h, n⟩ := S.hoL a ha
    exact ⟨o, e a o h n.2.1, n⟩
theorem RDs.rev {K : PySem.W.Frag} {w : Wd} : ∀ {ds : List D} {xs : List V}, RDs K w ds xs → RDs K w ds.reverse xs.reverse
  | [], xs, h => by cases h.nil_inv; exact .nil
  | d :: ds, xs, h => by
    obtain ⟨v, r, rfl, h1, h2⟩ := h.cons_inv
    rw [List.reverse_cons, List.reverse_cons]
    exact (RDs.rev h2).append (.cons h1 .nil)
section
variable {X : Cx} {xr : XR} {cl : Nat → List D → Sto → R D} {W : WX} {x : Str} {sp : SPos}
def RSo (K : PySem.W.Frag) (w : Wd) (h : Heap) (v : Value) (d : D) : Prop := RVD K w v d ∧ ∃ (t q : Addr) (its : Array Value) (u1 u2 : Tok) (i j : Int), v = .ref t ∧ IsTup h t its ∧ its[0]? = some (.ref q) ∧ IsTup h q #[.int i u1, .int j u2] ∧ keyD d = keyPy i j
theorem rs_of {pins : List (Addr × Obj)} {s : Shared} {σ : L2.St} {w : Wd} (I : Inv X pins σ w.H s) {v : Value} {d : D} (r : RVD X.K w v d) (h : okS d = true) : RSo X.K w s.heap v d := by
  obtain ⟨b, b', i, j, rs, rfl⟩ := okS_spec h
  refine ⟨r, ?_⟩
  obtain ⟨y, ry, hy⟩ := r
  obtain ⟨a, xs, rfl, hsq, hxs⟩ := RD.tup_inv hy
  obtain rfl : v = Value.ref a := ry
  obtain ⟨y0, ys, rfl, h0, _⟩ := hxs.cons_inv
  obtain ⟨q, zs, rfl, hq, hzs⟩ := RD.tup_inv h0
  obtain ⟨z1, zr, rfl, e1, hz⟩ := hzs.cons_inv
  obtain ⟨z2, zn, rfl, e2, hn⟩ := hz.cons_inv
  cases hn.nil_inv
  obtain rfl : z1 = .int i := by simpa [RD] using e1
  obtain rfl : z2 = .int j := by simpa [RD] using e2
  obtain ⟨its, rv, ht, _⟩ := I.tuple hsq
  obtain ⟨jts, rv2, hq2, _⟩ := I.tuple hq
  cases rv with
  | cons g1 g2 =>
    cases rv2 with
    | cons k1 k2 =>
      cases k2 with
      | cons k3 k4 =>
        cases k4
        obtain ⟨u1, rfl⟩ := k1
        obtain ⟨u2, rfl⟩ := k3
        rename_i u us
        obtain rfl : u = Value.ref q := g1
        exact ⟨a, q, _, u1, u2, i, j, rfl, ht, by simp, hq2, rfl⟩
theorem each_rs {pins : List (Addr × Obj)} {s : Shared} {σ : L2.St} {w : Wd} (I : Inv X pins σ w.H s) : ∀ {ds : List D} {us : List Value}, ds.all okS = true → PySem.W.EachIs (RVD X.K w) us ds → PySem.W.EachIs (RSo X.K w s.heap) us ds
  | _, _, _, .nil => .nil
  | _, _, h, .cons r t => by
    simp only [List.all_cons, Bool.and_eq_true] at h
    exact .cons (rs_of I r h.1) (each_rs I h.2 t)
theorem codeO_rec {P : Program} {w0 : World} {H : Hp} {h : Heap} {c' : Addr} {q : Str} (hok : HOk P w0 H h) (e : H c' = some (LamX.CodeO c' q)) : h.CodeRec (.ref c') q := by
  obtain ⟨⟨oc, vs, t, e1, e2, e3⟩, _, _⟩ := hok c' _ e
  exact ⟨c', oc, vs, t, rfl, e1, e2, e3⟩
theorem pe_srtSE {e : Expr} {a' : PV.E} {ar : Arg} {n : Nat} {scope : Scope} {c P : Addr} {p pos lpos : Pos} {kpos : Pos} (hu : X.A.units + 64 < cLine) (hd : X.A.depth < recursionLimit) (TB : LamX.TabB X.base X.mg c P) (hcode : X.env.code = .ref c)
    (hm : (P, X.env.qual ++ "<lambda>") ∈ tabsK X.K) (hun : ∀ p ∈ tabsK X.K, p.1 = P → p.2 = X.env.qual ++ "<lambda>") (hg : Gl X "sorted") (hmg : X.mg "sorted" = none) (S : KScope scope x) (hx : ar.arg = x) (hdb : (x == ("__debug__" : Str)) = false)
    (hs : noStar e = true) (ha : PE X e (TEv X xr cl W a')) :
    PE X (.Call (.Name "sorted" p) [e] [⟨some "key", .Lambda (lamArgs ar) (keyX x sp n) scope lpos, kpos⟩] pos) (TEv X xr cl W (.srtS a')) := by
  refine ⟨fun pins s σ H Q I ⟨w, δ, eH, So, L, h⟩ => ?_⟩
  subst eH
  simp only [ev, tst] at h
  refine wpAny_Call_Name_kw (ld_blt (u := .builtin "sorted") I hg hmg (by decide +kernel) ?_ (by decide) (by decide))
  have s1 := star_one (es := []) (env := X.env) hs
  refine PyProof.Rows.callWith_kw (thn ((pa_cons ha pa_nil s1).run pos pins s σ w.H (fun vs H1 => ∃ (v : V) (ds : List D) (w1 : Wd), vs = [v] ∧ w1.H = H1 ∧ StoOk X.K w1 ∧ RD X.K w1 (.lst ds) v ∧ ds.all okS = true ∧ Pst X.K xr w1 (.ok (.lst (srtSD ds)) w1.st) (RD X.K) Q fun c d H' => W c d σ H') I ⟨w, δ, rfl, So, L, ?_⟩) ?_) ?_ ?_
  · refine h.bind fun d w1 v x1 S1 r1 h1 => ?_
    cases d <;> first | exact h1.elim | skip
    rename_i ds
    obtain ⟨hc, h2⟩ := Pst.okb h1
    exact ⟨v, ds, w1, rfl, rfl, S1, r1, hc, h2⟩
  · rintro us s1 ⟨vs, H1, I1, r1, v, ds, w1, rfl, rfl, S1, rd, hok, hp⟩
    show wpAny _ _ (evalAll ((do let v ← eval (.Lambda (lamArgs ar) (keyX x sp n) scope lpos) X.env; standAt pos; pure v) :: [])) _ _ _
    refine wpAny_evalAll_cons (wpAny_bind (LamX.lam_make2 I1 TB hcode hm hun S1.tab rfl (fun y hy z => absurd z (S.names y hy).2) fun f c' pm ctv H2 s2 I2 eN T2 hf hfn hfr hco => ?_))
    refine wpAny_bind (wpAny_standAt (wpAny_pure (wpAny_evalAll_nil ?_)))
    obtain ⟨x2, S2⟩ := ext_N eN S1 T2
    have rd2 := rd.ext x2
    have hp2 := Pst.ext x2 hp
    obtain ⟨a, xs, rfl, hsq, hnl, hxs⟩ := RD.lst_inv rd2
    cases r1 with
    | cons g1 g2 =>
    cases g2
    rename_i u
    obtain rfl : u = Value.ref a := g1
    obtain ⟨its, rv, hl, hz⟩ := I2.list (SqL.of hsq)
    have e1 := each_rs (w := ⟨w1.β, w1.st, H2, w1.ho⟩) I2 hok (each_of hxs rv)
    show wpAny _ _ (call (.builtin "sorted") [.ref a] [(Str.ofString "key", .ref f)]) _ _ _
    refine PySem.W.sorted_key_data (b := false) (R := RSo X.K ⟨w1.β, w1.st, H2, w1.ho⟩ s2.heap) keyD hl.isList e1 (PySem.W.AllAlike.of fun _ _ => by simp [keyD, PySem.W.alike, PySem.W.alikeAll]) (PySem.W.Sortable.tuples fun _ => ⟨_, _, rfl⟩) (hxs.len_le hz) (fun d _ => ?_) (PyProof.Rows.ksk_s1 _ _) (fun _ => PyProof.Rows.ksk_l1 _ _) (fun _ => PyProof.Rows.ksk_t1 _ _) (fun v d hR _ h' tk kp => ?_) fun out cc h' tk kp fr hD hlen eo => ?_
    · have hdp : (keyD d).depth = 1 := by simp [keyD, PyData.depth, PyData.depthAll]
      omega
    · obtain ⟨_, t, q, its', u1, u2, i, j, rfl, k1, k2, k3, hk⟩ := hR
      rw [hk]
      exact run_lam (s := { s2 with heap := h', toks := tk }) hx hdb S hd (I2.nolimit.keeps kp) (kp _ _ hf) ((codeO_rec I2.hok hco).keeps kp) (k1.keeps kp) k2 (k3.keeps kp)
    · rw [← srtSD_merge] at eo
      obtain ⟨ys, r1, r2⟩ := each_back (eo.mono fun _ _ z => z.1)
      have hlen2 : ys.length ≤ sizeLine := by
        have := r2.length
        have := hxs.length
        have := rv.length
        have h1 : out.length = ds.length := hlen
        omega
      have hp : H2 (s2.heap.objs.size + 1) = none := I2.hok.fresh (Nat.le_succ _)
      refine ⟨.ref _, upd H2 (s2.heap.objs.size + 1) (.lst ys), I2.laid (t' := tk) kp (Nat.le_succ _) ⟨hlen2, out, cc, r2, hD⟩, rfl, Pst.mk S2 hp2 hp ?_⟩
      rw [RD]
      exact ⟨_, ys, rfl, upd_same, S2.nlive_new hp, r1.ext (Ext.new hp)⟩
  · show backTo pos (starEach [e] X.env) = (false, eval e X.env) :: backTo pos (starEach [] X.env)
    rw [s1]
    rfl
  · rw [s1]
    rfl
theorem pe_revE {e : Expr} {a' : PV.E} {k : Nat} {p1 p2 p3 pos : Pos} (ha : PE X e (TEv X xr cl W a')) : PE X (.Subscript e (.Slice none none (some (.UnaryOp .USub (.Constant (.int 1) k p1) p2)) p3) pos) (TEv X xr cl W (.rev a')) := by
  refine PE.weak (pe_revL ha) fun σ H Q ⟨w, δ, e, S, L, h⟩ => ?_
  subst e
  simp only [ev, tst] at h
  refine ⟨w, δ, rfl, S, L, h.bind fun x w1 v x1 S1 r1 h1 => ?_⟩
  cases x <;> first | exact h1.elim | skip
  rename_i ds
  obtain ⟨a, xs, rfl, ha, hn, hxs⟩ := RD.lst_inv r1
  refine ⟨a, xs, rfl, SqL.of ha, fun p hp => Pst.mk S1 h1 hp ?_⟩
  rw [RD]
  exact ⟨p, xs.reverse, rfl, upd_same, S1.nlive_new hp, (hxs.ext (Ext.new hp)).rev⟩
end
end PV
set_option Elab.async false
set_option linter.all false
set_option maxRecDepth 100000
set_option maxHeartbeats 1000000
/-! PV19: expressions translated; the translation is sound. -/
namespace PV
open PySem PySem.Spec PyProof.Rows L2
/-! ### names -/
def ixOf : List Str → Str → Nat → Option Nat
  | [], _, _ => none
  | a :: l, x, i => if a = x then some i else ixOf l x (i + 1)
theorem ixOf_spec : ∀ {l : List Str} {x : Str} {i k : Nat}, ixOf l x i = some k → ∃ j, k = i + j ∧ l[j]? = some x
  | [], x, i, k, h => by simp [ixOf] at h
  | a :: l, x, i, k, h => by
    unfold ixOf at h
    by_cases e : a = x
    · rw [if_pos e] at h
      injection h with h
      exact ⟨0, by omega, by simp [e]⟩
    · rw [if_neg e] at h
      obtain ⟨j, h1, h2⟩ := ixOf_spec h
      exact ⟨j + 1, by omega, by simpa using h2⟩
def slot (T : TX) (x : Str) : Option Nat := ixOf T.N x 0
theorem slot_spec {T : TX} {x : Str} {i : Nat} (h : slot T x = some i) : T.N[i]? = some x := by
  obtain ⟨j, h1, h2⟩ := ixOf_spec h
  have : i = j := by omega
  rw [this]; exact h2
def visB (sc : Scope) (x : Str) : Bool := match sc.names.lookup x with
  | some .local => true
  | some .cell => true
  | some .free => true
  | _ => false
theorem visB_spec {sc : Scope} {x : Str} (h : visB sc x = true) : Vis sc x := by
  unfold visB at h
  split at h
  · exact .inl (by assumption)
  · exact .inr (.inl (by assumption))
  · exact .inr (.inr (by assumption))
  · cases h
def glB (sc : Scope) (x : Str) : Bool := match sc.names.lookup x with
  | some .globalImplicit => true
  | _ => false
theorem glB_spec {sc : Scope} {x : Str} (h : glB sc x = true) : sc.names.lookup x = some .globalImplicit := by
  unfold glB at h
  split at h
  · assumption
  · cases h
def noDbg (x : Str) : Bool := !(x == ("__debug__" : Str)) && !(x == ("__classdict__" : Str))
theorem noDbg_spec {x : Str} (h : noDbg x = true) : (x == ("__debug__" : Str)) = false ∧ (x == ("__classdict__" : Str)) = false := by
  unfold noDbg at h
  simpa using h
/-- a name to be stored -/
def stB (T : TX) (x : Str) : Bool := match T.sc.names.lookup x with
  | some .local => true
  | some .cell => T.fnB x
  | _ => false
/-! ### the translation -/
def trC : Const → E
  | .int i => .c (.int i)
  | .bool b => .c (.bl b)
  | .none => .c .non
  | .str z => .c (.str z.cps.toList)
  | _ => .bad
def trN (G : GT) (T : TX) (x : Str) : E := match noDbg x with
  | false => .bad
  | true => match visB T.sc x with
    | true => match slot T x with
      | some i => .v i
      | none => .bad
    | false => match glB T.sc x, G.cns.lookup x with
      | true, some d => .c d
      | _, _ => .bad
def boOf : Operator → Option BO
  | .Add => some .add
  | .Sub => some .sub
  | .Mult => some .mul
  | .FloorDiv => some .fdiv
  | .Mod => some .mod
  | .Pow => some .pow
  | _ => none
theorem boOf_spec {op : Operator} {o : BO} (h : boOf op = some o) : opOf o = op := by
  cases op <;> first | (cases h; done) | (injection h with h; subst h; rfl)
def coOf : CmpOp → Option CO
  | .Lt => some .lt
  | .LtE => some .le
  | .Gt => some .gt
  | .GtE => some .ge
  | .Eq => some .eq
  | .NotEq => some .ne
  | .In => some .isin
  | .NotIn => some .notin
  | .Is => some .is_
  | .IsNot => some .isnot
theorem coOf_spec {op : CmpOp} {o : CO} (h : coOf op = some o) : cmpOf o = op := by
  cases op <;> (injection h with h; subst h; rfl)
def isLst : Expr → Bool
  | .List _ _ => true
  | _ => false
def fin (t : Bool) (e : Expr) (r : E) : E := match t with
  | false => r
  | true => match plainT e && plainE r with
    | true => r
    | false => .bad
def allBF : List (BF × Nat) := [(.len, 1), (.abs, 1), (.maxl, 1), (.max2, 2), (.min2, 2), (.int, 1), (.str, 1), (.gcd, 2), (.sorted, 1), (.tuple, 1), (.list, 1), (.any, 1), (.all, 1)]
def isGcd : BF → Bool
  | .gcd => true
  | _ => false
def bfOf (G : GT) (x : Str) (n : Nat) : Option BF := match allBF.find? fun p => decide (bfName p.1 = x) && Nat.beq p.2 n with
  | some p => match isGcd p.1 with
    | true => if G.gcd then some p.1 else none
    | false => if G.blt.contains x then some p.1 else none
  | none => none
theorem bfOf_spec {G : GT} {x : Str} {n : Nat} {f : BF} (h : bfOf G x n = some f) : bfName f = x ∧ (plainBF f = true ∨ f = .sorted) ∧ (f ≠ .gcd → G.blt.contains x = true) ∧ (f = .gcd → G.gcd = true) := by
  unfold bfOf at h
  split at h
  · rename_i p hp
    have h1 := List.find?_some hp
    have h2 := List.mem_of_find?_eq_some hp
    simp only [Bool.and_eq_true, decide_eq_true_eq] at h1
    have h3 : plainBF p.1 = true ∨ p.1 = .sorted := by
      simp only [allBF, List.mem_cons, List.not_mem_nil, or_false] at h2
      rcases h2 with q | q | q | q | q | q | q | q | q | q | q | q | q <;> subst q <;> first | exact .inl rfl | exact .inr rfl
    split at h
    · rename_i g
      split at h
      · rename_i c
        injection h with h
        subst h
        refine ⟨h1.1, h3, fun n => ?_, fun _ => c⟩
        cases hq : p.1 <;> rw [hq] at g n <;> first | (cases g; done) | exact absurd rfl n
      · cases h
    · rename_i g
      split at h
      · rename_i c
        injection h with h
        subst h
        refine ⟨h1.1, h3, fun _ => c, fun n => ?_⟩
        rw [n] at g; cases g
      · cases h
  · cases h
def mtOf (x : Str) (n : Nat) : Option MF :=
  if x = "append" ∧ n = 1 then some .append else if x = "join" ∧ n = 1 then some .join else if x = "index" ∧ n = 1 then some .index else
  if x = "isdigit" ∧ n = 0 then some .isdigit else if x = "isalpha" ∧ n = 0 then some .isalpha else if x = "isalnum" ∧ n = 0 then some .isalnum else if x = "get" ∧ n = 2 then some .get2 else none
def noSet : Expr → Bool
  | .Set _ _ _ => false
  | _ => true
theorem noSet_ok {e : Expr} {env : Env} (h : noSet e = true) (x : Value) : foldedSetIterable e env x = pure x := by
  cases e <;> first | (cases h; done) | rfl | (unfold foldedSetIterable; rfl)
def trT (T : TX) : Nat → Expr → Option PV.T
  | 0, _ => none
  | n + 1, e => match e with
    | .Name x _ => match stB T x, slot T x with
      | true, some i => some (.n i)
      | _, _ => none
    | .Tuple es _ _ => match es with
      | [a, b] => match plainTg a && plainTg b, trT T n a, trT T n b with
        | true, some x, some y => some (.t2 x y)
        | _, _, _ => none
      | [a, b, c] => match plainTg a && plainTg b && plainTg c, trT T n a, trT T n b, trT T n c with
        | true, some x, some y, some z => some (.t3 x y z)
        | _, _, _, _ => none
      | _ => none
    | _ => none
def blkT (T : TX) (scope : Scope) : TX := { T with sc := relS scope T.sc, fnB := fun x => scope.names.lookup x == some .cell, top := false, lam := false }
def ownOf (T : TX) (scope : Scope) : List (Str × Nat) := scope.names.filterMap fun p => match p.2 with
  | .local => (slot T p.1).map fun i => (p.1, i)
  | .cell => (slot T p.1).map fun i => (p.1, i)
  | _ => none
/-- a comprehension's walk over a dict's name -/
def dctVar (T : TX) : Expr → Option Nat
  | .Name x _ => match T.dcts.contains x && visB T.sc x && noDbg x with
    | true => slot T x
    | false => none
  | _ => none
def isTup : Expr → Bool
  | .Tuple _ _ _ => true
  | _ => false
def condE : List E → Eo
  | [c] => .some c
  | _ => .none
/-! the key of a sort -/
def isM1 : Expr → Bool
  | .UnaryOp .USub (.Constant (.int a) _ _) _ => decide (a = 1)
  | _ => false
theorem isM1_spec {e : Expr} (h : isM1 e = true) : ∃ k p q, e = .UnaryOp .USub (.Constant (.int 1) k p) q := by
  unfold isM1 at h
  split at h
  · have := of_decide_eq_true h
    subst this
    exact ⟨_, _, _, rfl⟩
  · cases h
def isItem (x : Str) (i : Int) : Expr → Bool
  | .Subscript (.Subscript (.Name y _) (.Constant (.int a) _ _) _) (.Constant (.int b) _ _) _ => decide (y = x) && decide (a = 0) && decide (b = i)
  | _ => false
theorem isItem_spec {x : Str} {i : Int} {e : Expr} (h : isItem x i e = true) : ∃ p0 p1 p2 p3 p4 k0 k3, e = .Subscript (.Subscript (.Name x p0) (.Constant (.int 0) k0 p1) p2) (.Constant (.int i) k3 p3) p4 := by
  unfold isItem at h
  split at h
  · simp only [Bool.and_eq_true, decide_eq_true_eq] at h
    obtain ⟨⟨h1, h2⟩, h3⟩ := h
    subst h1 h2 h3
    exact ⟨_, _, _, _, _, _, _, rfl⟩
  · cases h
def isKeyX (x : Str) : Expr → Bool
  | .Tuple [.BinOp (.UnaryOp .USub a _) .Sub b _, .UnaryOp .USub c _] _ _ => isItem x 0 a && isItem x 1 b && isItem x 0 c
  | _ => false
theorem isKeyX_spec {x : Str} {e : Expr} (h : isKeyX x e = true) : ∃ sp n, e = keyX x sp n := by
  unfold isKeyX at h
  split at h
  · rename_i a q5 b q11 c q17 n q18
    simp only [Bool.and_eq_true] at h
    obtain ⟨⟨h1, h2⟩, h3⟩ := h
    obtain ⟨p0, p1, p2, p3, p4, k0, k3, rfl⟩ := isItem_spec h1
    obtain ⟨p6, p7, p8, p9, p10, k6, k9, rfl⟩ := isItem_spec h2
    obtain ⟨p12, p13, p14, p15, p16, k12, k15, rfl⟩ := isItem_spec h3
    exact ⟨⟨fun i => [p0, p1, p2, p3, p4, q5, p6, p7, p8, p9, p10, q11, p12, p13, p14, p15, p16, q17, q18].getD i p0, fun i => [k0, 0, 0, k3, 0, 0, k6, 0, 0, k9, 0, 0, k12, 0, 0, k15].getD i 0⟩, n, rfl⟩
  · cases h
def kscB (sc : Scope) (x : Str) : Bool := (match sc.kind with
  | .function => true
  | _ => false) && (!sc.isCoroutine && (!sc.isGenerator && (sc.names.all (fun y => match y.2 with
  | .cell => false
  | .free => false
  | _ => true) && (match sc.names.lookup x with
  | some .local => true
  | _ => false))))
theorem kscB_spec {sc : Scope} {x : Str} (h : kscB sc x = true) : KScope sc x := by
  unfold kscB at h
  simp only [Bool.and_eq_true, Bool.not_eq_true', List.all_eq_true] at h
  obtain ⟨h1, h2, h3, h4, h5⟩ := h
  refine ⟨?_, h2, h3, fun y hy => ?_, ?_⟩
  · revert h1; cases sc.kind <;> intro h1 <;> first | rfl | cases h1
  · have z := h4 y hy
    revert z
    cases y.2 <;> intro z <;> first | (cases z; done) | exact ⟨fun z => (nomatch z), fun z => (nomatch z)⟩
  · revert h5
    split
    · intro _; assumption
    · intro z; cases z
def isKeyL : Expr → Bool
  | .Lambda ⟨[], [a], none, [], [], none, []⟩ body scope _ => noDbg a.arg && (isKeyX a.arg body && kscB scope a.arg)
  | _ => false
theorem isKeyL_spec {e : Expr} (h : isKeyL e = true) : ∃ ar sp n scope pos, e = .Lambda (lamArgs ar) (keyX ar.arg sp n) scope pos ∧ KScope scope ar.arg ∧ (ar.arg == ("__debug__" : Str)) = false := by
  unfold isKeyL at h
  split at h
  · simp only [Bool.and_eq_true] at h
    obtain ⟨h1, h2, h3⟩ := h
    obtain ⟨sp, n, rfl⟩ := isKeyX_spec h2
    exact ⟨_, sp, n, _, _, rfl, kscB_spec h3, (noDbg_spec h1).1⟩
  · cases h
def isKeyN : Option Str → Bool
  | some x => decide (x = "key")
  | none => false
mutual
def trE (G : GT) : Nat → TX → Bool → Bool → Expr → E
  | 0, _, _, _, _ => .bad
  | n + 1, T, t, m, e => match e with
    | .Constant c _ _ => fin t e (trC c)
    | .Name x _ => fin t e (trN G T x)
    | .BinOp a op b _ => fin t e (match isLst a, op with
      | true, .Mult => .rep m (trE G n T false false a) (trE G n T false false b)
      | _, op => match boOf op with
        | some o => .bin o (trE G n T false false a) (trE G n T false false b)
        | none => .bad)
    | .UnaryOp op a _ => match op with
      | .Not => .not (trE G n T t false a)
      | .USub => fin t e (.neg (trE G n T false false a))
      | _ => .bad
    | .BoolOp o es _ => boolE o (es.map fun e => trE G n T t false e)
    | .Compare a ops bs _ => match ops, bs with
      | [o], [b] => match coOf o, behindInMarks o b with
        | some o', false => .cmp o' (trE G n T false false a) (trE G n T false false b)
        | _, _ => .bad
      | [o, p], [b, c] => match coOf o, coOf p, behindInMarks p c with
        | some o', some p', false => .cmp2 o' p' (trE G n T false false a) (trE G n T false false b) (trE G n T false false c)
        | _, _, _ => .bad
      | _, _ => .bad
    | .IfExp c a b _ => match t with
      | true => .bad
      | false => .ite (trE G n T true false c) (trE G n T false m a) (trE G n T false m b)
    | .Tuple es _ _ => match es.all noStar with
      | true => fin t e (.tup (esOf (es.map fun e => trE G n T false false e)))
      | false => .bad
    | .List es _ => match es.all noStar with
      | true => fin t e (.lst m (esOf (es.map fun e => trE G n T false false e)))
      | false => .bad
    | .Dict ks vs _ => match ks, vs with
      | [], [] => fin t e (.dnew m)
      | [none, some k], [a, v] => fin t e (.dstar (trE G n T false false a) (trE G n T false false k) (trE G n T false false v))
      | _, _ => .bad
    | .Subscript a i _ => match i with
      | .Slice lo hi st _ => match st with
        | none => fin t e (.slc (trE G n T false false a) (trO G n T lo) (trO G n T hi))
        | some s => match lo, hi, isM1 s with
          | none, none, true => fin t e (.rev (trE G n T false false a))
          | _, _, _ => .bad
      | i => match isSlice i with
        | false => fin t e (.idx (trE G n T false false a) (trE G n T false false i))
        | true => .bad
    | .Call f es kws p => match kws with
      | [] => match f with
        | .Name x _ => match glB T.sc x && noDbg x && es.all noStar with
          | true => match G.fns.lookup x, es with
            | some f, _ :: _ => fin t e (.call f (esOf (es.map fun e => trE G n T false false e)))
            | some _, [] => .bad
            | none, [a, .Name y _] => match decide (x = "isinstance"), tyOf y with
              | true, some ty => match glB T.sc y && G.blt.contains y && G.blt.contains x with
                | true => fin t e (.bf (.isinst ty) (.cons (trE G n T false false a) .nil))
                | false => .bad
              | _, _ => match bfOf G x es.length with
                | some f => fin t e (.bf f (esOf (es.map fun e => trE G n T false false e)))
                | none => .bad
            | none, _ :: _ => match bfOf G x es.length with
              | some f => fin t e (.bf f (esOf (es.map fun e => trE G n T false false e)))
              | none => .bad
            | none, [] => .bad
          | false => .bad
        | .Attribute o x apos => match baseOk o && (apos.endLine == p.line) && es.all noStar with
          | true => match mtOf x es.length with
            | some f => fin t e (.mt f (trE G n T false false o) (esOf (es.map fun e => trE G n T false false e)))
            | none => .bad
          | false => .bad
        | _ => .bad
      | [⟨nm, la, _⟩] => match T.lam && isKeyN nm && isKeyL la, f, es with
        | true, .Name x _, [a] => match glB T.sc x && G.blt.contains x && decide (x = "sorted") && noStar a with
          | true => fin t e (.srtS (trE G n T false false a))
          | false => .bad
        | _, _, _ => .bad
      | _ => .bad
    | .ListComp elt gens scope _ => match gens with
      | [⟨tg, iter, ifs, z⟩] => match decide (z = 0) && blkC T.N T.sc scope (ownOf T scope) && noSet iter && Nat.ble ifs.length 1, trT (blkT T scope) n tg with
        | true, some tg' => match dctVar T iter with
          | some i => fin t e (.lcK ((ownOf T scope).map (·.2)) tg' i (condE (ifs.map fun c => trE G n (blkT T scope) true false c)) (trE G n (blkT T scope) false false elt))
          | none => fin t e (.lc ((ownOf T scope).map (·.2)) tg' (trI G n T (isTup tg) iter) (condE (ifs.map fun c => trE G n (blkT T scope) true false c)) (trE G n (blkT T scope) false false elt))
        | _, _ => .bad
      | _ => .bad
    | _ => .bad
def trO (G : GT) : Nat → TX → Option Expr → Eo
  | 0, _, _ => .some .bad
  | n + 1, T, o => match o with
    | none => .none
    | some e => .some (trE G n T false false e)
def trI (G : GT) : Nat → TX → Bool → Expr → I
  | 0, _, _, _ => .of .bad
  | n + 1, T, tt, e => match e with
    | .Call (.Name x _) [a] [] _ => match glB T.sc x && G.blt.contains x && noStar a with
      | true => if x = "range" then .rng (trE G n T false false a) else if x = "enumerate" ∧ tt = true then .enum (trE G n T false false a) else .of (trE G n T false false e)
      | false => .of (trE G n T false false e)
    | .Call (.Name x _) [a, b] [] _ => match glB T.sc x && G.blt.contains x && noStar a && noStar b with
      | true => if x = "range" then .rng2 (trE G n T false false a) (trE G n T false false b) else if x = "zip" ∧ tt = true then .zip (trE G n T false false a) (trE G n T false false b) else .of (trE G n T false false e)
      | false => .of (trE G n T false false e)
    | _ => .of (trE G n T false false e)
end
end PV
set_option Elab.async false
set_option linter.all false
set_option maxRecDepth 100000
set_option maxHeartbeats 1000000
/-! PV20: the expressions' translation is sound. -/
namespace PV
open PySem PySem.Spec PyProof.Rows L2
section
variable {X : Cx} {xr : XR} {cl : Nat → List D → Sto → R D} {W : WX} {G : GT} {F : Nat → Option Fn} {k : Nat} {T : TX}
theorem fin_snd {t : Bool} {e : Expr} {r : E} (h : PE X e (TEv X xr cl W r)) : Snd X xr cl W t e (fin t e r) := by
  cases t with
  | false => exact h
  | true =>
    unfold fin
    cases c : plainT e && plainE r with
    | true =>
      simp only [Bool.and_eq_true] at c
      exact pt_plain c.1 c.2 h
    | false => exact snd_bad (t := true)
theorem pe_bad {e : Expr} : PE X e (TEv X xr cl W .bad) := snd_bad (t := false)
theorem trC_snd {c : Const} {j : Nat} {p : Pos} : PE X (.Constant c j p) (TEv X xr cl W (trC c)) := by
  cases c with
  | none => exact pe_here pe_non fun w => .non
  | bool b => exact pe_here pe_bl fun w => .bl
  | int i => exact pe_here pe_int fun w => .int
  | str z => exact pe_here pe_str fun w => by rw [RD]
  | _ => exact pe_bad
theorem trN_snd (c : Ctx G F k xr T X W) {x : Str} {p : Pos} : PE X (.Name x p) (TEv X xr cl W (trN G T x)) := by
  unfold trN
  split
  · exact pe_bad
  · rename_i h1
    obtain ⟨d1, d2⟩ := noDbg_spec h1
    split
    · rename_i h2
      split
      · rename_i i hi
        exact pe_v (by rw [c.n]; exact slot_spec hi) (by rw [c.sc]; exact visB_spec h2) d1 d2
      · exact pe_bad
    · split
      · rename_i d h3 h4
        obtain ⟨v, u, hm, r, rd⟩ := c.g.cns x d h4
        exact pe_here (pe_glob (by show X.env.kindOf x = _; unfold Env.kindOf; rw [c.sc]; exact glB_spec h3) hm r d1) rd
      · exact pe_bad
theorem Ctx.gl (c : Ctx G F k xr T X W) {x : Str} (h : glB T.sc x = true) : Gl X x := by
  show X.env.kindOf x = _
  unfold Env.kindOf
  rw [c.sc]; exact glB_spec h
theorem trT_snd : ∀ (n : Nat) {tg : Expr} {tg' : PV.T} {T : TX} {X : Cx} {W : WX}, Ctx G F k xr T X W → trT T n tg = some tg' → PG X tg (TGv X tg')
  | 0, _, _, _, _, _, _, h => by cases h
  | n + 1, tg, tg', T, X, W, c, h => by
    unfold trT at h
    split at h
    · split at h
      · rename_i i h1 h2
        injection h with h
        subst h
        have hs := slot_spec h2
        unfold stB at h1
        split at h1
        · rename_i q
          exact pg_nE c.nd (by rw [c.n]; exact hs) (.inl (by rw [c.sc]; exact q)) (.inr (by rw [c.sc]; exact q))
        · rename_i q
          exact pg_nE c.nd (by rw [c.n]; exact hs) (.inr (by rw [c.sc]; exact q)) (.inl (by rw [c.fnb]; exact h1))
        · cases h1
      · cases h
    · split at h
      · split at h
        · rename_i x y h1 h2 h3
          injection h with h
          subst h
          simp only [Bool.and_eq_true] at h1
          exact pg_t2E c.calm h1.1 h1.2 (trT_snd n c h2) (trT_snd n c h3)
        · cases h
      · split at h
        · rename_i x y z h1 h2 h3 h4
          injection h with h
          subst h
          simp only [Bool.and_eq_true] at h1
          exact pg_t3E c.calm h1.1.1 h1.1.2 h1.2 (trT_snd n c h2) (trT_snd n c h3) (trT_snd n c h4)
        · cases h
      · cases h
    · cases h
theorem blk_ctx (c : Ctx G F k xr T X W) {scope : Scope} {own : List (Str × Nat)} (ok : BlkOk T.N T.sc scope own) (s : Shared) (H : Hp) (C : Addr) (clo : List (Str × Addr)) (fp : List Addr) : Ctx G F k xr (blkT T scope) (X.blk s H scope (compEnvC scope clo C X.env) fp) WF where
  n := c.n
  nd := c.nd
  sc := by
    show relS scope X.env.scope = relS scope T.sc
    rw [c.sc]
  kind := ok.kind
  fnb := rfl
  calm := c.calm
  room := c.room
  tk := fun u s' ⟨_, _, _, _, _, _, _, _, _, _, _, _, _, _, _, _, z⟩ => z.elim
  g := c.g
  lam := fun z => (nomatch z)
end
end PV
set_option Elab.async false
set_option linter.all false
set_option maxRecDepth 100000
set_option maxHeartbeats 2000000
/-! PV21: the expressions' translation is sound, the induction. -/
namespace PV
open PySem PySem.Spec PyProof.Rows L2
section
variable {xr : XR} {G : GT} {F : Nat → Option Fn} {k : Nat}
def SE (xr : XR) (G : GT) (F : Nat → Option Fn) (k n : Nat) : Prop := ∀ (T : TX) (t m : Bool) (e : Expr) (X : Cx) (W : WX), Ctx G F k xr T X W → Snd X xr (callF F k) W t e (trE G n T t m e)
def SO (xr : XR) (G : GT) (F : Nat → Option Fn) (k n : Nat) : Prop := ∀ (T : TX) (o : Option Expr) (X : Cx) (W : WX), Ctx G F k xr T X W → PO X o (TOv X xr (callF F k) W (trO G n T o))
def SI (xr : XR) (G : GT) (F : Nat → Option Fn) (k n : Nat) : Prop := ∀ (T : TX) (tg e : Expr) (X : Cx) (W : WX), Ctx G F k xr T X W → PI X tg e (TIv X xr (callF F k) W (trI G n T (isTup tg) e))
variable {T : TX} {X : Cx} {W : WX} {n : Nat}
theorem SE.v (h : SE xr G F k n) (c : Ctx G F k xr T X W) (m : Bool) (e : Expr) : PE X e (TEv X xr (callF F k) W (trE G n T false m e)) := h T false m e X W c
theorem SE.tt (h : SE xr G F k n) (c : Ctx G F k xr T X W) (m : Bool) (e : Expr) : PT X e (TTv X xr (callF F k) W (trE G n T true m e)) := h T true m e X W c
theorem SE.all (h : SE xr G F k n) (c : Ctx G F k xr T X W) (t m : Bool) (es : List Expr) : AllS (Snd X xr (callF F k) W t) es (es.map fun e => trE G n T t m e) := allS_map (fun e => h T t m e X W c) es
theorem SE.args (h : SE xr G F k n) (c : Ctx G F k xr T X W) {es : List Expr} (hs : es.all noStar = true) : PA X es (TAv X xr (callF F k) W (esOf (es.map fun e => trE G n T false false e))) := pa_all hs (h.all c false false es)
theorem snd_bin (h : SE xr G F k n) (c : Ctx G F k xr T X W) {t m : Bool} {a b : Expr} {op : Operator} {p : Pos} : Snd X xr (callF F k) W t (.BinOp a op b p) (trE G (n + 1) T t m (.BinOp a op b p)) := by
  unfold trE
  dsimp only
  refine fin_snd ?_
  split
  · exact pe_repE (h.v c false a) (h.v c false b)
  · split
    · rename_i o ho
      rw [← boOf_spec ho]
      exact pe_binE (h.v c false a) (h.v c false b)
    · exact pe_bad
theorem snd_un (h : SE xr G F k n) (c : Ctx G F k xr T X W) {t m : Bool} {a : Expr} {op : UnaryOp} {p : Pos} : Snd X xr (callF F k) W t (.UnaryOp op a p) (trE G (n + 1) T t m (.UnaryOp op a p)) := by
  unfold trE
  dsimp only
  cases op with
  | Not => exact snd_not (h T t false a X W c)
  | USub => exact fin_snd (pe_negE (h.v c false a))
  | _ => exact snd_bad
theorem snd_compare (h : SE xr G F k n) (c : Ctx G F k xr T X W) {t m : Bool} {a : Expr} {ops : List CmpOp} {bs : List Expr} {p : Pos} : Snd X xr (callF F k) W t (.Compare a ops bs p) (trE G (n + 1) T t m (.Compare a ops bs p)) := by
  unfold trE
  dsimp only
  split
  · rename_i o b
    split
    · rename_i o' ho hm
      have e := coOf_spec ho
      subst e
      exact snd_cmp c.hu (h.v c false a) (h.v c false b) hm
    · exact snd_bad
  · rename_i o q b d
    split
    · rename_i o' q' ho hq hm
      have e := coOf_spec ho
      subst e
      have e := coOf_spec hq
      subst e
      exact snd_cmp2 c.hu (h.v c false a) (h.v c false b) (h.v c false d) hm
    · exact snd_bad
  · exact snd_bad
theorem snd_if (h : SE xr G F k n) (c : Ctx G F k xr T X W) {t m : Bool} {a b d : Expr} {p : Pos} : Snd X xr (callF F k) W t (.IfExp d a b p) (trE G (n + 1) T t m (.IfExp d a b p)) := by
  unfold trE
  dsimp only
  cases t with
  | true => exact snd_bad (t := true)
  | false => exact pe_iteE (h.tt c false d) (h.v c m a) (h.v c m b)
theorem snd_tup (h : SE xr G F k n) (c : Ctx G F k xr T X W) {t m : Bool} {es : List Expr} {q : Nat} {p : Pos} : Snd X xr (callF F k) W t (.Tuple es q p) (trE G (n + 1) T t m (.Tuple es q p)) := by
  unfold trE
  dsimp only
  split
  · rename_i hs
    exact fin_snd (pe_tupE (h.args c hs))
  · exact snd_bad
theorem snd_lst (h : SE xr G F k n) (c : Ctx G F k xr T X W) {t m : Bool} {es : List Expr} {p : Pos} : Snd X xr (callF F k) W t (.List es p) (trE G (n + 1) T t m (.List es p)) := by
  unfold trE
  dsimp only
  split
  · rename_i hs
    exact fin_snd (pe_lstE (h.args c hs))
  · exact snd_bad
theorem snd_dict (h : SE xr G F k n) (c : Ctx G F k xr T X W) {t m : Bool} {ks : List (Option Expr)} {vs : List Expr} {p : Pos} : Snd X xr (callF F k) W t (.Dict ks vs p) (trE G (n + 1) T t m (.Dict ks vs p)) := by
  unfold trE
  dsimp only
  split
  · exact fin_snd pe_dnewE
  · rename_i kk a v
    exact fin_snd (PE.weak (pe_star c.hu (h.v c false a) (h.v c false kk) (h.v c false v)) fun σ H Q z => star_read z)
  · exact snd_bad
theorem snd_sub (h : SE xr G F k n) (ho : SO xr G F k n) (c : Ctx G F k xr T X W) {t m : Bool} {a i : Expr} {p : Pos} : Snd X xr (callF F k) W t (.Subscript a i p) (trE G (n + 1) T t m (.Subscript a i p)) := by
  unfold trE
  dsimp only
  split
  · split
    · exact fin_snd (pe_slE (h.v c false a) (ho T _ X W c) (ho T _ X W c))
    · split
      · rename_i hs
        obtain ⟨k1, p1, p2, rfl⟩ := isM1_spec hs
        exact fin_snd (pe_revE (h.v c false a))
      · exact snd_bad
  · split
    · rename_i hs
      exact fin_snd (pe_ixE c.hu hs (h.v c false a) (h.v c false i))
    · exact snd_bad
theorem bf_go (c : Ctx G F k xr T X W) {f : BF} {x : Str} {nn : Nat} (hf : bfOf G x nn = some f) (hg : glB T.sc x = true) {e : Expr} {es : List Expr} {es' : Es} {p pos : Pos} (hs : (e :: es).all noStar = true) (ha : PA X (e :: es) (TAv X xr (callF F k) W es')) :
    PE X (.Call (.Name x p) (e :: es) [] pos) (TEv X xr (callF F k) W (.bf f es')) := by
  obtain ⟨h1, h2, h3, h4⟩ := bfOf_spec hf
  subst h1
  exact pe_bfE c.calm c.hu f h2 (c.gl hg) (fun q => c.g.blt _ (h3 q)) (fun q => c.g.gcd (h4 q)) hs ha
theorem tyOf_spec {y : Str} {ty : Ty} (h : tyOf y = some ty) : y = ((tyS ty : String) : Str) := by
  unfold tyOf at h
  repeat' split at h
  all_goals first | (injection h with h; subst h; assumption) | cases h
theorem snd_callN (h : SE xr G F k n) (c : Ctx G F k xr T X W) {t m : Bool} {x : Str} {q : Pos} {es : List Expr} {p : Pos} : Snd X xr (callF F k) W t (.Call (.Name x q) es [] p) (trE G (n + 1) T t m (.Call (.Name x q) es [] p)) := by
  unfold trE
  dsimp only
  split
  · rename_i hc
    simp only [Bool.and_eq_true] at hc
    obtain ⟨⟨hg, hd⟩, hs⟩ := hc
    obtain ⟨d1, d2⟩ := noDbg_spec hd
    split
    · rename_i f e es' hf
      obtain ⟨fa, fd, ps, hm, hk, hb, Fk⟩ := c.g.fns x f hf
      exact fin_snd (pe_callE Fk c.room c.tk (c.gl hg) hm hk hb d1 hs (h.args c hs))
    · exact snd_bad
    · rename_i a y q2 hf
      split
      · rename_i ty hx hty
        split
        · rename_i hcc
          simp only [Bool.and_eq_true] at hcc
          obtain ⟨⟨g1, g2⟩, g3⟩ := hcc
          have ex := of_decide_eq_true hx
          subst ex
          have ey := tyOf_spec hty
          subst ey
          simp only [List.all_cons, Bool.and_eq_true] at hs
          exact fin_snd (pe_isiE (c.gl hg) (c.g.blt _ g3) (c.gl g1) (c.g.blt _ g2) hs.1 (h.v c false a))
        · exact snd_bad
      · split
        · rename_i f hf
          exact fin_snd (bf_go c hf hg hs (h.args c hs))
        · exact snd_bad
    · rename_i e es' hf hno
      split
      · rename_i f hf
        exact fin_snd (bf_go c hf hg hs (h.args c hs))
      · exact snd_bad
    · exact snd_bad
  · exact snd_bad
theorem snd_callK (h : SE xr G F k n) (c : Ctx G F k xr T X W) {t m : Bool} {f : Expr} {es : List Expr} {kw : Keyword} {p : Pos} : Snd X xr (callF F k) W t (.Call f es [kw] p) (trE G (n + 1) T t m (.Call f es [kw] p)) := by
  obtain ⟨nm, la, kp⟩ := kw
  unfold trE
  dsimp only
  split
  · rename_i hc
    simp only [Bool.and_eq_true] at hc
    obtain ⟨⟨hl, hn⟩, hk⟩ := hc
    split
    · rename_i hc
      simp only [Bool.and_eq_true, decide_eq_true_eq] at hc
      obtain ⟨⟨⟨g1, g2⟩, g3⟩, g4⟩ := hc
      subst g3
      obtain ⟨ar, sp, n, scope, pos, rfl, S, hd⟩ := isKeyL_spec hk
      obtain ⟨cc, P, e1, TB, e3, e4⟩ := c.lam hl
      have hnm : nm = some ("key" : Str) := by
        cases nm with
        | none => cases hn
        | some y => rw [of_decide_eq_true (show decide (y = ("key" : Str)) = true from hn)]
      subst hnm
      exact fin_snd (pe_srtSE c.hu c.room.depth TB e1 e3 e4 (c.gl g1) (c.g.blt _ g2) S rfl hd g4 (h.v c false _))
    · exact snd_bad
  · exact snd_bad
theorem mtOf_spec {x : Str} {nn : Nat} {f : MF} (h : mtOf x nn = some f) : x = mtName f ∧ ((nn = 1 ∧ (f = .index ∨ f = .join ∨ f = .append)) ∨ (nn = 0 ∧ (f = .isdigit ∨ f = .isalpha ∨ f = .isalnum)) ∨ (nn = 2 ∧ f = .get2)) := by
  unfold mtOf at h
  repeat' split at h
  all_goals first | (cases h; done) | skip
  all_goals (rename_i q; injection h with h; subst h; refine ⟨q.1, ?_⟩; have q2 := q.2; subst q2; simp)
theorem snd_callA (h : SE xr G F k n) (c : Ctx G F k xr T X W) {t m : Bool} {o : Expr} {x : Str} {q : Pos} {es : List Expr} {p : Pos} : Snd X xr (callF F k) W t (.Call (.Attribute o x q) es [] p) (trE G (n + 1) T t m (.Call (.Attribute o x q) es [] p)) := by
  unfold trE
  dsimp only
  split
  · rename_i hc
    simp only [Bool.and_eq_true] at hc
    obtain ⟨⟨hb, hl⟩, hs⟩ := hc
    split
    · rename_i f hf
      obtain ⟨ex, hh⟩ := mtOf_spec hf
      subst ex
      refine fin_snd ?_
      rcases hh with ⟨hn, hh⟩ | ⟨hn, hh⟩ | ⟨hn, hh⟩
      · match es, hn with
        | [e], _ =>
          simp only [List.all_cons, Bool.and_eq_true] at hs
          exact pe_mt1E c.calm c.tk hh hb hl hs.1 (h.v c false o) (h.v c false e)
      · match es, hn with
        | [], _ => exact pe_mt0E c.calm hh hb hl (h.v c false o)
      · subst hh
        match es, hn with
        | [e, f], _ =>
          simp only [List.all_cons, Bool.and_eq_true] at hs
          exact pe_getE c.hu hb hl hs.1 hs.2.1 (h.v c false o) (h.v c false e) (h.v c false f)
    · exact snd_bad
  · exact snd_bad
theorem pts_all (c : ∀ e, PT X e (TTv X xr (callF F k) W (trE G n T true false e))) : ∀ {ifs : List Expr}, ifs.length ≤ 1 → PTs X ifs (TCv X xr (callF F k) W (condE (ifs.map fun e => trE G n T true false e)))
  | [], _ => ⟨fun pins s σ H Q I ⟨w, δ, e, S, L, h⟩ => by
    subst e
    exact pts_nil.run pins s σ w.H Q I (h.here S rfl)⟩
  | [e], _ => by
    have p := pts_one (c e)
    refine ⟨fun pins s σ H Q I ⟨w, δ, eH, S, L, h⟩ => p.run pins s σ H Q I ⟨w, δ, eH, S, L, ?_⟩⟩
    simp only [List.map_cons, List.map_nil, condE, evc] at h
    refine h.bind fun d w1 b x1 S1 r1 h1 => ?_
    subst r1
    exact h1.here S1 rfl
  | _ :: _ :: _, h => by simp at h
theorem dctVar_spec {e : Expr} {i : Nat} (h : dctVar T e = some i) : ∃ x p, e = .Name x p ∧ visB T.sc x = true ∧ noDbg x = true ∧ slot T x = some i := by
  unfold dctVar at h
  split at h
  · rename_i x p
    split at h
    · rename_i hc
      simp only [Bool.and_eq_true] at hc
      exact ⟨x, p, rfl, hc.1.2, hc.2, h⟩
    · cases h
  · cases h
theorem snd_comp (h : SE xr G F k n) (hi : SI xr G F k n) (c : Ctx G F k xr T X W) {t m : Bool} {elt : Expr} {gens : List Comprehension} {scope : Scope} {p : Pos} : Snd X xr (callF F k) W t (.ListComp elt gens scope p) (trE G (n + 1) T t m (.ListComp elt gens scope p)) := by
  unfold trE
  dsimp only
  split
  · rename_i tg iter ifs z
    split
    · rename_i tg' hc htg
      simp only [Bool.and_eq_true, decide_eq_true_eq] at hc
      obtain ⟨⟨⟨hz, hb⟩, hno⟩, hl⟩ := hc
      subst hz
      have ok : BlkOk T.N T.sc scope (ownOf T scope) := blkOk_by hb
      have ok' : BlkOk X.N X.env.scope scope (ownOf T scope) := by rw [c.n, c.sc]; exact ok
      have cb := fun s H C clo fp => blk_ctx (X := X) (W := W) c ok s H C clo fp
      split
      · rename_i i hd
        obtain ⟨x, px, rfl, h1, h2, h3⟩ := dctVar_spec hd
        obtain ⟨d1, d2⟩ := noDbg_spec h2
        have pi := pi_keys (tg := tg) (pe_var (X := X) (pos := px) (by rw [c.n]; exact slot_spec h3) (by rw [c.sc]; exact visB_spec h1) d1 d2)
        have q := pe_lc (pos := p) (g := TGv X tg') (tt := TCv X xr (callF F k) WF (condE (ifs.map fun c => trE G n (blkT T scope) true false c))) (te := TEv X xr (callF F k) WF (trE G n (blkT T scope) false false elt)) c.calm c.nd pi ok' (fun s H C clo fp => trT_snd n (cb s H C clo fp) htg) (fun s H C clo fp => pts_all (fun e => h.tt (cb s H C clo fp) false e) (Nat.le_of_ble_eq_true hl)) (fun s H C clo fp => h.v (cb s H C clo fp) false elt) (noSet_ok hno)
        exact fin_snd (PE.weak (PE.or (pe_lock q) q) fun σ H Q z => lcK_read z)
      · exact fin_snd (PE.weak (pe_lc (pos := p) c.calm c.nd (hi T tg iter X W c) ok' (fun s H C clo fp => trT_snd n (cb s H C clo fp) htg) (fun s H C clo fp => pts_all (fun e => h.tt (cb s H C clo fp) false e) (Nat.le_of_ble_eq_true hl)) (fun s H C clo fp => h.v (cb s H C clo fp) false elt) (noSet_ok hno)) fun σ H Q z => lc_read z)
    · exact snd_bad
  · exact snd_bad
theorem isTup_spec {e : Expr} (h : isTup e = true) : ∃ es q p, e = .Tuple es q p := by
  cases e <;> first | (cases h; done) | exact ⟨_, _, _, rfl⟩
theorem snd_all : ∀ n, SE xr G F k n ∧ SO xr G F k n ∧ SI xr G F k n
  | 0 => ⟨fun T t m e X W c => by unfold trE; exact snd_bad, fun T o X W c => ⟨fun pins s σ H Q I ⟨w, δ, _, _, _, h⟩ => by unfold trO at h; exact h.elim⟩, fun T tg e X W c => by unfold trI; exact pi_bad fun δ st => rfl⟩
  | n + 1 => by
    obtain ⟨h, ho, hi⟩ := snd_all n
    refine ⟨fun T t m e X W c => ?_, fun T o X W c => ?_, fun T tg e X W c => ?_⟩
    · cases e with
      | BinOp a o b p => exact snd_bin h c
      | UnaryOp o a p => exact snd_un h c
      | BoolOp o es p =>
        unfold trE
        exact snd_bool (h.all c t false es)
      | Compare a ops bs p => exact snd_compare h c
      | IfExp d a b p => exact snd_if h c
      | Tuple es q p => exact snd_tup h c
      | List es p => exact snd_lst h c
      | Dict ks vs p => exact snd_dict h c
      | Subscript a i p => exact snd_sub h ho c
      | Call f es kws p =>
        cases kws with
        | cons kw r =>
          cases r with
          | nil => exact snd_callK h c
          | cons _ _ => cases kw; unfold trE; exact snd_bad
        | nil =>
          cases f with
          | Name x q => exact snd_callN h c
          | Attribute o x q => exact snd_callA h c
          | _ => unfold trE; exact snd_bad
      | ListComp elt gens scope p => exact snd_comp h hi c
      | Constant q j p => unfold trE; exact fin_snd trC_snd
      | Name x p => unfold trE; exact fin_snd (trN_snd c)
      | _ => unfold trE; exact snd_bad
    · unfold trO
      cases o with
      | none => exact po_noneE
      | some e => exact po_someE (h.v c false e)
    · unfold trI
      split
      · rename_i x q a p
        split
        · rename_i hc
          simp only [Bool.and_eq_true] at hc
          obtain ⟨⟨g1, g2⟩, g3⟩ := hc
          split
          · rename_i ex
            subst ex
            exact pi_rngE (c.gl g1) (c.g.blt _ g2) g3 (h.v c false a)
          · split
            · rename_i ex
              obtain ⟨ex, et⟩ := ex
              subst ex
              obtain ⟨es, q, p, rfl⟩ := isTup_spec et
              exact pi_enumE (c.gl g1) (c.g.blt _ g2) g3 (h.v c false a)
            · exact pi_ofE (h.v c false _)
        · exact pi_ofE (h.v c false _)
      · rename_i x q a b p
        split
        · rename_i hc
          simp only [Bool.and_eq_true] at hc
          obtain ⟨⟨⟨g1, g2⟩, g3⟩, g4⟩ := hc
          split
          · rename_i ex
            subst ex
            exact pi_rng2E (c.gl g1) (c.g.blt _ g2) g3 g4 (h.v c false a) (h.v c false b)
          · split
            · rename_i ex
              obtain ⟨ex, et⟩ := ex
              subst ex
              obtain ⟨es, q, p, rfl⟩ := isTup_spec et
              exact pi_zipE (c.gl g1) (c.g.blt _ g2) g3 g4 (h.v c false a) (h.v c false b)
            · exact pi_ofE (h.v c false _)
        · exact pi_ofE (h.v c false _)
      · exact pi_ofE (h.v c false _)
end
end PV
set_option Elab.async false
set_option linter.all false
set_option maxRecDepth 100000
set_option maxHeartbeats 2000000
/-! PV22: statements: readings, the rules. -/
namespace PV
open PySem PySem.Spec PyProof.Rows L2
variable {K : PySem.W.Frag}
def PstS (K : PySem.W.Frag) (xr : XR) (w : Wd) (r : RS) (D : Ends) (W : WX) : Prop := match r with
  | .ok f st' => match f with
    | .nx δ' => ∀ (β' : List Addr) (H' : Hp) (σ' : L2.St), Ext w ⟨β', st', H', w.ho⟩ → StoOk K ⟨β', st', H', w.ho⟩ → LR K ⟨β', st', H', w.ho⟩ δ' σ' → D.nx σ' H'
    | .rt d => ∀ (β' : List Addr) (H' : Hp) (v : V), Ext w ⟨β', st', H', w.ho⟩ → StoOk K ⟨β', st', H', w.ho⟩ → RD K ⟨β', st', H', w.ho⟩ d v → D.rt v H'
    | .bk δ' => ∀ (β' : List Addr) (H' : Hp) (σ' : L2.St), Ext w ⟨β', st', H', w.ho⟩ → StoOk K ⟨β', st', H', w.ho⟩ → LR K ⟨β', st', H', w.ho⟩ δ' σ' → D.bk σ' H'
    | .ct δ' => ∀ (β' : List Addr) (H' : Hp) (σ' : L2.St), Ext w ⟨β', st', H', w.ho⟩ → StoOk K ⟨β', st', H', w.ho⟩ → LR K ⟨β', st', H', w.ho⟩ δ' σ' → D.ct σ' H'
  | .exc c p δ' st' => ∀ (β' : List Addr) (H' : Hp) (σ' : L2.St) (cls : Value) (od : Option Addr), Ext w ⟨β', st', H', w.ho⟩ → StoOk K ⟨β', st', H', w.ho⟩ → LR K ⟨β', st', H', w.ho⟩ δ' σ' → xr ⟨β', st', H', w.ho⟩ c p cls od → W cls od σ' H'
  | .bad => False
section
variable {X : Cx} {xr : XR} {cl : Nat → List D → Sto → R D} {W : WX} {room : Bool} {w w1 : Wd} {D : Ends}
theorem PstS.ext {r : RS} (x : Ext w w1) (h : PstS K xr w r D W) : PstS K xr w1 r D W := by
  have e := x.ho
  cases r with
  | ok f st =>
    cases f with
    | nx δ => intro β' H' σ' y S L; rw [e] at y S L; exact h β' H' σ' (x.trans y) S L
    | rt d => intro β' H' σ' y S L; rw [e] at y S L; exact h β' H' σ' (x.trans y) S L
    | bk δ => intro β' H' σ' y S L; rw [e] at y S L; exact h β' H' σ' (x.trans y) S L
    | ct δ => intro β' H' σ' y S L; rw [e] at y S L; exact h β' H' σ' (x.trans y) S L
  | exc c p δ st => intro β' H' σ' cls od y S L q; rw [e] at y S L q; exact h β' H' σ' cls od (x.trans y) S L q
  | bad => exact h
theorem PstS.thn {α γ : Type} {r : R α} {δ : Sl} {σ : L2.St} {f : α → Sto → RS} {rel : Wd → α → γ → Prop} {Q1 : γ → Hp → Prop} (h : PstS K xr w (r.thn δ f) D W) (L : LR K w δ σ)
    (k : ∀ (a : α) (w1 : Wd) (v : γ), Ext w w1 → StoOk K w1 → rel w1 a v → PstS K xr w1 (f a w1.st) D W → Q1 v w1.H) : Pst K xr w r rel Q1 fun c d H' => W c d σ H' := by
  cases r with
  | ok a st => exact fun β' H' v x S q => k a ⟨β', st, H', w.ho⟩ v x S q (PstS.ext x h)
  | exc c p st => exact fun β' H' cls od x S q => h β' H' σ cls od x S (L.ext x) q
  | bad => exact h
theorem PstS.seq {r : RS} {f : Sl → Sto → RS} (h : PstS K xr w (r.seq f) D W) {N : L2.St → Hp → Prop} (k : ∀ (δ : Sl) (w1 : Wd) (σ : L2.St), Ext w w1 → StoOk K w1 → LR K w1 δ σ → PstS K xr w1 (f δ w1.st) D W → N σ w1.H) : PstS K xr w r { D with nx := N } W := by
  cases r with
  | ok fl st =>
    cases fl with
    | nx δ => exact fun β' H' σ' x S L => k δ ⟨β', st, H', w.ho⟩ σ' x S L (PstS.ext x h)
    | rt d => exact h
    | bk δ => exact h
    | ct δ => exact h
  | exc c p δ st => exact h
  | bad => exact h
theorem PstS.here {δ : Sl} {σ : L2.St} (h : PstS K xr w (.ok (.nx δ) w.st) D W) (S : StoOk K w) (L : LR K w δ σ) : D.nx σ w.H := h w.β w.H σ (Ext.refl w) S L
def TSv (X : Cx) (xr : XR) (cl : Nat → List PV.D → Sto → R PV.D) (W : WX) (room : Bool) (s : PV.S) : TS := fun D σ H => ∃ (w : Wd) (δ : Sl), w.H = H ∧ StoOk X.K w ∧ LR X.K w δ σ ∧ PstS X.K xr w (evS cl room s δ w.st) D W
def TSsv (X : Cx) (xr : XR) (cl : Nat → List PV.D → Sto → R PV.D) (W : WX) (room : Bool) (s : Ss) : TS := fun D σ H => ∃ (w : Wd) (δ : Sl), w.H = H ∧ StoOk X.K w ∧ LR X.K w δ σ ∧ PstS X.K xr w (evSs cl room s δ w.st) D W
theorem ps_bad {st : Stmt} : PS X st (TSv X xr cl W room .bad) := ⟨fun pins s σ H D I ⟨w, δ, _, _, _, h⟩ => h.elim⟩
theorem pss_nilE : PSs X [] (TSsv X xr cl W room .nil) :=
  PSs.weak pss_nil fun D σ H ⟨w, δ, e, S, L, h⟩ => by
    subst e
    simp only [evSs] at h
    exact h.here S L
theorem pss_consE {st : Stmt} {sts : List Stmt} {s : PV.S} {ss : Ss} (h1 : PS X st (TSv X xr cl W room s)) (h2 : PSs X sts (TSsv X xr cl W room ss)) : PSs X (st :: sts) (TSsv X xr cl W room (.cons s ss)) :=
  PSs.weak (pss_cons h1 h2) fun D σ H ⟨w, δ, e, S, L, h⟩ => by
    subst e
    simp only [evSs] at h
    exact ⟨w, δ, rfl, S, L, h.seq fun δ1 w1 σ1 x1 S1 L1 h1 => ⟨w1, δ1, rfl, S1, L1, h1⟩⟩
/-- a thing of the store is let go -/
theorem pss_fz {sts : List Stmt} {i : Nat} {ss : Ss} (h2 : PSs X sts (TSsv X xr cl W room ss)) : PSs X sts (TSsv X xr cl W room (.cons (.fz i) ss)) :=
  PSs.weak h2 fun D σ H ⟨w, δ, e, S, L, h⟩ => by
    subst e
    simp only [evSs, evS] at h
    split at h
    · rename_i j hj
      obtain ⟨v, hσ, r⟩ := L.2 i _ hj
      rw [RD] at r
      obtain ⟨a, rfl, ha⟩ := r
      have Lx : LR X.K ⟨w.β, w.st.set j none, w.H, w.ho⟩ δ σ := L.ext Ext.drop
      have same : σ.set i (some (.ref a)) = σ := by
        apply List.ext_getElem?
        intro n
        by_cases q : i = n
        · subst q
          rw [List.getElem?_set_self (List.getElem?_eq_some_iff.mp hσ).1, hσ]
        · rw [List.getElem?_set_ne q]
      split at h
      · rename_i ds hm
        refine ⟨⟨w.β, w.st.set j none, w.H, w.ho⟩, δ.set i (some (.lst ds)), rfl, S.drop, ?_, PstS.ext Ext.drop h⟩
        have := Lx.set i (drop_lst S ha hm)
        rw [same] at this; exact this
      · rename_i ks vs hm
        refine ⟨⟨w.β, w.st.set j none, w.H, w.ho⟩, δ.set i (some (.dct ks vs)), rfl, S.drop, ?_, PstS.ext Ext.drop h⟩
        have := Lx.set i (drop_dct S ha hm)
        rw [same] at this; exact this
      · exact h.elim
    · exact h.elim
theorem ps_exE {e : Expr} {e' : E} {pos : Pos} (he : PE X e (TEv X xr cl W e')) (hs : swapsWith e none pos.line X.env = pure false) : PS X (.Expr e pos) (TSv X xr cl W room (.ex e')) :=
  PS.weak (ps_expr he hs) fun D σ H ⟨w, δ, e, S, L, h⟩ => by
    subst e
    simp only [evS] at h
    exact ⟨w, δ, rfl, S, L, h.thn L fun d w1 v x1 S1 r1 h1 => h1.here S1 (L.ext x1)⟩
theorem ps_retE {e : Expr} {e' : E} {pos : Pos} (he : PE X e (TEv X xr cl W e')) : PS X (.Return (some e) pos) (TSv X xr cl W room (.ret e')) :=
  PS.weak (ps_ret he) fun D σ H ⟨w, δ, e, S, L, h⟩ => by
    subst e
    simp only [evS] at h
    exact ⟨w, δ, rfl, S, L, h.thn L fun d w1 v x1 S1 r1 h1 => h1 w1.β w1.H v (Ext.refl w1) S1 r1⟩
theorem ps_retNE {pos : Pos} : PS X (.Return none pos) (TSv X xr cl W room .retN) :=
  PS.weak ps_retN fun D σ H ⟨w, δ, e, S, L, h⟩ => by
    subst e
    simp only [evS] at h
    exact h w.β w.H .non (Ext.refl w) S .non
theorem ps_passE {pos : Pos} : PS X (.Pass pos) (TSv X xr cl W room .pass) :=
  PS.weak ps_pass fun D σ H ⟨w, δ, e, S, L, h⟩ => by
    subst e
    simp only [evS] at h
    exact h.here S L
theorem ps_bkE {pos : Pos} : PS X (.Break pos) (TSv X xr cl W room .bk) :=
  PS.weak ps_break fun D σ H ⟨w, δ, e, S, L, h⟩ => by
    subst e
    simp only [evS] at h
    exact h w.β w.H σ (Ext.refl w) S L
theorem ps_ctE {pos : Pos} : PS X (.Continue pos) (TSv X xr cl W room .ct) :=
  PS.weak ps_continue fun D σ H ⟨w, δ, e, S, L, h⟩ => by
    subst e
    simp only [evS] at h
    exact h w.β w.H σ (Ext.refl w) S L
theorem ps_iteE {c : Expr} {a b : List Stmt} {c' : E} {a' b' : Ss} {pos : Pos} (hc : PT X c (TTv X xr cl W c')) (ha : PSs X a (TSsv X xr cl W room a')) (hb : PSs X b (TSsv X xr cl W room b')) : PS X (.If c a b pos) (TSv X xr cl W room (.ite c' a' b')) :=
  PS.weak (ps_if hc ha hb) fun D σ H ⟨w, δ, e, S, L, h⟩ => by
    subst e
    simp only [evS] at h
    refine ⟨w, δ, rfl, S, L, h.thn L fun d w1 v x1 S1 r1 h1 => ?_⟩
    subst r1
    cases v with
    | true => exact ⟨w1, δ, rfl, S1, L.ext x1, h1⟩
    | false => exact ⟨w1, δ, rfl, S1, L.ext x1, h1⟩
/-! stores -/
theorem nxt_asg {tg : PV.T} {d : PV.D} {δ : Sl} {σ : L2.St} {v : V} (S : StoOk X.K w) (L : LR X.K w δ σ) (r : RD X.K w d v) (h : PstS X.K xr w (nxt (asgT tg d δ) w.st) D W) : TGv X tg v σ w.H D.nx := by
  cases q : asgT tg d δ with
  | none => rw [q] at h; exact h.elim
  | some δ1 =>
    rw [q] at h
    exact ⟨w, δ, δ1, d, rfl, S, L, r, q, fun σ' L' _ => h w.β w.H σ' (Ext.refl w) S L'⟩
theorem ps_asgE {tg e : Expr} {tg' : PV.T} {e' : E} {pos : Pos} (he : PE X e (TEv X xr cl W e')) (hg : PG X tg (TGv X tg')) (hp : plainTg tg = true) (hs : swapsWithSole [tg] e pos.line X.env = pure false) (hw : swappedStores [tg] e X.env = pure none) :
    PS X (.Assign [tg] e pos) (TSv X xr cl W room (.asg tg' e')) :=
  PS.weak (ps_asg he hg hs hw (by rw [each_one hp]; unfold assignEach; rfl)) fun D σ H ⟨w, δ, e, S, L, h⟩ => by
    subst e
    simp only [evS] at h
    exact ⟨w, δ, rfl, S, L, h.thn L fun d w1 v x1 S1 r1 h1 => nxt_asg S1 (L.ext x1) r1 h1⟩
theorem ps_setLcE {i : Nat} {y : Str} {py : Pos} {elt tg iter : Expr} {ifs : List Expr} {scope : Scope} {own : List (Str × Nat)} {pos spos : Pos} {it : I} {tg' : PV.T} {cond : Eo} {e' : E} (hc : X.calm = true) (hN : X.N.Nodup) (hy : X.N[i]? = some y) (hyl : X.env.scope.names.lookup y = some .local)
    (hsw : swapsWith (.ListComp elt [⟨tg, iter, ifs, 0⟩] scope pos) (some (.Name y py)) spos.line X.env = pure true) (hi : PI X tg iter (TIv X xr cl W it)) (ok : BlkOk X.N X.env.scope scope own)
    (hg : ∀ (s : Shared) (H : Hp) (C : Addr) (clo : List (Str × Addr)) (fp : List Addr), PG (X.blk s H scope (compEnvC scope clo C X.env) fp) tg (TGv X tg')) (ht : ∀ (s : Shared) (H : Hp) (C : Addr) (clo : List (Str × Addr)) (fp : List Addr), PTs (X.blk s H scope (compEnvC scope clo C X.env) fp) ifs (TCv X xr cl WF cond))
    (he : ∀ (s : Shared) (H : Hp) (C : Addr) (clo : List (Str × Addr)) (fp : List Addr), PE (X.blk s H scope (compEnvC scope clo C X.env) fp) elt (TEv X xr cl WF e')) (hs : noSet iter = true) :
    PS X (.Assign [.Name y py] (.ListComp elt [⟨tg, iter, ifs, 0⟩] scope pos) spos) (TSv X xr cl W room (.asg (.n i) (.lc (own.map (·.2)) tg' it cond e'))) :=
  PS.weak (ps_setLc hc hN hy hyl hsw hi ok hg ht he (noSet_ok hs)) fun D σ H ⟨w, δ, e, S, L, h⟩ => by
    subst e
    simp only [evS] at h
    refine lc_read ⟨w, δ, rfl, S, L, h.thn L fun d w1 v x1 S1 r1 h1 => ?_⟩
    show D.nx (σ.set i (some v)) w1.H
    have L1 := L.ext x1
    cases q : asgT (.n i) d δ with
    | none => rw [q] at h1; exact h1.elim
    | some δ1 =>
      rw [q] at h1
      unfold asgT at q
      split at q
      · injection q with q
        subst q
        exact h1.here S1 (L1.set i r1)
      · cases q
theorem ps_parE {i j : Nat} {x y : Str} {a b : Expr} {a' b' : E} {px py pt : Pos} {kt k2 : Nat} {pt2 pos : Pos} (hc : X.calm = true) (hN : X.N.Nodup) (hi : X.N[i]? = some x) (hj : X.N[j]? = some y) (hij : i ≠ j)
    (hx : X.env.scope.names.lookup x = some .local) (hy : X.env.scope.names.lookup y = some .local) (hsa : noStar a = true) (hsb : noStar b = true) (ha : PE X a (TEv X xr cl W a')) (hb : PE X b (TEv X xr cl W b'))
    (hw : swappedStores [.Tuple [.Name x px, .Name y py] kt pt] (.Tuple [a, b] k2 pt2) X.env = pure (some [x, y])) :
    PS X (.Assign [.Tuple [.Name x px, .Name y py] kt pt] (.Tuple [a, b] k2 pt2) pos) (TSv X xr cl W room (.par i j a' b')) :=
  PS.weak (ps_par hc hN hi hj hij hx hy (pa_cons ha (pa_cons hb pa_nil (star_one hsb)) (star_one hsa)) hw) fun D σ H ⟨w, δ, e, S, L, h⟩ => by
    subst e
    simp only [evS] at h
    refine ⟨w, δ, rfl, S, L, h.thn L fun d w1 v x1 S1 r1 h1 => ⟨w1, δ, rfl, S1, L.ext x1, h1.thn (L.ext x1) fun e w2 u x2 S2 r2 h2 => ?_⟩⟩
    refine ⟨v, u, rfl, ?_⟩
    split at h2
    · exact h2.here S2 ((((L.ext x1).ext x2).set i (r1.ext x2)).set j r2)
    · exact h2.elim
theorem ps_subE (hu : X.A.units + 64 < cLine) {o i e : Expr} {o' i' e' : E} {pt pos : Pos} (ho : PE X o (TEv X xr cl W o')) (hi : PE X i (TEv X xr cl W i')) (he : PE X e (TEv X xr cl W e')) (hsl : isSlice i = false) (hs : swapsWithSole [.Subscript o i pt] e pos.line X.env = pure false) :
    PS X (.Assign [.Subscript o i pt] e pos) (TSv X xr cl W room (.sub o' i' e')) := by
  have hw : swappedStores [.Subscript o i pt] e X.env = pure none := by unfold swappedStores; rfl
  refine PS.weak (ps_asg he (pg_sub ho hi (set_D (xr := xr) hu) (by intro v; cases i <;> first | (cases hsl; done) | rfl | (unfold assign; rfl))) hs hw (by unfold assignEach; rfl)) fun D σ H ⟨w, δ, e, S, L, h⟩ => ?_
  subst e
  simp only [evS] at h
  refine ⟨w, δ, rfl, S, L, h.thn L fun d w1 v x1 S1 r1 h1 => ⟨w1, δ, rfl, S1, L.ext x1, h1.thn (L.ext x1) fun e w2 u x2 S2 r2 h2 => ⟨w2, δ, rfl, S2, (L.ext x1).ext x2, h2.thn ((L.ext x1).ext x2) fun f w3 z x3 S3 r3 h3 => ?_⟩⟩⟩
  exact ⟨w3, e, f, d, rfl, S3, r2.ext x3, r3, (r1.ext x2).ext x3, Pst.nox (nox_set _ _ _ _) (h3.thn (rel := fun _ _ (_ : Unit) => True) (((L.ext x1).ext x2).ext x3) fun _ w4 _ x4 S4 _ h4 => h4.here S4 ((((L.ext x1).ext x2).ext x3).ext x4))⟩
end
end PV
set_option Elab.async false
set_option linter.all false
set_option maxRecDepth 100000
set_option maxHeartbeats 2000000
/-! PV23: loops, what is raised and caught. -/
namespace PV
open PySem PySem.Spec PyProof.Rows L2
variable {K : PySem.W.Frag}
section
variable {X : Cx} {xr : XR} {cl : Nat → List PV.D → Sto → R PV.D} {W : WX} {room : Bool}
theorem for_walk {tg : PV.T} {b : Ss} {δ : Sl} {σ : L2.St} {w1 : Wd} {J : It} {ds : List PV.D} {D : Ends} (S1 : StoOk X.K w1) (L : LR X.K w1 δ σ) (jok : JOk X.K w1 J ds) (h : PstS X.K xr w1 (forR tg (fun δ st => evSs cl room b δ st) ds δ w1.st) D W) :
    ∃ Wt : Nat → Nat → L2.St → Hp → Prop, (∃ m, Wt 0 m σ w1.H) ∧ ∀ i m σ H, Wt i m σ H →
  (J.stop i H ∧ D.nx σ H) ∨ (J.go i H ∧ ∃ N : L2.St → Hp → Prop, (∀ σ' H', N σ' H' → ∃ m', m' < m ∧ Wt (i + 1) m' σ' H') ∧ ∀ x H', J.yld i H x H' → TGv X tg x σ H' fun σ2 H2 => TSsv X xr cl W room b { D with nx := N, ct := N, bk := D.nx } σ2 H2) := by
  let P : Nat → L2.St → Hp → Prop := fun i σ H => ∃ (w : Wd) (δ : Sl), w.H = H ∧ StoOk X.K w ∧ Ext w1 w ∧ LR X.K w δ σ ∧ PstS X.K xr w (forR tg (fun δ st => evSs cl room b δ st) (ds.drop i) δ w.st) D W
  refine ⟨fun i m σ H => m = ds.length - i ∧ i ≤ ds.length ∧ P i σ H, ⟨ds.length, by simp, Nat.zero_le _, w1, δ, rfl, S1, Ext.refl w1, L, h⟩, ?_⟩
  rintro i m σ H ⟨rfl, hi, w, δ, rfl, S, x, L, h⟩
  obtain ⟨jg, js, jy⟩ := jok w x.mv S
  by_cases hlt : i < ds.length
  · refine .inr ⟨jg i hlt, P (i + 1), fun σ' H' p => ⟨ds.length - (i + 1), by omega, rfl, hlt, p⟩, fun y H' hy => ?_⟩
    obtain ⟨d, hd, xY, SY, rd⟩ := jy i y H' hlt hy
    have hdrop : ds.drop i = d :: ds.drop (i + 1) := by
      obtain ⟨h1, h2⟩ := List.getElem?_eq_some_iff.mp hd
      rw [List.drop_eq_getElem_cons h1, h2]
    rw [hdrop] at h
    unfold forR at h
    split at h
    · rename_i δ1 hasg
      refine ⟨_, δ, δ1, d, rfl, SY, L.ext xY, rd, hasg, fun σ2 L2' only => ⟨_, δ1, rfl, SY, L2', ?_⟩⟩
      have h := PstS.ext xY h
      have again : ∀ {w' : Wd} {δ' : Sl} {σ' : L2.St}, Ext ⟨w.β, w.st, H', w.ho⟩ w' → StoOk X.K w' → LR X.K w' δ' σ' → PstS X.K xr w' (forR tg (fun δ st => evSs cl room b δ st) (ds.drop (i + 1)) δ' w'.st) D W → P (i + 1) σ' w'.H := fun {w' δ' σ'} x' S' L' h' => ⟨w', δ', rfl, S', (x.trans xY).trans x', L', h'⟩
      show PstS X.K xr _ (evSs cl room b δ1 w.st) _ W
      cases q : evSs cl room b δ1 w.st with
      | ok fl st =>
        rw [q] at h
        cases fl with
        | nx δ2 => exact fun β2 H2 σ3 x3 S3 L3 => again x3 S3 L3 (PstS.ext x3 h)
        | ct δ2 => exact fun β2 H2 σ3 x3 S3 L3 => again x3 S3 L3 (PstS.ext x3 h)
        | bk δ2 => exact h
        | rt d => exact h
      | exc c p δ2 st =>
        rw [q] at h
        exact h
      | bad =>
        rw [q] at h
        exact h.elim
    · exact h.elim
  · have e : i = ds.length := by omega
    subst e
    rw [List.drop_length] at h
    unfold forR at h
    exact .inl ⟨js, h.here S L⟩
theorem ps_forE {tg iter : Expr} {body : List Stmt} {tg' : PV.T} {it : I} {b : Ss} {pos : Pos} (hp : PassesOwn (model X.prog X.w) X.A X.env X.xe) (hc : X.calm = true) (hi : PI X tg iter (TIv X xr cl W it)) (hg : PG X tg (TGv X tg')) (hb : PSs X body (TSsv X xr cl W room b)) (hs : noSet iter = true) :
    PS X (.For tg iter body [] pos) (TSv X xr cl W room (.fr tg' it b)) :=
  PS.weak (ps_for hp hc hi hg hb (noSet_ok hs)) fun D σ H ⟨w, δ, e, S, L, h⟩ => by
    subst e
    simp only [evS] at h
    exact ⟨w, δ, rfl, S, L, h.thn L fun ds w1 J x1 S1 jok h1 => for_walk S1 (L.ext x1) jok h1⟩
/-- nothing is raised -/
theorem PstS.noXS {w : Wd} {r : RS} {D : Ends} {W' : WX} (h : PstS K xr w (noXS r) D W) : PstS K xr w r D W' := by
  cases r with
  | ok fl st => cases fl <;> exact h
  | exc c p δ st => exact h.elim
  | bad => exact h
/-- a loop over a dict, locked meanwhile -/
theorem ps_forKE {tg : Expr} {x : Str} {i : Nat} {body : List Stmt} {tg' : PV.T} {b : Ss} {px pos : Pos} (hp : PassesOwn (model X.prog X.w) X.A X.env X.xe) (hc : X.calm = true) (hN : X.N[i]? = some x) (hv : Vis X.env.scope x) (d1 : (x == ("__debug__" : Str)) = false) (d2 : (x == ("__classdict__" : Str)) = false) (hg : PG X tg (TGv X tg')) (hb : PSs X body (TSsv X xr cl W room b)) :
    PS X (.For tg (.Name x px) body [] pos) (TSv X xr cl W room (.frK tg' i b)) := by
  have base := ps_for (pos := pos) hp hc (pi_keys (tg := tg) (pe_var (X := X) (pos := px) hN hv d1 d2)) hg hb (noSet_ok (by rfl))
  refine PS.weak (t := fun D σ H => tLock (tFor (iKeys (tVar i)) (TGv X tg') (TSsv X xr cl W room b)) D σ H ∨ tFor (iKeys (tVar i)) (TGv X tg') (TSsv X xr cl W room b) D σ H) ⟨fun pins s σ H D I q => q.elim ((ps_lock base).run pins s σ H D I) (base.run pins s σ H D I)⟩ fun D σ H ⟨w, δ, e, S, L, h⟩ => ?_
  subst e
  simp only [evS] at h
  split at h
  · rename_i ks vs hx
    obtain ⟨v, hσ, r⟩ := L.2 i _ hx
    rw [RD] at r
    obtain ⟨a, kvs, rfl, h1, h3, h4, h2⟩ := r
    have h0 := h
    have h := PstS.noXS (W' := W) h
    rcases h1 with h1 | ⟨od, h1⟩
    · refine .inl ⟨a, .dT kvs, h1, trivial, fun od => ?_⟩
      have l : Lk w a kvs (.frz od (.dT kvs)) := ⟨⟨_, h1, .inl rfl⟩, .inr ⟨od, rfl⟩, h3⟩
      have hl : (w.lk a (.frz od (.dT kvs))).H a = some (.frz od (.dT kvs)) := upd_same
      refine ⟨.ref a, hσ, a, od, rfl, .inr ⟨kvs, hl, ?_⟩⟩
      refine for_walk (w1 := w.lk a (.frz od (.dT kvs))) (S.lk l) (L.lk l) (jok_keys hl h3 h4) ?_
      have key : ∀ {r : RS}, (∀ c p δ st, r ≠ .exc c p δ st) → PstS X.K xr w r D W → PstS X.K xr (w.lk a (.frz od (.dT kvs))) r ⟨fun σ' H' => H' a = some (.frz od (.dT kvs)) ∧ D.nx σ' (upd H' a (.dT kvs)), fun v H' => H' a = some (.frz od (.dT kvs)) ∧ D.rt v (upd H' a (.dT kvs)), fun σ' H' => H' a = some (.frz od (.dT kvs)) ∧ D.bk σ' (upd H' a (.dT kvs)), fun σ' H' => H' a = some (.frz od (.dT kvs)) ∧ D.ct σ' (upd H' a (.dT kvs))⟩ W := fun {r} ne hr => by
        cases r with
        | ok fl st =>
          cases fl with
          | nx δ' =>
            intro β' H' σ' x' S' L'
            obtain ⟨k1, k2, k3⟩ := Ext.unlock h1 (.inl rfl) l x'
            exact ⟨k1, hr β' _ σ' k3 (S'.lk k2) (L'.lk k2)⟩
          | rt d =>
            intro β' H' v x' S' r'
            obtain ⟨k1, k2, k3⟩ := Ext.unlock h1 (.inl rfl) l x'
            exact ⟨k1, hr β' _ v k3 (S'.lk k2) (r'.lk k2)⟩
          | bk δ' =>
            intro β' H' σ' x' S' L'
            obtain ⟨k1, k2, k3⟩ := Ext.unlock h1 (.inl rfl) l x'
            exact ⟨k1, hr β' _ σ' k3 (S'.lk k2) (L'.lk k2)⟩
          | ct δ' =>
            intro β' H' σ' x' S' L'
            obtain ⟨k1, k2, k3⟩ := Ext.unlock h1 (.inl rfl) l x'
            exact ⟨k1, hr β' _ σ' k3 (S'.lk k2) (L'.lk k2)⟩
        | exc c p δ' st => exact absurd rfl (ne c p δ' st)
        | bad => exact hr
      exact key (fun c p δ' st e => by rw [e] at h0; exact h0.elim) h
    · exact .inr ⟨.ref a, hσ, a, od, rfl, .inr ⟨kvs, h1, for_walk S L (jok_keys h1 h3 h4) h⟩⟩
  · exact h.elim
theorem ps_whE {c : Expr} {body : List Stmt} {c' : E} {b : Ss} {pos : Pos} (hp : PassesOwn (model X.prog X.w) X.A X.env X.xe) (hc : PT X c (TTv X xr cl W c')) (hb : PSs X body (TSsv X xr cl W room b)) : PS X (.While c body [] pos) (TSv X xr cl W room (.wh c' b)) :=
  PS.weak (ps_while hp hc hb) fun D σ H ⟨w, δ, e, S, L, h⟩ => by
    subst e
    simp only [evS] at h
    refine ⟨fun m σ H => ∃ (w : Wd) (δ : Sl), w.H = H ∧ StoOk X.K w ∧ LR X.K w δ σ ∧ PstS X.K xr w (whR (fun δ st => ev cl c' true δ st) (fun δ st => evSs cl room b δ st) m δ w.st) D W, ⟨turns, w, δ, rfl, S, L, h⟩, ?_⟩
    rintro m σ H ⟨w, δ, rfl, S, L, h⟩
    cases m with
    | zero => exact h.elim
    | succ m =>
      unfold whR at h
      refine ⟨w, δ, rfl, S, L, h.thn L fun d w1 v x1 S1 r1 h1 => ?_⟩
      subst r1
      have L1 := L.ext x1
      cases v with
      | false => exact h1.here S1 L1
      | true =>
        rw [if_pos rfl]
        refine ⟨fun σ' H' => ∃ (w : Wd) (δ : Sl), w.H = H' ∧ StoOk X.K w ∧ LR X.K w δ σ' ∧ PstS X.K xr w (whR (fun δ st => ev cl c' true δ st) (fun δ st => evSs cl room b δ st) m δ w.st) D W, fun σ' H' n => ⟨m, Nat.lt_succ_self m, n⟩, w1, δ, rfl, S1, L1, ?_⟩
        change PstS X.K xr w1 (match evSs cl room b δ w1.st with
          | .ok (.nx δ2) st2 => whR (fun δ st => ev cl c' true δ st) (fun δ st => evSs cl room b δ st) m δ2 st2
          | .ok (.ct δ2) st2 => whR (fun δ st => ev cl c' true δ st) (fun δ st => evSs cl room b δ st) m δ2 st2
          | .ok (.bk δ2) st2 => .ok (.nx δ2) st2
          | r => r) D W at h1
        cases q : evSs cl room b δ w1.st with
        | ok fl st =>
          rw [q] at h1
          cases fl with
          | nx δ2 => exact fun β2 H2 σ3 x3 S3 L3 => ⟨⟨β2, st, H2, w1.ho⟩, δ2, rfl, S3, L3, PstS.ext x3 h1⟩
          | ct δ2 => exact fun β2 H2 σ3 x3 S3 L3 => ⟨⟨β2, st, H2, w1.ho⟩, δ2, rfl, S3, L3, PstS.ext x3 h1⟩
          | bk δ2 => exact h1
          | rt d => exact h1
        | exc c p δ2 st =>
          rw [q] at h1
          exact h1
        | bad =>
          rw [q] at h1
          exact h1.elim
theorem ps_rseE {c : Nat} {e : Expr} {e' : E} {arg : Expr} {pos : Pos} (hc : X.calm = true) (tk : Takes X W) (h : PMk X e (tExc X.K xr c (TEv X xr cl W e'))) : PS X (.Raise (some e) none pos) (TSv X xr cl W room (.rse c e')) :=
  PS.weak (ps_raise hc tk h) fun D σ H ⟨w, δ, e, S, L, h⟩ => by
    subst e
    simp only [evS] at h
    cases room with
    | true =>
      refine ⟨w, δ, rfl, S, L, PstS.thn (show PstS X.K xr w (R.thn _ _ _) D W from h) L fun d w1 v x1 S1 r1 h1 => ?_⟩
      split at h1
      · rename_i hh
        exact ⟨w1, d, rfl, S1, r1, hh, fun β' H' cls od x' S' q => h1 β' H' σ cls od x' S' ((L.ext x1).ext x') q⟩
      · exact h1.elim
    | false => exact h.elim
end
end PV
set_option Elab.async false
set_option linter.all false
set_option maxRecDepth 100000
set_option maxHeartbeats 2000000
/-! PV24: statements translated; the translation is sound. -/
namespace PV
open PySem PySem.Spec PyProof.Rows L2
def fe : Nat := 40
def noComp : Expr → Bool
  | .ListComp _ _ _ _ => false
  | .SetComp _ _ _ _ => false
  | .DictComp _ _ _ _ _ => false
  | _ => true
theorem noComp_sw {v : Expr} {t : Option Expr} {l : Nat} {env : Env} (h : noComp v = true) : swapsWith v t l env = pure false := by
  cases v <;> first | (cases h; done) | rfl | (unfold swapsWith; rfl)
theorem noComp_sws {v t : Expr} {l : Nat} {env : Env} (h : noComp v = true) : swapsWithSole [t] v l env = pure false := by
  unfold swapsWithSole
  exact noComp_sw h
def lclB (T : TX) (x : Str) : Bool := match T.sc.names.lookup x with
  | some .local => true
  | _ => false
theorem lclB_spec {T : TX} {x : Str} (h : lclB T x = true) : T.sc.names.lookup x = some .local := by
  unfold lclB at h
  split at h
  · assumption
  · cases h
def noSwapB : Expr → Bool
  | .Tuple vs _ _ => vs.all (foldedForSure 8)
  | _ => true
def trLc (G : GT) (T : TX) (elt : Expr) (gens : List Comprehension) (scope : Scope) : E := match gens with
  | [⟨tg, iter, ifs, z⟩] => match decide (z = 0) && blkC T.N T.sc scope (ownOf T scope) && noSet iter && Nat.ble ifs.length 1, trT (blkT T scope) fe tg with
    | true, some tg' => .lc ((ownOf T scope).map (·.2)) tg' (trI G fe T (isTup tg) iter) (condE (ifs.map fun c => trE G fe (blkT T scope) true false c)) (trE G fe (blkT T scope) false false elt)
    | _, _ => .bad
  | _ => .bad
def celB (T : TX) (x : Str) : Bool := match T.sc.names.lookup x with
  | some .cell => true
  | _ => false
def trAsg (G : GT) (T : TX) (tg v : Expr) : S := match tg with
  | .Name y py => match v with
    | .ListComp elt gens scope cp => match T.top && lclB T y && (py.line == cp.line) && !(scope.names.any fun p => p.1 == y && (p.2 == .local || p.2 == .cell)), slot T y with
      | true, some i => .asg (.n i) (trLc G T elt gens scope)
      | _, _ => .bad
    | v => match noComp v, trT T fe (.Name y py) with
      | true, some tg' => .asg tg' (trE G fe T false (T.muts.contains y) v)
      | _, _ => .bad
  | .Tuple ts q tp => match noComp v with
    | true => match noSwapB v with
      | true => match trT T fe (.Tuple ts q tp) with
        | some tg' => .asg tg' (trE G fe T false false v)
        | none => .bad
      | false => match ts, v with
        | [.Name x px, .Name y py], .Tuple [a, b] _ _ => match lclB T x && lclB T y && (py.line == px.line) && !decide (x = y) && noStar a && noStar b && !([a, b].all (foldedForSure 8)) && !([a, b].all (constantsAlone 8)), slot T x, slot T y with
          | true, some i, some j => match decide (i ≠ j) with
            | true => .par i j (trE G fe T false (T.muts.contains x) a) (trE G fe T false (T.muts.contains y) b)
            | false => .bad
          | _, _, _ => match (celB T x || celB T y) && (noStar a && noStar b), trT T fe (.Tuple [.Name x px, .Name y py] q tp) with
            | true, some tg' => .asg tg' (.tup (esOf [trE G fe T false (T.muts.contains x) a, trE G fe T false (T.muts.contains y) b]))
            | _, _ => .bad
        | _, _ => .bad
    | false => .bad
  | .Subscript o i _ => match noComp v && !isSlice i with
    | true => .sub (trE G fe T false false o) (trE G fe T false false i) (trE G fe T false false v)
    | false => .bad
  | _ => .bad
def trRse (G : GT) (T : TX) : Expr → S
  | .Call (.Name x _) [arg] [] _ => match glB T.sc x && noDbg x && noStar arg, G.cls.lookup x with
    | true, some c => .rse c (trE G fe T false false arg)
    | _, _ => .bad
  | _ => .bad
/-- except x as n: return n.place -/
def trHdl (G : GT) (T : TX) : ExceptHandler → Option Nat
  | .ExceptHandler (some (.Name x _)) (some n) [.Return (some (.Attribute (.Name n2 _) f _)) _] _ => match glB T.sc x && noDbg x && decide (n = n2) && decide (f = "place") && lclB T n && noDbg n, G.cls.lookup x with
    | true, some 0 => slot T n
    | _, _ => none
  | _ => none
def fzOf (T : TX) (l : Nat) : List (Nat × Str) → Ss → Ss
  | [], ss => ss
  | p :: ps, ss => match Nat.beq p.1 l, slot T p.2 with
    | true, some i => .cons (.fz i) (fzOf T l ps ss)
    | _, _ => fzOf T l ps ss
def lineOf : Stmt → Nat
  | .Return _ p => p.line
  | .Assign _ _ p => p.line
  | .For _ _ _ _ p => p.line
  | .While _ _ _ p => p.line
  | .If _ _ _ p => p.line
  | .Expr _ p => p.line
  | .Raise _ _ p => p.line
  | _ => 0
mutual
def trS (G : GT) : Nat → TX → Bool → Stmt → S
  | 0, _, _, _ => .bad
  | n + 1, T, rm, st => match st with
    | .Assign tgs v _ => match tgs with
      | [tg] => trAsg G T tg v
      | _ => .bad
    | .Expr v _ => match noComp v with
      | true => .ex (trE G fe T false false v)
      | false => .bad
    | .Return o _ => match o with
      | some e => .ret (trE G fe T false rm e)
      | none => .retN
    | .If c a b _ => .ite (trE G fe T true false c) (trSs G n T rm a) (trSs G n T rm b)
    | .For tg iter b els _ => match els with
      | [] => match T.top && noSet iter, trT T fe tg with
        | true, some tg' => match dctVar T iter with
          | some i => .frK tg' i (trSs G n T rm b)
          | none => .fr tg' (trI G fe T (isTup tg) iter) (trSs G n T rm b)
        | _, _ => .bad
      | _ => .bad
    | .While c b els _ => match els with
      | [] => .wh (trE G fe T true false c) (trSs G n T rm b)
      | _ => .bad
    | .Raise o c _ => match o, c with
      | some e, none => trRse G T e
      | _, _ => .bad
    | .Try b hs els fin _ => match hs, els, fin with
      | [h], [], [] => match trHdl G T h with
        | some i => .tryPl 0 i (trSs G n T rm b)
        | none => .bad
      | _, _, _ => .bad
    | .Pass _ => .pass
    | .Break _ => .bk
    | .Continue _ => .ct
    | _ => .bad
def trSs (G : GT) : Nat → TX → Bool → List Stmt → Ss
  | 0, _, _, _ => .cons .bad .nil
  | n + 1, T, rm, sts => match sts with
    | [] => .nil
    | st :: r => fzOf T (lineOf st) T.fzs (.cons (trS G n T rm st) (trSs G n T rm r))
end
/-! ### soundness -/
structure CtxS (G : GT) (F : Nat → Option Fn) (k : Nat) (xr : XR) (T : TX) (X : Cx) (W : WX) : Prop where
  c : Ctx G F k xr T X W
  hp : PassesOwn (model X.prog X.w) X.A X.env X.xe
  stk : X.stack = X.env :: X.outer
  frm : X.env.frame = some X.env.locals
def rm3 (k : Nat) : Bool := Nat.blt 2 k
section
variable {xr : XR} {G : GT} {F : Nat → Option Fn} {k n : Nat} {T : TX} {X : Cx} {W : WX} {cl : Nat → List PV.D → Sto → R PV.D} {room : Bool}
theorem eE (G : GT) (F : Nat → Option Fn) (k : Nat) (xr : XR) : SE xr G F k fe := (snd_all fe).1
theorem eI (G : GT) (F : Nat → Option Fn) (k : Nat) (xr : XR) : SI xr G F k fe := (snd_all fe).2.2
theorem swN {ts : List Expr} {v : Expr} {q : Nat} {tp : Pos} {env : Env} (h : noSwapB v = true) : swappedStores [.Tuple ts q tp] v env = pure none := by
  unfold swappedStores
  cases v <;> try rfl
  rename_i vs q2 p2
  have h : vs.all (foldedForSure 8) = true := h
  simp only [h, if_true]
  repeat' split
  all_goals rfl
theorem sw2 {x y : Str} {px py tp tp2 : Pos} {q q2 : Nat} {a b : Expr} {env : Env} (hk : env.scope.kind = .function) (hx : env.scope.names.lookup x = some .local) (hy : env.scope.names.lookup y = some .local) (hl : (py.line == px.line) = true) (hxy : x ≠ y) (ha : noStar a = true) (hb : noStar b = true)
    (h1 : ([a, b].all (foldedForSure 8)) = false) (h2 : ([a, b].all (constantsAlone 8)) = false) : swappedStores [.Tuple [.Name x px, .Name y py] q tp] (.Tuple [a, b] q2 tp2) env = pure (some [x, y]) := by
  have hbk : env.blockKind = .function := by unfold Env.blockKind; rw [hk]; rfl
  have kx : env.kindOf x = some .local := hx
  have ky : env.kindOf y = some .local := hy
  have sa : ([a, b].any fun | .Starred .. => true | _ => false) = false := by
    cases a <;> first | (cases ha; done) | skip
    all_goals (cases b <;> first | (cases hb; done) | rfl)
  have ed : ([x, y] : List Str).eraseDups.length = 2 := by
    have : (y == x) = false := by simpa using fun z => hxy z.symm
    simp [List.eraseDups_cons, this]
  unfold swappedStores
  have hl' : py.line = px.line := by simpa using hl
  dsimp only
  simp only [hbk, sa]
  simp [kx, ky, Expr.pos, hl', ed, h1, h2]
  intro h
  exfalso
  rcases h with h | h
  · cases a <;> first | (cases ha; done) | (cases h; done)
  · cases b <;> first | (cases hb; done) | (cases h; done)
def celS (sc : Scope) (x : Str) : Bool := match sc.names.lookup x with
  | some .cell => true
  | _ => false
theorem swC {x y : Str} {px py tp tp2 : Pos} {q q2 : Nat} {a b : Expr} {env : Env} (hk : env.scope.kind = .function) (h : (celS env.scope x || celS env.scope y) = true) : swappedStores [.Tuple [.Name x px, .Name y py] q tp] (.Tuple [a, b] q2 tp2) env = pure none := by
  have hbk : env.blockKind = .function := by unfold Env.blockKind; rw [hk]; rfl
  have key : ∀ z, celS env.scope z = true → env.kindOf z = some .cell := fun z hz => by
    unfold celS at hz
    split at hz
    · assumption
    · cases hz
  unfold swappedStores
  dsimp only
  rw [Bool.or_eq_true] at h
  rcases h with h | h
  · have kx := key _ h
    by_cases hy : env.kindOf y = some .local
    · simp [kx, hy, hbk]
      intro _ _ h2
      exact absurd (Nat.le_trans (Nat.le_of_eq h2.symm) (List.length_filterMap_le _ _)) (by simp)
    · simp [kx, hy, hbk]
  · have ky := key _ h
    by_cases hx : env.kindOf x = some .local
    · simp [ky, hx, hbk]
      intro _ _ h2
      exfalso
      simp [List.filterMap_cons, hx, ky, Expr.pos] at h2
    · simp [ky, hx, hbk]
theorem ps_badA {st : Stmt} {t : PV.T} : PS X st (TSv X xr cl W room (.asg t .bad)) := ⟨fun pins s σ H D I ⟨w, δ, _, _, _, h⟩ => by simp only [evS, ev, R.thn] at h; exact h.elim⟩
theorem asg_snd (c : Ctx G F k xr T X W) {tg v : Expr} {pos : Pos} : PS X (.Assign [tg] v pos) (TSv X xr (callF F k) W room (trAsg G T tg v)) := by
  unfold trAsg
  split
  · rename_i y py
    split
    · rename_i elt gens scope cp
      split
      · rename_i i hc hi
        simp only [Bool.and_eq_true] at hc
        obtain ⟨⟨⟨ht, hl⟩, hln⟩, hna⟩ := hc
        have hyl : X.env.scope.names.lookup y = some .local := by rw [c.sc]; exact lclB_spec hl
        unfold trLc
        split
        · rename_i ctg iter ifs z
          split
          · rename_i tg' hcc htg
            simp only [Bool.and_eq_true, decide_eq_true_eq] at hcc
            obtain ⟨⟨⟨hz, hb⟩, hno⟩, hll⟩ := hcc
            subst hz
            have ok : BlkOk T.N T.sc scope (ownOf T scope) := blkOk_by hb
            have ok' : BlkOk X.N X.env.scope scope (ownOf T scope) := by rw [c.n, c.sc]; exact ok
            have cb := fun s H C clo fp => blk_ctx (X := X) (W := W) c ok s H C clo fp
            refine ps_setLcE c.calm c.nd (by rw [c.n]; exact slot_spec hi) hyl (sw_true c.kind hyl hln (by simpa using hna)) (eI G F k xr T ctg iter X W c) ok' (fun s H C clo fp => trT_snd fe (cb s H C clo fp) htg) (fun s H C clo fp => pts_all (fun e => (eE G F k xr).tt (cb s H C clo fp) false e) (Nat.le_of_ble_eq_true hll)) (fun s H C clo fp => (eE G F k xr).v (cb s H C clo fp) false elt) hno
          · exact ps_badA
        · exact ps_badA
      · exact ps_bad
    · split
      · rename_i tg' hn htg
        exact ps_asgE ((eE G F k xr).v c (T.muts.contains y) v) (trT_snd fe c htg) rfl (noComp_sws hn) (by unfold swappedStores; rfl)
      · exact ps_bad
  · rename_i ts q tp
    split
    · rename_i hn
      split
      · rename_i hsw
        split
        · rename_i tg' htg
          exact ps_asgE ((eE G F k xr).v c false v) (trT_snd fe c htg) rfl (noComp_sws hn) (swN hsw)
        · exact ps_bad
      · split
        · rename_i x px y py a b q2 p2 hh
          split
          · rename_i i j hc hi hj
            simp only [Bool.and_eq_true] at hc
            obtain ⟨⟨⟨⟨⟨⟨⟨h1, h2⟩, h3⟩, h4⟩, h5⟩, h6⟩, h7⟩, h8⟩ := hc
            split
            · rename_i hij
              have hx : X.env.scope.names.lookup x = some .local := by rw [c.sc]; exact lclB_spec h1
              have hy : X.env.scope.names.lookup y = some .local := by rw [c.sc]; exact lclB_spec h2
              refine ps_parE c.calm c.nd (by rw [c.n]; exact slot_spec hi) (by rw [c.n]; exact slot_spec hj) (of_decide_eq_true hij) hx hy h5 h6 ((eE G F k xr).v c _ a) ((eE G F k xr).v c _ b) (sw2 c.kind hx hy h3 (by simpa using h4) h5 h6 ((Bool.not_eq_true' _).mp h7) ((Bool.not_eq_true' _).mp h8))
            · exact ps_bad
          · split
            · rename_i tg' hc htg
              simp only [Bool.and_eq_true] at hc
              obtain ⟨h1, h2, h3⟩ := hc
              have hs : [a, b].all noStar = true := by simp [h2, h3]
              exact ps_asgE (pe_tupE (pa_all hs ⟨(eE G F k xr).v c _ a, (eE G F k xr).v c _ b, trivial⟩)) (trT_snd fe c htg) rfl (noComp_sws hn) (swC c.kind (by rw [c.sc]; exact h1))
            · exact ps_bad
        · exact ps_bad
    · exact ps_bad
  · rename_i o i pt
    split
    · rename_i hc
      simp only [Bool.and_eq_true] at hc
      exact ps_subE c.hu ((eE G F k xr).v c false o) ((eE G F k xr).v c false i) ((eE G F k xr).v c false v) (by simpa using hc.2) (noComp_sws hc.1)
    · exact ps_bad
  · exact ps_bad
end
end PV
set_option Elab.async false
set_option linter.all false
set_option maxRecDepth 100000
set_option maxHeartbeats 2000000
/-! PV25: blocks and defs: sound. -/
namespace PV
open PySem PySem.Spec PyProof.Rows L2
section
variable {xr : XR} {G : GT} {F : Nat → Option Fn} {k n : Nat} {T : TX} {X : Cx} {W : WX}
theorem rse_snd (c : Ctx G F k xr T X W) {e : Expr} {pos : Pos} : PS X (.Raise (some e) none pos) (TSv X xr (callF F k) W (rm3 k) (trRse G T e)) := by
  unfold trRse
  split
  · rename_i x px arg p
    split
    · rename_i q hc hq
      simp only [Bool.and_eq_true] at hc
      obtain ⟨⟨h1, h2⟩, h3⟩ := hc
      by_cases hk : 2 < k
      · refine ps_rseE (arg := arg) c.calm c.tk ?_
        exact c.g.exc x q hq X _ arg px p rfl rfl rfl rfl rfl c.calm (c.room.mono hk) (c.gl h1) (noDbg_spec h2).1 (star_one h3) ((eE G F k xr).v c false arg)
      · refine ⟨fun pins s σ H D I ⟨w, δ, eH, S, L, h⟩ => ?_⟩
        have hr : rm3 k = false := by
          unfold rm3
          cases q : Nat.blt 2 k with
          | false => rfl
          | true => exact absurd (Nat.le_of_ble_eq_true q) hk
        simp only [evS, hr] at h
        exact h.elim
    · exact ps_bad
  · exact ps_bad
theorem trHdl_spec {h : ExceptHandler} {i : Nat} (e : trHdl G T h = some i) : ∃ x px nm p1 p2 p3 p4, h = .ExceptHandler (some (.Name x px)) (some nm) [.Return (some (.Attribute (.Name nm p1) "place" p2)) p3] p4 ∧ glB T.sc x = true ∧ noDbg x = true ∧ lclB T nm = true ∧ noDbg nm = true ∧ G.cls.lookup x = some 0 ∧ slot T nm = some i := by
  unfold trHdl at e
  split at e
  · rename_i x px nm n2 p1 f p2 p3 p4
    split at e
    · rename_i hc hq
      simp only [Bool.and_eq_true, decide_eq_true_eq] at hc
      obtain ⟨⟨⟨⟨⟨h1, h2⟩, h3⟩, h4⟩, h5⟩, h6⟩ := hc
      subst h3; subst h4
      exact ⟨x, px, nm, p1, p2, p3, p4, rfl, h1, h2, h5, h6, hq, e⟩
    · cases e
  · cases e
theorem try_snd (cs : CtxS G F k xr T X W) {body : List Stmt} {b : Ss} {h : ExceptHandler} {i : Nat} {pos : Pos} (hh : trHdl G T h = some i)
    (hb : ∀ (W' : WX) (X' : Cx), CtxS G F k xr T X' W' → PSs X' body (TSsv X' xr (callF F k) W' (rm3 k) b)) : PS X (.Try body [h] [] [] pos) (TSv X xr (callF F k) W (rm3 k) (.tryPl 0 i b)) := by
  obtain ⟨x, px, nm, p1, p2, p3, p4, rfl, h1, h2, h3, h4, hq, hs⟩ := trHdl_spec hh
  have c := cs.c
  obtain ⟨C, hm, hexm, xf, hno, hcat⟩ := c.g.cat x hq
  have hN : X.N[i]? = some nm := by rw [c.n]; exact slot_spec hs
  have hl : X.env.scope.names.lookup nm = some .local := by rw [c.sc]; exact lclB_spec h3
  have base := ps_try_as (pos := pos) (np := px) (pos' := p4) (suite := []) (b₀ := .Return (some (.Attribute (.Name nm p1) "place" p2)) p3) (tb := fun W' => TSsv X xr (callF F k) W' (rm3 k) b) (ts := fun a cls d => tRet (tXf a cls d C "place" (tVar i))) cs.stk cs.frm c.nd hN hl ⟨c.gl h1, (noDbg_spec h2).1, .inl hm⟩ c.tk
    (fun W' pn xe tk' hp' => hb W' (X.tr pn xe) ⟨⟨c.n, c.nd, c.sc, c.kind, c.fnb, c.calm, c.room, tk', c.g, c.lam⟩, hp', cs.stk, cs.frm⟩)
    (fun a oe cls d pn hz hf => pss_one (ps_ret (pe_xf xf hno hz hf (pe_var (X := X.suite a ((a, oe) :: pn)) (pos := p1) hN (.inl hl) (noDbg_spec h4).1 (noDbg_spec h4).2))))
  refine PS.weak base fun D σ H ⟨w, δ, eH, S, L, h⟩ => ?_
  subst eH
  refine ⟨w, δ, rfl, S, L, ?_⟩
  simp only [evS] at h
  cases q : evSs (callF F k) (rm3 k) b δ w.st with
  | ok fl st =>
    rw [q] at h
    cases fl <;> exact h
  | exc c' p δ1 st =>
    rw [q] at h
    dsimp only at h
    split at h
    · rename_i hc
      simp only [Bool.and_eq_true] at hc
      have e0 : c' = 0 := Nat.eq_of_beq_eq_true hc.1.2
      subst e0
      intro β' H' σ' cls od x' S' L' hx
      obtain ⟨e1, dd, fs, v, e2, e3, e4, rv⟩ := hcat _ _ _ _ hx
      subst e1
      refine ⟨true, hexm, fun _ a ha => ?_, fun z => nomatch z⟩
      have hi : i < σ'.length := by
        have := Nat.le_of_ble_eq_true hc.2
        rw [← L'.1]; exact this
      exact ⟨.ref a, by rw [List.getElem?_set_self hi], rfl, rfl, dd, fs, v, e2, e3, e4, h β' H' v x' S' rv⟩
    · exact h.elim
  | bad =>
    rw [q] at h
    exact h.elim
theorem fz_snd {rmm : Bool} {cl : Nat → List PV.D → Sto → R PV.D} {sts : List Stmt} {l : Nat} {ss : Ss} (h : PSs X sts (TSsv X xr cl W rmm ss)) : ∀ fs : List (Nat × Str), PSs X sts (TSsv X xr cl W rmm (fzOf T l fs ss))
  | [] => h
  | p :: ps => by
    unfold fzOf
    split
    · exact pss_fz (fz_snd h ps)
    · exact fz_snd h ps
theorem stm_snd : ∀ n, (∀ (T : TX) (rm : Bool) (st : Stmt) (X : Cx) (W : WX), CtxS G F k xr T X W → PS X st (TSv X xr (callF F k) W (rm3 k) (trS G n T rm st))) ∧
    (∀ (T : TX) (rm : Bool) (sts : List Stmt) (X : Cx) (W : WX), CtxS G F k xr T X W → PSs X sts (TSsv X xr (callF F k) W (rm3 k) (trSs G n T rm sts)))
  | 0 => ⟨fun T rm st X W c => by unfold trS; exact ps_bad, fun T rm sts X W c => ⟨fun pins s σ H D I ⟨w, δ, _, _, _, h⟩ => by simp only [trSs, evSs, evS, RS.seq] at h; exact h.elim⟩⟩
  | n + 1 => by
    obtain ⟨h1, h2⟩ := stm_snd n
    refine ⟨fun T rm st X W cs => ?_, fun T rm sts X W cs => ?_⟩
    · have c := cs.c
      unfold trS
      cases st with
      | Assign tgs v pos =>
        dsimp only
        split
        · exact asg_snd c
        · exact ps_bad
      | Expr v pos =>
        dsimp only
        split
        · rename_i hn
          exact ps_exE ((eE G F k xr).v c false v) (noComp_sw hn)
        · exact ps_bad
      | Return o pos =>
        cases o with
        | none => exact ps_retNE
        | some e => exact ps_retE ((eE G F k xr).v c rm e)
      | If q a b pos => exact ps_iteE ((eE G F k xr).tt c false q) (h2 T rm a X W cs) (h2 T rm b X W cs)
      | For tg iter b els pos =>
        dsimp only
        split
        · split
          · rename_i tg' hc htg
            simp only [Bool.and_eq_true] at hc
            split
            · rename_i i hd
              obtain ⟨x, px, rfl, g1, g2, g3⟩ := dctVar_spec hd
              exact ps_forKE cs.hp c.calm (by rw [c.n]; exact slot_spec g3) (by rw [c.sc]; exact visB_spec g1) (noDbg_spec g2).1 (noDbg_spec g2).2 (trT_snd fe c htg) (h2 T rm b X W cs)
            · exact ps_forE cs.hp c.calm (eI G F k xr T tg iter X W c) (trT_snd fe c htg) (h2 T rm b X W cs) hc.2
          · exact ps_bad
        · exact ps_bad
      | While q b els pos =>
        dsimp only
        split
        · exact ps_whE cs.hp ((eE G F k xr).tt c false q) (h2 T rm b X W cs)
        · exact ps_bad
      | Raise o q pos =>
        dsimp only
        split
        · exact rse_snd c
        · exact ps_bad
      | Try b hs els fin pos =>
        dsimp only
        split
        · split
          · rename_i h i hh
            exact try_snd cs hh fun W' X' cs' => h2 T rm b X' W' cs'
          · exact ps_bad
        · exact ps_bad
      | Pass pos => exact ps_passE
      | Break pos => exact ps_bkE
      | Continue pos => exact ps_ctE
      | _ => exact ps_bad
    · unfold trSs
      cases sts with
      | nil => exact pss_nilE
      | cons st r => exact fz_snd (pss_consE (h1 T rm st X W cs) (h2 T rm r X W cs)) T.fzs
end
end PV
set_option Elab.async false
set_option linter.all false
set_option maxRecDepth 100000
set_option maxHeartbeats 2000000
/-! PV26: the defs keep what the evaluator tells, at every depth. -/
namespace PV
open PySem PySem.Spec PyProof.Rows L2
/-- a def of the text: where it stands, its names, what the translation is told -/
structure DI where
  name : Str
  st : Stmt
  ps : List Str
  N : List Str
  muts : List Str := []
  dcts : List Str := []
  fzs : List (Nat × Str) := []
  rm : Bool := false
  lam : Bool := false
def DI.T (d : DI) : TX := ⟨d.N, defScope d.st, fun _ => true, true, d.muts, d.dcts, d.fzs, d.lam⟩
def DI.fn (G : GT) (d : DI) : Fn := ⟨d.ps.length, d.N.length, trSs G 60 d.T d.rm (defBody d.st)⟩
/-- what the head must tell of the text -/
structure GB (G : GT) (F : Nat → Option Fn) (xr : XR) (P : Program) (w : World) (K : PySem.W.Frag) (mg : Str → Option Value) (base : Heap) : Prop where
  fns : ∀ x f, G.fns.lookup x = some f → ∃ (d : DI) (fa : Addr) (fd : FuncData), mg x = some (.ref fa) ∧ F f = some (d.fn G) ∧ FunD K d.name d.name (defArgs d.st) (defBody d.st) (defScope d.st) [] [] fa fd ∧ FnScope d.N d.ps (defScope d.st) ∧ Binds K fd d.ps [] ∧ (d.lam = true → LamOk K mg base (d.name ++ ".<locals>.") fd.code)
  cns : ∀ x d, G.cns.lookup x = some d → ∃ v u, mg x = some u ∧ RelV v u ∧ ∀ w, RD K w d v
  blt : ∀ x, G.blt.contains x = true → mg x = none
  gcd : G.gcd = true → mg "gcd" = some (.builtin "math.gcd")
  exc : ∀ x c, G.cls.lookup x = some c → ∀ (X : Cx) (ta : TE) (arg : Expr) (p pos : Pos), X.prog = P → X.w = w → X.K = K → X.mg = mg → X.base = base → X.calm = true → Room 3 X.A → Gl X x → (x == ("__debug__" : Str)) = false → starEach [arg] X.env = (false, eval arg X.env) :: starEach [] X.env → PE X arg ta →
    PMk X (.Call (.Name x p) [arg] [] pos) (tExc K xr c ta)
  cat : ∀ x, G.cls.lookup x = some 0 → ∃ C, mg x = some (.ref C) ∧ PySem.W.exmOne K (.ref C) (.ref C) = some true ∧ XfC K C ∧ PySem.W.findIn K (.ref C) "place" = some none ∧
    ∀ w p cls od, xr w 0 p cls od → cls = .ref C ∧ ∃ dd fs v, od = some dd ∧ w.H dd = some (.xd fs) ∧ List.lookup ("place" : Str) fs = some v ∧ RD K w p v
section
variable {G : GT} {F : Nat → Option Fn} {xr : XR} {P : Program} {w : World} {K : PySem.W.Frag} {mg : Str → Option Value} {base : Heap} {k f : Nat}
theorem LR.start {wd : Wd} {N : List Str} {ds : List D} {vs : List V} (h : RDs K wd ds vs) : LR K wd (PV.start N.length ds) (L2.start N vs) := by
  have hl := h.length
  refine ⟨by unfold PV.start L2.start; simp [hl], fun i d e => ?_⟩
  unfold PV.start at e
  unfold L2.start
  by_cases hi : i < ds.length
  · rw [List.getElem?_append_left (by simpa using hi), List.getElem?_map] at e
    cases q : ds[i]? with
    | none => rw [q] at e; cases e
    | some d' =>
      rw [q] at e
      injection e with e
      injection e with e
      subst e
      obtain ⟨v, h1, h2⟩ := h.get q
      exact ⟨v, by rw [List.getElem?_append_left (by simpa [hl] using hi), List.getElem?_map, h1]; rfl, h2⟩
  · rw [List.getElem?_append_right (by simpa using hi), List.getElem?_replicate] at e
    split at e <;> cases e
theorem call_len {d : DI} {ds : List D} {st : Sto} {wd : Wd} {rel : Wd → D → V → Prop} {Q : VK} {E : XK} (hF : F f = some (d.fn G)) (h : Pst K xr wd (callF F (k + 1) f ds st) rel Q E) : ds.length = d.ps.length ∧ Pst K xr wd (outR (evSs (callF F k) (rm3 k) (d.fn G).body (PV.start d.N.length ds) st)) rel Q E := by
  unfold callF at h
  rw [hF] at h
  dsimp only at h
  split at h
  · rename_i q
    exact ⟨Nat.eq_of_beq_eq_true q, h⟩
  · exact h.elim
theorem def_ok {d : DI} {fa : Addr} {fd : FuncData} (hF : F f = some (d.fn G)) (FD : FunD K d.name d.name (defArgs d.st) (defBody d.st) (defScope d.st) [] [] fa fd) (S : FnScope d.N d.ps (defScope d.st)) (hL : d.lam = true → LamOk K mg base (d.name ++ ".<locals>.") fd.code) (g : GOk G F k xr P w K mg base) :
    FnOk P w K mg base (L2.CX P w) (k + 1) fa fd d.ps (spF K xr F (k + 1) f) := by
  obtain ⟨oc, od, dV, kV, doc, pm, an, cdv, ct, osl, rfl, lk, hcd, _, _⟩ := FD.ex
  refine fn_of lk hcd S (fun vs H Q E ⟨wd, ds, _, _, r, h⟩ => ?_) fun A outer s H vs Q E hr ⟨wd, ds, eH, So, r, h⟩ => ?_
  · rw [r.length]; exact (call_len hF h).1
  · obtain ⟨hl, h⟩ := call_len hF h
    subst eH
    let X := cxOf (L2.CX P w) P w K mg base d.N d.name (defScope d.st) fa cdv A outer s wd.H E
    have cs : CtxS G F k xr d.T X (fun cls od _ H => E cls od H) := ⟨⟨rfl, S.nd, rfl, S.kind, rfl, rfl, hr, takes_of (E := E) rfl rfl rfl rfl, g, hL⟩, passes_of rfl, rfl, rfl⟩
    refine ⟨_, (stm_snd 60).2 d.T d.rm (defBody d.st) X _ cs, wd, PV.start d.N.length ds, rfl, So, LR.start r, ?_⟩
    show PstS K xr wd (evSs (callF F k) (rm3 k) (d.fn G).body (PV.start d.N.length ds) wd.st) _ _
    cases q : evSs (callF F k) (rm3 k) (d.fn G).body (PV.start d.N.length ds) wd.st with
    | ok fl st =>
      rw [q] at h
      cases fl with
      | nx δ => exact fun β' H' σ' x S' L' => h β' H' .non x S' .non
      | rt v => exact h
      | bk δ => exact h.elim
      | ct δ => exact h.elim
    | exc c p δ st =>
      rw [q] at h
      exact fun β' H' σ' cls od x S' L' hx => h β' H' cls od x S' hx
    | bad =>
      rw [q] at h
      exact h.elim
theorem gok (b : GB G F xr P w K mg base) : ∀ k, GOk G F k xr P w K mg base
  | 0 => ⟨fun x f h => by
    obtain ⟨d, fa, fd, h1, h2, h3, h4, h5, h6⟩ := b.fns x f h
    exact ⟨fa, fd, d.ps, h1, h3.kp, h5, ⟨fun vs H Q E ⟨wd, ds, _, _, _, q⟩ => q.elim, fun A outer s H args us vs Q E _ _ _ _ ⟨wd, ds, _, _, _, q⟩ => q.elim⟩⟩, b.cns, b.blt, b.gcd, b.exc, b.cat⟩
  | k + 1 => ⟨fun x f h => by
    obtain ⟨d, fa, fd, h1, h2, h3, h4, h5, h6⟩ := b.fns x f h
    exact ⟨fa, fd, d.ps, h1, h3.kp, h5, def_ok h2 h3 h4 h6 (gok b k)⟩, b.cns, b.blt, b.gcd, b.exc, b.cat⟩
end
end PV
set_option Elab.async false
set_option linter.all false
set_option maxRecDepth 100000
set_option maxHeartbeats 2000000
/-! PV27: the text's own exceptions without an __init__ of their own. -/
namespace PV
open PySem PySem.Spec PyProof.Rows L2
/-- how they lie: number 0 has a place; C tells where the classes stand -/
def XRc (K : PySem.W.Frag) (C : Nat → Addr) : XR := fun w c p cls od => match c with
  | 0 => cls = .ref (C 0) ∧ ∃ dd fs v, od = some dd ∧ w.H dd = some (.xd fs) ∧ List.lookup ("place" : Str) fs = some v ∧ RD K w p v
  | c + 1 => cls = .ref (C (c + 1))
section
variable {X : Cx} {C : Nat → Addr} {c : Nat}
theorem pmk_txt {x : Str} {ta : TE} {arg : Expr} {p pos : Pos} (q : PySem.W.excIn X.K (C (c + 1)) He.veBase "ValueError.__new__" = true) (gC : X.mg x = some (.ref (C (c + 1)))) (kC : PySem.W.keepIn X.K (.ref (C (c + 1))) = true) (r : Raises X (.ref (C (c + 1)))) (hg : Gl X x)
    (hdb : (x == ("__debug__" : Str)) = false) (hs : starEach [arg] X.env = (false, eval arg X.env) :: starEach [] X.env) (ha : PE X arg ta) : PMk X (.Call (.Name x p) [arg] [] pos) (tExc X.K (XRc X.K C) (c + 1) ta) := by
  intro pins s σ H Q I h
  refine wpAny_Call_Name_kw (ld_glob I hg gC ?_ hdb)
  have hpa : PA X [arg] (tCons ta tNil) := pa_cons ha pa_nil hs
  refine PySem.W.callWith_K (h₀ := X.base) I.ok.mod.kin kC (thn (hpa.run pos pins s σ H (fun vs H1 => match vs with
    | [v] => ∃ (w : Wd) (d : D), w.H = H1 ∧ StoOk X.K w ∧ RD X.K w d v ∧ excOk (c + 1) d = true ∧ ∀ (β' : List Addr) (H' : Hp) (cls : Value) (od : Option Addr), Ext w ⟨β', w.st, H', w.ho⟩ → StoOk X.K ⟨β', w.st, H', w.ho⟩ → XRc X.K C ⟨β', w.st, H', w.ho⟩ (c + 1) d cls od → Q cls od H'
    | _ => False) I h) fun us s1 hh => ?_) hs rfl
  obtain ⟨vs, H1, I1, r1, hq⟩ := hh
  split at hq
  · rename_i v
    obtain ⟨w, d, eH, S, rd, _, hq⟩ := hq
    subst eH
    have hq : Q (.ref (C (c + 1))) none w.H := hq w.β w.H _ none (Ext.refl w) S rfl
    refine ⟨I1.kIn, ?_⟩
    cases r1 with
    | cons ru rn =>
      rename_i u us'
      cases rn
      show wpAny _ _ (call (.ref (C (c + 1))) [u]) _ _ _
      obtain ⟨bm, N, nm, qn, bs, hdct, sn, sub, ab, col, dd, k0, k1, k2, k3, k5, mN, hC, hN, hni, T⟩ := exc_obj I1.kIn q
      refine wpAny_call_exc_subT PySem.F.excBase_ValueError T hC hN hni (fun h' e hm => ?_) (by show 1 ≤ sizeLine; rw [sizeLine_eq]; omega)
      exact mk_of I1 hm r hq (I1.hok.gone hm.new)
  · exact hq.elim
end
end PV
set_option Elab.async false
set_option linter.all false
set_option maxRecDepth 100000
set_option maxHeartbeats 2000000
/-! PV27b: the text's own exception with a place: __init__(self, place) calls super().__init__(text + str(place)), then self.place = place. -/
namespace PV
open PySem PySem.Spec PySem.W PySem.Calls PyProof.Rows PySem.HandSPX
/-- where things stand in the text of such a class -/
structure BPos where
  a1 : Pos
  a2 : Pos
  q1 : Pos
  q2 : Pos
  q3 : Pos
  q4 : Pos
  q5 : Pos
  q6 : Pos
  q7 : Pos
  q8 : Pos
  q9 : Pos
  r1 : Pos
  r2 : Pos
  r3 : Pos
  r4 : Pos
  n : Nat
  r5 : Pos
def bInitA (p : BPos) : Arguments := { posonlyargs := [], args := [{ arg := "self", annotation := none, pos := p.a1 }, { arg := "place", annotation := none, pos := p.a2 }], vararg := none, kwonlyargs := [], kw_defaults := [], kwarg := none, defaults := [] }
def bSay (t : Str) (p : BPos) : Expr := .BinOp (.Constant (.str t) p.n p.q4) .Add (.Call (.Name "str" p.q5) [.Name "place" p.q6] [] p.q7) p.q8
def bInitB (t : Str) (p : BPos) : List Stmt :=
  [.Expr (.Call (.Attribute (.Call (.Name "super" p.q1) [] [] p.q2) "__init__" p.q3) [bSay t p] [] p.q9) p.r1, .Assign [.Attribute (.Name "self" p.r2) "place" p.r3] (.Name "place" p.r4) p.r5]
def bInitS : Scope := { kind := .function, names := [("self", .local), ("place", .local), ("__class__", .free), ("super", .globalImplicit), ("str", .globalImplicit)], isGenerator := false, isCoroutine := false, more := [] }
def bInitF (nm q t : Str) (p : BPos) (kw doc pm ct : Value) (an : Option Addr) (cc cda : Addr) : FuncData :=
  { name := nm, qualname := q, params := bInitA p, body := .stmts (bInitB t p), scope := bInitS, globals := mainGlobals, closure := [(("__class__" : Str), cc)], defaults := .none, kwdefaults := kw, doc := doc, pyModule := pm, annotations := an, code := .ref cda, closureTuple := ct, builtins := builtinsNs }
/-- what the written part says of such a class, at C, and of its __init__, at fI -/
structure BadTxt (prog : Program) (K : Frag) (mg : Str → Option Value) (t : Str) (C fI : Addr) : Prop where
  cls : ∃ nm q N bs bm sn sub ab col dd k0 k1 k2 k3 k5, K.lookup C = some (excClassObj nm q C N bs bm true sn sub ab col dd k0 k1 k2 k3 k5 "ValueError.__new__") ∧ refsVE bm = true ∧ alongIn K "__init__" bm = some (some (.builtin "ValueError.__init__"))
  sa : findIn K (.ref C) "__setattr__" = some (some (.builtin "object.__setattr__"))
  noN : findIn K (.ref C) "place" = some none
  iC : findIn K (.ref C) "__init__" = some (some (.ref fI))
  tC : typeIn K (.ref fI) = some (.type "function")
  kC : keepIn K (.ref C) = true
  exC : subIn K (.ref C) (.type "BaseException") = some true
  veC : subIn K (.ref C) (.type "ValueError") = some true
  slf : mroIn K C (.ref C) = some true
  tyC : typeIn K (.ref C) = some (.type "type")
  opq : nsIn K cStatics "thirdparty.any" = some none
  sup : mg "super" = none
  st : mg "str" = none
  htop : (prog.main.scope.names.lookup ("super" : Str)).isSome = false
  tl : t.length ≤ 1000
  fn : ∃ (oc : Value) (od : Option Addr) (osl : Array (Option Value)) (nm q : Str) (kw doc pm ct : Value) (an : Option Addr) (cc cda : Addr) (p : BPos) (vs : Array Value) (ccl cl : Value) (cdd cld : Option Addr) (ccs csl : Array (Option Value)) (file : Str) (tf : Tok),
    K.lookup fI = some ⟨oc, od, .func (bInitF nm q t p kw doc pm ct an cc cda), osl⟩ ∧
    (p.q3.endLine == p.q9.line) = true ∧ K.lookup cda = some ⟨ccl, cdd, .fields vs, ccs⟩ ∧ vs[2]? = some (.str file tf) ∧ ((prog.main.file : Str) == file) = true ∧ codeIn K (.ref cda) q = true ∧
    K.lookup cc = some ⟨cl, cld, .cell (some (.ref C)), csl⟩
/-- what __init__ leaves of a fresh exception at x -/
structure BInitEnd (h h' : Heap) (x C dx t1 : Addr) (n : Int) : Prop where
  keep : ∀ b o, b ≠ x → h.get? b = some o → h'.get? b = some o
  obj : h'.get? x = some { cls := .ref C, dict := some dx, data := .fields #[.ref t1, .none, .none, .none, .bool false, .none] }
  dbig : h.objs.size ≤ dx
  dne : dx ≠ x
  ns : ∃ tk, h'.Ns1 dx (fun y => if y = "place" then some (.int n tk) else none)
theorem along_ref_ve (K : Frag) : alongIn K "__init__" HandSPX.veTail = some (some (.builtin "ValueError.__init__")) := by kernel_rfl
section
variable {prog : Program} {w : World} {A : Around} {E : Value → Shared → Prop} {R : Result → Shared → Prop} {s : Shared} {K : Frag} {mg mb : Str → Option Value} {C fI : Addr} {t : Str}
theorem kept_but {h h' : Heap} {x : Addr} (X : K.In h) (hx : K.lookup x = none) (k : ∀ b o, b ≠ x → h.get? b = some o → h'.get? b = some o) : K.In h' := fun a o e =>
  k a o (fun z => by rw [z, hx] at e; cases e) (X a o e)
theorem at_MethodCall1 {M : Model} {c : Code} {E : Value → Shared → Prop} {env : Env} {o e : Expr} {name : Str} {apos pos : Pos} {Q : Value → Shared → Prop} (hs : starEach [e] env = (false, eval e env) :: starEach [] env) (hline : (apos.endLine == pos.line) = true)
    (h : PySem.wpAt M A c (attributeBase o name env (eval o env)) (fun ov s₁ => wpAny M A (getMethod ov name (do return (← importBound o env).getD true)) (fun fx s₂ => wpAny M A (callWith pos fx.1 fx.2 (backTo pos (starEach [e] env)) []) Q E s₂) E s₁) E s) :
    PySem.wpAt M A c (eval (.Call (.Attribute o name apos) [e] [] pos) env) Q E s := by
  rw [arm_eval_Call]
  have hform : methodCallForm ([e].length + ([] : List Keyword).length) (backTo pos (starEach [e] env)) (backToKw pos (keywordEach [] env)) = true := by
    rw [hs]
    rfl
  have hpos : methodCallPos true o env apos pos = pure pos := by unfold methodCallPos; simp [hline]
  refine PySem.wpAt_bind (ks_wpAt_mono h (fun ov s₁ h₁ => PySem.wpAt_of_wpAny (wpAny_bind (wpAny_standAt ?_))) fun _ _ x => x)
  unfold methodCall
  rw [hform]
  unfold calleeOf
  rw [hpos]
  exact wpAny_bind (wpAny_holding (wpAny_mono h₁ (fun fx s₂ h₂ => wpAny_bind (wpAny_pure h₂)) fun _ _ x => x))
theorem init_hcell : ∀ x ∈ bInitS.names, x.2 ≠ .cell := by decide +kernel
theorem init_hloc {x : Addr} {n : Int} {tk0 : Tok} : ∀ y ∈ [(("self" : Str), Value.ref x), (("place" : Str), Value.int n tk0)], bInitS.names.lookup y.1 = some .local := by
  intro y hy
  simp only [List.mem_cons, List.not_mem_nil, or_false] at hy
  rcases hy with rfl | rfl
  · exact (by decide +kernel : bInitS.names.lookup (("self" : Str)) = some NameKind.local)
  · exact (by decide +kernel : bInitS.names.lookup (("place" : Str)) = some NameKind.local)
theorem call_mwVE {E : Value → Shared → Prop} {h : Heap} {g : Array GenState} {d : Drawn} {tk : Nat} {os : OsState} {nm q : Str} {N : Addr} {bs bm : List Value} {hdct : Bool} {sn : List Str} {sub : List Value} {ab : Bool} {col : Option Bool} {dd : Option Addr} {k0 k1 k2 k3 k5 : Option Value}
    {u e t0 : Addr} {rest : List Value} {Q : Value → Shared → Prop}
    (hC : h.get? C = some (excClassObj nm q C N bs bm hdct sn sub ab col dd k0 k1 k2 k3 k5 "ValueError.__new__")) (he : h.get? e = some (excO C t0)) (hu : h.get? u = some (kxs_mw "ValueError.__init__" e)) (hrest : rest.length ≤ sizeLine)
    (hq : ∀ h' t1, (∀ b o, b ≠ e → h.get? b = some o → h'.get? b = some o) → h'.get? e = some (excO C t1) → Q .none ⟨h', g, d, tk, os⟩) :
    wpAny (model prog w) A (call (.ref u) rest) Q E ⟨h, g, d, tk, os⟩ := by
  refine wpAny_call (codeAny_of_tree ?_)
  show wpAny _ A.in1 (callAny (.ref u) ⟨rest, []⟩) _ _ _
  simp only [callAny]
  refine wpAny_bind (wpAny_load hu ?_)
  simp only [kxs_mw, show (Value.type "method-wrapper" == Value.type "method" || Value.type "method-wrapper" == Value.type "builtin_function_or_method" || Value.type "method-wrapper" == Value.type "method-wrapper") = true by decide, if_true]
  refine KFB.if_so (by decide) ?_
  refine wpAny_bind (check_bound_init PySem.F.excBase_ValueError.toExcCallFacts hC he rfl ?_)
  refine wpAny_bind (wpAny_pure (wpAny_pure ?_))
  refine ⟨plainId_quiet PySem.F.excBase_ValueError.init.plain _, codeAny_builtin PySem.F.excBase_ValueError.initEntry ?_⟩
  exact exc_init_tree (cls := .ref C) (t0 := t0) (dv := none) (c2 := .none) (c3 := .none) (b4 := .bool false) he hrest fun h' k e' _ => hq h' _ k e'
theorem bad_init (T : BadTxt prog K mg t C fI) {x t0 : Addr} {n : Int} {tk0 : Tok} (X : K.In s.heap) (hlim : s.heap.NoLimit) (hg : s.heap.Ns mainGlobals mg) (hb : s.heap.Ns builtinsNs mb) (hbb : ∀ y : Str, y ≠ "__name__" → mb y = bootBuiltins y)
    (hx : s.heap.get? x = some (excO C t0)) (hnx : K.lookup x = none) (hroom : A.depth < recursionLimit) (n0 : 0 ≤ n) (n1 : n < 1000000000)
    (hq : ∀ h' tk dx t1, BInitEnd s.heap h' x C dx t1 n → R (.ok (.ret .none)) { s with heap := h', toks := tk }) :
    codeAny (model prog w) A (.call (.ref fI) ⟨[.ref x, .int n tk0], []⟩) R s := by
  obtain ⟨oc, od, osl, nm, q, kw, doc, pm, ct, an, cc, cda, p, vs, ccl, cl, cdd, cld, ccs, csl, file, tf, ho, hln, hcd, hvs, hfile, hcode, hcell⟩ := T.fn
  obtain ⟨cnm, cq, N, bs, bm, sn, sub, ab, col, dd, k0, k1, k2, k3, k5, hC, hbm, hal⟩ := T.cls
  have hcl : clsIn K C = some { name := cnm, bases := bs, mro := .ref C :: bm, ns := N, qualname := cq, hasDict := true, slotNames := sn, subclasses := sub, abstract := ab, collection := col, hasDel := false } := by unfold clsIn; rw [hC] <;> rfl
  have hCx : x ≠ C := fun z => by rw [z, hC] at hnx; cases hnx
  refine ks_codeAny_call_defAt (binds := [("self", .ref x), ("place", .int n tk0)]) hroom (X _ _ ho) rfl hlim (codeRec_of X hcode) rfl (BindsTo.of_eq (by with_unfolding_all rfl)) init_hcell init_hloc fun h₀ hns k => ?_
  obtain ⟨hp, g, d, tk, os⟩ := s
  have X₁ : K.In h₀ := X.keeps k
  have hx₁ := k _ _ hx
  refine ks_wpAt_execs_cons (ks_wpAt_Expr_any ?_)
  refine at_MethodCall1 (by rfl) hln ?_
  refine ks_wpAt_super_base (ar := { arg := "self", annotation := none, pos := p.a1 }) (by rfl) (by rfl) (by rfl) (by rfl) (X₁ _ _ ho) rfl rfl (by rfl) (X₁ _ _ hcd) rfl hvs hfile T.htop ?_
  refine ks_loadName_global (by rfl) (by rfl) (loadGlobal_builtin (hg.keeps k) T.sup (hb.keeps k) ((hbb _ (by decide)).trans (by decide +kernel)) ⟨rfl, ?_⟩)
  refine wpAny_loadName_free (by rfl) (by rfl) (by rfl) ⟨_, X₁ _ _ hcell, rfl⟩ ?_
  refine wpAny_loadName_local (by rfl) (by rfl) hns (by rfl) ?_
  refine ks_wpAny_isType_cls (X₁ _ _ hC) rfl ⟨rfl, ?_⟩
  refine ks_wpAny_call_super (X₁ _ _ hC) rfl hx₁ rfl (fun c e => by cases e) (looks_mroIn X₁ T.slf) (fun h₁ e₁ k₁ => ?_)
  have X₂ : K.In h₁ := X₁.keeps k₁
  have hx₂ := k₁ _ _ hx₁
  have hD : ((Value.ref C :: bm).dropWhile (· != .ref C)).drop 1 = bm := ESX.drop_own C bm
  have I : InstAt h₁ x (excO C t0) C none := ⟨hx₂, rfl, rfl, trivial⟩
  refine kxs_getMethod kxs_ValueError e₁ (looks_opaque X₂ T.opq) ((looks_clsIn X₂ hcl).andThen .now) hD X₂ hal (I.type.andThen (looks_subIn X₂ T.veC)) hCx (by decide) ?_
  refine kxs_callWith (i := "ValueError.__init__") (x := x) (by rfl) (evalArgs_plain (spliced_cons ?_))
  have k₂ : ∀ b o, h₁.get? b = some o → (h₁.push (kxs_mw "ValueError.__init__" x)).get? b = some o := fun b o e => Heap.get?_push_of_some _ e
  have eu : (h₁.push (kxs_mw "ValueError.__init__" x)).get? h₁.objs.size = some (kxs_mw "ValueError.__init__" x) := Heap.get?_push_at rfl rfl
  generalize h₁.push (kxs_mw "ValueError.__init__" x) = h₂ at k₂ eu ⊢
  have K₂ : ∀ b o, hp.get? b = some o → h₂.get? b = some o := fun b o e => k₂ b o (k₁ b o (k b o e))
  refine wpAny_BinOp ?_
  refine Calls.Constant_str ?_
  have hn₂ := hns.keeps fun b o e => k₂ b o (k₁ b o e)
  refine wpAny_Call_Name_kw (wpAny_Name (ks_loadName_global (by rfl) (by rfl) (loadGlobal_builtin (hg.keeps K₂) T.st (hb.keeps K₂) ((hbb _ (by decide)).trans Pv.boot_str) ?_)) (by rfl))
  refine PySem.Pv.callWith_type1 (spliced_cons (wpAny_Name (wpAny_loadName_local (by rfl) (by rfl) hn₂ (by rfl) (spliced_nil ?_)) (by rfl))) (by rfl) (by rfl)
  refine str_of_int_fit (N := 1000000000) (by split <;> omega) (by omega) fun hlen => ?_
  have hl9 := PyProof.Rows.toString_length_le (k := 9) n0 (by decide) (by omega)
  refine add_str (fun t' tk' => spliced_nil ⟨eu, ?_⟩) (by rw [sizeLine_eq]; have := T.tl; omega)
  have X₃ : K.In h₂ := X.keeps K₂
  have hx₃ : h₂.get? x = some (excO C t0) := K₂ _ _ hx
  refine call_mwVE (X₃ _ _ hC) hx₃ eu (by show 1 ≤ sizeLine; rw [sizeLine_eq]; omega) fun h₃ t1 k₃ e₃ => ?_
  have X₄ : K.In h₃ := kept_but X₃ hnx k₃
  have nL : hp.objs.size ≠ x := Nat.ne_of_gt (Heap.lt_size hx)
  have hn₃ := Heap.Ns.extBut hn₂ k₃ nL
  refine PySem.wpAt_of_wpAny (wpAny_execs_cons (plainObj_wpAny_Assign_Attribute ?_))
  refine wpAny_Name (wpAny_loadName_local (by rfl) (by rfl) hn₃ (by rfl) ?_) (by rfl)
  refine wpAny_Name (wpAny_loadName_local (by rfl) (by rfl) hn₃ (by rfl) ?_) (by rfl)
  refine set_plain X₄ (ox := excO C t1) (od := none) ⟨e₃, rfl, rfl, trivial⟩ T.sa ?_
  refine exc_osa X₄ e₃ hcl (show refsVE (.ref C :: bm) = true from hbm) rfl T.noN (fun h₄ tk₄ dx k₄ dn dne hx₄ hn₄ => ?_)
  show wpAny _ _ (execs _ _) _ _ _
  have zz : hp.objs.size < h₃.objs.size := hn₃.lt
  exact wpAny_execs_nil (hq h₄ tk₄ dx t1 ⟨fun b o hb e => k₄ b o hb (k₃ b o hb (K₂ b o e)), hx₄, Nat.le_of_lt (Nat.lt_of_lt_of_le zz dn), dne, ⟨tk0, hn₄⟩⟩)
/-- a made one -/
structure BMade (h h' : Heap) (e C d : Addr) (n : Int) : Prop where
  keep : ∀ b o, h.get? b = some o → h'.get? b = some o
  new : h.objs.size ≤ e
  obj : ∃ oe vs, h'.get? e = some oe ∧ oe.cls = .ref C ∧ oe.dict = some d ∧ oe.data = .fields vs ∧ vs[1]? = some .none
  dbig : h.objs.size ≤ d
  dne : d ≠ e
  ns : ∃ tk, h'.Ns1 d (fun y => if y = "place" then some (.int n tk) else none)
theorem bad_made (T : BadTxt prog K mg t C fI) {n : Int} {tk0 : Tok} (X : K.In s.heap) (hlim : s.heap.NoLimit) (hg : s.heap.Ns mainGlobals mg) (hb : s.heap.Ns builtinsNs mb) (hbb : ∀ y : Str, y ≠ "__name__" → mb y = bootBuiltins y) (hroom : A.depth + 1 < recursionLimit) (n0 : 0 ≤ n) (n1 : n < 1000000000)
    (hq : ∀ h' tk e d, BMade s.heap h' e C d n → R (.ok (.ret (.ref e))) { s with heap := h', toks := tk }) :
    codeAny (model prog w) A (.call (.ref C) ⟨[.int n tk0], []⟩) R s := by
  obtain ⟨nm, q, N, bs, bm, sn, sub, ab, col, dd, k0, k1, k2, k3, k5, hC, hbm, hal⟩ := T.cls
  obtain ⟨hp, g, dr, tk, os⟩ := s
  have k : ∀ b o, hp.get? b = some o → ((hp.push (kdv_tup [.int n tk0])).push (excO C hp.objs.size)).get? b = some o := fun b o e => Heap.get?_push_of_some _ (Heap.get?_push_of_some _ e)
  have hget : ((hp.push (kdv_tup [.int n tk0])).push (excO C hp.objs.size)).get? (hp.objs.size + 1) = some (excO C hp.objs.size) := by heap_get
  have hnx : K.lookup (hp.objs.size + 1) = none := by
    cases e : K.lookup (hp.objs.size + 1) with
    | none => rfl
    | some o =>
      have z : hp.get? (hp.objs.size + 1) = some o := X _ _ e
      exact absurd (Nat.lt_of_succ_lt (Heap.lt_size z)) (Nat.lt_irrefl _)
  refine call_own PySem.F.excBase_ValueError (fun X => refsVE_contains X bm hbm) (X _ _ hC) (looks_findIn X T.iC) (fun self => bind_fn X self T.tC) (by show 1 ≤ sizeLine; rw [sizeLine_eq]; omega) ?_
  refine bad_init (s := ⟨(hp.push (kdv_tup [.int n tk0])).push (excO C hp.objs.size), g, dr, tk, os⟩) T (X.keeps k) (hlim.keeps k) (hg.keeps k) (hb.keeps k) hbb hget hnx ?_ n0 n1 fun h' tk' dx t1 ⟨k', hx, dn, dne, hns⟩ => ?_
  · show A.depth + 1 < recursionLimit
    exact hroom
  · have old : ∀ b o, hp.get? b = some o → h'.get? b = some o := fun b o e => k' b o (Nat.ne_of_lt (Nat.lt_succ_of_lt (Heap.lt_size e))) (k b o e)
    have z : hp.objs.size + 1 + 1 ≤ dx := by
      first
        | (simpa only [Heap.size_push] using dn)
        | exact dn
        | (have q := dn; rw [Heap.size_push, Heap.size_push] at q; exact q)
    exact ⟨rfl, hq h' tk' (hp.objs.size + 1) dx ⟨old, Nat.le_succ _, ⟨_, _, hx, rfl, rfl, rfl, rfl⟩, Nat.le_trans (Nat.le_trans (Nat.le_succ _) (Nat.le_succ _)) z, dne, hns⟩⟩
end
end PV
namespace PV
open PySem PySem.Spec PyProof.Rows L2
section
variable {X : Cx} {C : Nat → Addr} {fI : Addr} {t : Str}
theorem relO_place {v : V} {v' : Value} (r : RelV v v') (f : Str) : RelO (List.lookup f [(("place" : Str), v)]) (if f = "place" then some v' else none) := by
  by_cases hw : f = "place"
  · subst hw
    rw [if_pos rfl]
    have q : List.lookup ("place" : Str) [(("place" : Str), v)] = some v := by simp [List.lookup]
    rw [q]
    exact r
  · rw [if_neg hw]
    have qw : (f == ("place" : Str)) = false := by simpa using hw
    have q2 : List.lookup f [(("place" : Str), v)] = none := by simp [List.lookup, qw]
    rw [q2]
    trivial
theorem pmk_bad {x : Str} {ta : TE} {arg : Expr} {p pos : Pos} {k : Nat} (T : BadTxt X.prog X.K X.mg t (C 0) fI) (gC : X.mg x = some (.ref (C 0))) (hr : Room k X.A) (hk : 3 ≤ k) (hg : Gl X x)
    (hdb : (x == ("__debug__" : Str)) = false) (hs : starEach [arg] X.env = (false, eval arg X.env) :: starEach [] X.env) (ha : PE X arg ta) : PMk X (.Call (.Name x p) [arg] [] pos) (tExc X.K (XRc X.K C) 0 ta) := by
  intro pins s σ H Q I h
  refine wpAny_Call_Name_kw (ld_glob I hg gC ?_ hdb)
  have hpa : PA X [arg] (tCons ta tNil) := pa_cons ha pa_nil hs
  refine PySem.W.callWith_K (h₀ := X.base) I.ok.mod.kin T.kC (thn (hpa.run pos pins s σ H (fun vs H1 => match vs with
    | [v] => ∃ (w : Wd) (d : D), w.H = H1 ∧ StoOk X.K w ∧ RD X.K w d v ∧ excOk 0 d = true ∧ ∀ (β' : List Addr) (H' : Hp) (cls : Value) (od : Option Addr), Ext w ⟨β', w.st, H', w.ho⟩ → StoOk X.K ⟨β', w.st, H', w.ho⟩ → XRc X.K C ⟨β', w.st, H', w.ho⟩ 0 d cls od → Q cls od H'
    | _ => False) I h) fun us s1 hh => ?_) hs rfl
  obtain ⟨vs, H1, I1, r1, hq⟩ := hh
  split at hq
  · rename_i v
    obtain ⟨w, d, eH, S, rd, hok, hq⟩ := hq
    subst eH
    obtain ⟨n, rfl⟩ : ∃ n, d = .int n := by
      cases d <;> first | exact ⟨_, rfl⟩ | (simp [excOk] at hok)
    have hb : 0 ≤ n ∧ n < 1000000000 := by
      simp only [excOk, Bool.and_eq_true, decide_eq_true_eq, Nat.blt_eq] at hok
      omega
    obtain rfl := rd.int_inv
    refine ⟨I1.kIn, ?_⟩
    cases r1 with
    | cons ru rn =>
      rename_i u us'
      cases rn
      obtain ⟨tk0, rfl⟩ : ∃ tk0, u = Value.int n tk0 := ru
      show wpAny _ _ (call (.ref (C 0)) [Value.int n tk0]) _ _ _
      have hlim := I1.nolimit
      obtain ⟨mb, hmb, hbb⟩ := I1.ok.mod.blt
      have bk := I1.bk
      obtain ⟨hp, g, dr, tk, os⟩ := s1
      refine wpAny_call (bad_made T I1.kIn hlim (I1.mod.glob.keeps bk) (hmb.keeps bk) hbb (by have := hr.dp; omega) hb.1 hb.2 fun h' tk' e d M => ?_)
      show MkP X pins σ Q (.ref e) ⟨h', g, dr, tk', os⟩
      obtain ⟨oe, fv, hoe, hc, hd, hdat, h1⟩ := M.obj
      obtain ⟨tk1, hns⟩ := M.ns
      obtain ⟨G', g1, g2⟩ := restrict h' fun b => decide (b ≠ e)
      have gk : ∀ b, b ≠ e → G'.get? b = h'.get? b := fun b hb => g1 b (decide_eq_true hb)
      have ge : G'.get? e = none := g2 e (by simp)
      have old : ∀ b o, hp.get? b = some o → G'.get? b = some o := fun b o q => (gk b (Nat.ne_of_lt (Nat.lt_of_lt_of_le (Heap.lt_size q) M.new))).trans (M.keep b o q)
      have ob : ObjOk X.prog X.w (upd w.H d (.xd [(("place" : Str), .int n)])) G' d (.xd [(("place" : Str), .int n)]) :=
        ⟨_, hns.at (fun o q => (gk d M.dne).trans q), fun f => relO_place (show RelV (.int n) (.int n tk1) from ⟨_, rfl⟩) f⟩
      have J : Inv X pins σ (upd w.H d (.xd [(("place" : Str), .int n)])) ⟨G', g, dr, tk', os⟩ := I1.laid (t' := tk') old M.dbig ob
      have hdn : w.H d = none := I1.hok.fresh M.dbig
      refine ⟨e, oe, fv, ⟨G', g, dr, tk', os⟩, _, .ref (C 0), some d, rfl, J, fun b o q => ?_, ge, hoe, ⟨hc, hd⟩, hdat, h1, ?_, rfl, I1.bare, raises_own T.exC T.tyC, ?_⟩
      · by_cases hb : b = e
        · have q' : G'.get? b = some o := q
          rw [hb, ge] at q'; cases q'
        · exact (gk b hb).symm.trans q
      · rw [upd_ne (Ne.symm M.dne)]
        exact I1.hok.fresh M.new
      · refine hq w.β _ _ _ (Ext.new hdn) (S.new hdn) ⟨rfl, d, _, .int n, rfl, upd_same, ?_, ?_⟩
        · simp [List.lookup]
        · simp [RD]
  · exact hq.elim
end
end PV
set_option Elab.async false
set_option linter.all false
set_option maxRecDepth 100000
set_option maxHeartbeats 2000000
/-! PV29: what the head reads of an exception class with a place. -/
namespace PV
open PySem PySem.Spec PySem.W PySem.Calls PyProof.Rows PySem.HandSPX
def badCls (K : Frag) (C : Addr) : Bool := match K.lookup C with
  | some ⟨.type "type", _, .cls cd, sl⟩ => (match cd.mro, sl.toList with
    | .ref C' :: bm, [_, _, _, _, some (.builtin n), _] => C' == C && (n == "ValueError.__new__" && (!cd.hasDel && (cd.hasDict && (refsVE bm && decide (alongIn K "__init__" bm = some (some (.builtin "ValueError.__init__")))))))
    | _, _ => false)
  | _ => false
theorem badCls_ok {K : Frag} {C : Addr} (q : badCls K C = true) : ∃ nm q N bs bm sn sub ab col dd k0 k1 k2 k3 k5, K.lookup C = some (excClassObj nm q C N bs bm true sn sub ab col dd k0 k1 k2 k3 k5 "ValueError.__new__") ∧ refsVE bm = true ∧ alongIn K "__init__" bm = some (some (.builtin "ValueError.__init__")) := by
  unfold badCls at q
  split at q
  · rename_i dd cd sl ho
    split at q
    · rename_i C' bm k0 k1 k2 k3 n k5 hm hs
      simp only [Bool.and_eq_true, beq_iff_eq, Bool.not_eq_true', decide_eq_true_eq] at q
      obtain ⟨rfl, rfl, hdel, hdct, hbm, hal⟩ := q
      obtain ⟨nm, bs, mro, ns, qn, hd, sn, sub, ab, col, del⟩ := cd
      dsimp only at hm hdel hdct
      subst hm hdel hdct
      have hsl : sl = #[k0, k1, k2, k3, some (.builtin "ValueError.__new__"), k5] := by
        obtain ⟨l⟩ := sl
        simp only at hs
        subst hs
        rfl
      subst hsl
      exact ⟨nm, qn, ns, bs, bm, sn, sub, ab, col, dd, k0, k1, k2, k3, k5, ho, hbm, hal⟩
    · cases q
  · cases q
abbrev BadV : Type := Option (Arguments × FuncBody × Scope × Addr × List Str × Value × Addr)
def badObs (K : Frag) (fI : Addr) : BadV := match K.lookup fI with
  | some ⟨_, _, .func fd, _⟩ => some (fd.params, fd.body, fd.scope, fd.globals, fd.closure.map (·.1), fd.defaults, fd.builtins)
  | _ => none
def badFn (K : Frag) (file : Str) (C fI : Addr) : Bool := match K.lookup fI with
  | some ⟨_, _, .func fd, _⟩ => (match fd.code, fd.closure with
    | .ref cda, [(_, cc)] => codeIn K (.ref cda) fd.qualname && ((match K.lookup cda with
        | some ⟨_, _, .fields vs, _⟩ => (match (vs[2]? : Option Value) with
          | some (.str f _) => file == f
          | _ => false)
        | _ => false) && (match K.lookup cc with
        | some ⟨_, _, .cell (some (.ref D)), _⟩ => D == C
        | _ => false))
    | _, _ => false)
  | _ => false
def badVal (t : Str) (p : BPos) : BadV := some (bInitA p, .stmts (bInitB t p), bInitS, mainGlobals, [("__class__" : Str)], .none, builtinsNs)
theorem badFn_ok {prog : Program} {K : Frag} {C fI : Addr} {t : Str} {p : BPos} (hp : (p.q3.endLine == p.q9.line) = true) (q : badFn K prog.main.file C fI = true) (e : badObs K fI = badVal t p) :
    ∃ (oc : Value) (od : Option Addr) (osl : Array (Option Value)) (nm q : Str) (kw doc pm ct : Value) (an : Option Addr) (cc cda : Addr) (p : BPos) (vs : Array Value) (ccl cl : Value) (cdd cld : Option Addr) (ccs csl : Array (Option Value)) (file : Str) (tf : Tok),
    K.lookup fI = some ⟨oc, od, .func (bInitF nm q t p kw doc pm ct an cc cda), osl⟩ ∧
    (p.q3.endLine == p.q9.line) = true ∧ K.lookup cda = some ⟨ccl, cdd, .fields vs, ccs⟩ ∧ vs[2]? = some (.str file tf) ∧ ((prog.main.file : Str) == file) = true ∧ codeIn K (.ref cda) q = true ∧
    K.lookup cc = some ⟨cl, cld, .cell (some (.ref C)), csl⟩ := by
  unfold badFn at q
  unfold badObs badVal at e
  split at q
  · rename_i oc od fd osl ho
    rw [ho] at e
    obtain ⟨n1, n2, n3, n4, n5, n6, n7, n8, n9, n10, n11, n12, n13, n14, n15⟩ := fd
    simp only [Option.some.injEq, Prod.mk.injEq] at e
    obtain ⟨h1, h2, h3, h4, h5, h6, h7⟩ := e
    subst h1 h2 h3 h4 h6 h7
    dsimp only at q h5
    split at q
    · rename_i cda x cc
      simp only [List.map_cons, List.map_nil, List.cons.injEq, and_true] at h5
      subst h5
      simp only [Bool.and_eq_true] at q
      obtain ⟨q1, q2, q3⟩ := q
      split at q2
      · rename_i ccl cdd vs ccs h8
        split at q2
        · rename_i f tf h9
          split at q3
          · rename_i cl cld D csl h10
            have hD := beq_iff_eq.mp q3
            subst hD
            exact ⟨oc, od, osl, n1, n2, n9, n10, n11, n14, n12, cc, cda, p, vs, ccl, cl, cdd, cld, ccs, csl, f, tf, ho, hp, h8, h9, q2, q1, h10⟩
          · cases q3
        · cases q2
      · cases q2
    · cases q
  · cases q
/-- the rest -/
def badRest (K : Frag) (C fI : Addr) : Bool := decide (findIn K (.ref C) "__setattr__" = some (some (.builtin "object.__setattr__"))) && (decide (findIn K (.ref C) "place" = some none) && (decide (findIn K (.ref C) "__init__" = some (some (.ref fI))) && (decide (typeIn K (.ref fI) = some (.type "function")) &&
  (keepIn K (.ref C) && (decide (subIn K (.ref C) (.type "BaseException") = some true) && (decide (subIn K (.ref C) (.type "ValueError") = some true) && (decide (mroIn K C (.ref C) = some true) && (decide (typeIn K (.ref C) = some (.type "type")) && decide (nsIn K cStatics "thirdparty.any" = some none)))))))))
theorem bad_txt {prog : Program} {K : Frag} {mg : Str → Option Value} {C fI : Addr} {t : Str} {p : BPos} (hp : (p.q3.endLine == p.q9.line) = true) (b1 : badCls K C = true) (b2 : badFn K prog.main.file C fI = true) (e : badObs K fI = badVal t p) (b3 : badRest K C fI = true)
    (m1 : mg "super" = none) (m2 : mg "str" = none) (ht : (prog.main.scope.names.lookup ("super" : Str)).isSome = false) (hl : t.length ≤ 1000) : BadTxt prog K mg t C fI := by
  simp only [badRest, Bool.and_eq_true, decide_eq_true_eq] at b3
  obtain ⟨c1, c2, c3, c4, c5, c6, c7, c8, c9, c10⟩ := b3
  exact ⟨badCls_ok b1, c1, c2, c3, c4, c5, c6, c7, c8, c9, c10, m1, m2, ht, hl, badFn_ok hp b2 e⟩
end PV
set_option Elab.async false
set_option linter.all false
set_option maxRecDepth 100000
set_option maxHeartbeats 2000000
/-! PV30: from a table of a text's defs, constants and classes to GB: what the head reads, as Bools and data of a part K of the heap. -/
namespace PV
open PySem PySem.Spec PyProof.Rows L2
/-! ### a def's scope, its parameters -/
def plainArgs (a : Arguments) : Bool := a.posonlyargs.isEmpty && (a.vararg.isNone && (a.kwonlyargs.isEmpty && (a.kw_defaults.isEmpty && (a.kwarg.isNone && a.defaults.isEmpty))))
theorem bind_of {qual x : Str} {params : Arguments} {body : List Stmt} {scope : Scope} (h : plainArgs params = true) (hn : (params.args.map (·.arg)).Nodup) (kV doc pm : Value) (an : Option Addr) (cdv ct : Value) (us : List Value) (hl : us.length = (params.args.map (·.arg)).length) :
    bindArgs (PySem.W.fnOf x qual params body scope .none kV doc pm an cdv ct) ⟨us, []⟩ = pure ((params.args.map (·.arg)).zip us) := by
  unfold plainArgs at h
  simp only [Bool.and_eq_true, List.isEmpty_iff, Option.isNone_iff_eq_none] at h
  obtain ⟨h1, h2, h3, h4, h5, h6⟩ := h
  obtain ⟨pa, as, va, ko, kd, kw, df⟩ := params
  dsimp only at h1 h2 h3 h4 h5 h6 hl hn ⊢
  subst h1 h2 h3 h4 h5 h6
  exact bind_plain hn kV doc pm an cdv ct us hl
def nodupB : List Str → Bool
  | [] => true
  | a :: l => !l.contains a && nodupB l
theorem nodupB_ok : ∀ {l : List Str}, nodupB l = true → l.Nodup
  | [], _ => List.nodup_nil
  | a :: l, h => by
    unfold nodupB at h
    simp only [Bool.and_eq_true, Bool.not_eq_true', List.contains_eq_mem, decide_eq_false_iff_not] at h
    exact List.nodup_cons.mpr ⟨h.1, nodupB_ok h.2⟩
def isFnK : ScopeKind → Bool
  | .function => true
  | _ => false
def locB : Option NameKind → Bool
  | some .local => true
  | some .cell => true
  | _ => false
def freeB : NameKind → Bool
  | .free => true
  | _ => false
def DI.scB (d : DI) : Bool := let sc := defScope d.st; isFnK sc.kind && (!sc.isCoroutine && (!sc.isGenerator && (nodupB d.N && (decide (d.N.take d.ps.length = d.ps) && (d.ps.all (fun x => locB (sc.names.lookup x)) && (sc.names.all (fun y => !freeB y.2) && (plainArgs (defArgs d.st) && decide (d.ps = (defArgs d.st).args.map (·.arg)))))))))
theorem DI.sc {d : DI} (h : d.scB = true) : FnScope d.N d.ps (defScope d.st) ∧ plainArgs (defArgs d.st) = true ∧ d.ps = (defArgs d.st).args.map (·.arg) ∧ d.ps.Nodup := by
  unfold DI.scB at h
  simp only [Bool.and_eq_true, Bool.not_eq_true', List.all_eq_true, decide_eq_true_eq] at h
  obtain ⟨h1, h2, h3, h4, h5, h6, h7, h8, h9⟩ := h
  refine ⟨⟨?_, h2, h3, nodupB_ok h4, h5, fun x hx => ?_, fun y hy e => ?_⟩, h8, h9, h5 ▸ (nodupB_ok h4).sublist (List.take_sublist _ _)⟩
  · revert h1; cases (defScope d.st).kind <;> intro h1 <;> first | rfl | cases h1
  · have z := h6 x hx
    revert z
    cases (defScope d.st).names.lookup x with
    | none => intro z; cases z
    | some k => cases k <;> intro z <;> first | exact .inl rfl | exact .inr rfl | cases z
  · have z := h7 y hy
    rw [e] at z; cases z
/-! ### constants -/
def dV : D → V
  | .non => .non
  | .bl b => .bl b
  | .int i => .int i
  | .str s => .str ⟨s.toArray⟩
  | _ => .non
theorem rd_dV {K : PySem.W.Frag} {w : Wd} : ∀ {d : D}, d.flat = true → RD K w d (dV d)
  | .non, _ => by simp [RD, dV]
  | .bl b, _ => by simp [RD, dV]
  | .int b, _ => by simp [RD, dV]
  | .str b, _ => by simp [RD, dV]
  | .tup _ _, h => by cases h
  | .lst _, h => by cases h
  | .dct _ _, h => by cases h
  | .ref _, h => by cases h
  | .fn _, h => by cases h
  | .scr _, h => by cases h
  | .exn _ _, h => by cases h
theorem rds_dV {K : PySem.W.Frag} {w : Wd} : ∀ {ds : List D}, ds.all D.flat = true → RDs K w ds (ds.map dV)
  | [], _ => RDs.nil
  | d :: ds, h => by
    simp only [List.all_cons, Bool.and_eq_true] at h
    exact .cons (rd_dV h.1) (rds_dV h.2)
def cnB (K : PySem.W.Frag) (x : Str) (d : D) : Bool := match d, PySem.W.nsIn K mainGlobals x with
  | .int i, some (some (.int j _)) => decide (i = j)
  | .str s, some (some (.str y _)) => decide (y = ⟨s.toArray⟩)
  | .tup true ds, some (some (.ref a)) => ds.all D.flat && (match K.lookup a with
    | some ⟨.type c, _, .seq its _, _⟩ => decide (c = "tuple") && (decide (its.size ≤ sizeLine) && He.relAll (ds.map dV) its.toList)
    | _ => false)
  | _, _ => false
theorem cn_ok {K : PySem.W.Frag} {h : Heap} {mg : Str → Option Value} (X : K.In h) (G : h.Ns mainGlobals mg) {x : Str} {d : D} (c : cnB K x d = true) : ∃ v u, mg x = some u ∧ RelV v u ∧ ∀ w, RD K w d v := by
  unfold cnB at c
  split at c
  · rename_i i j t e
    obtain rfl := of_decide_eq_true c
    exact ⟨.int i, _, PySem.W.mg_of X G e, ⟨t, rfl⟩, fun w => by simp [RD]⟩
  · rename_i s y t e
    have q := of_decide_eq_true c
    subst q
    exact ⟨.str ⟨s.toArray⟩, _, PySem.W.mg_of X G e, ⟨t, rfl⟩, fun w => by simp [RD]⟩
  · rename_i ds a e
    obtain ⟨c1, c2⟩ := He.ba c
    split at c2
    · rename_i tc od its n sl q
      obtain ⟨c3, c4⟩ := He.ba c2
      obtain ⟨c5, c6⟩ := He.ba c4
      refine ⟨.ref a, _, PySem.W.mg_of X G e, rfl, fun w => ?_⟩
      rw [RD]
      refine ⟨a, _, rfl, ?_, rds_dV c1⟩
      rw [if_pos rfl]
      exact ⟨_, its, n, q, congrArg Value.type (of_decide_eq_true c3), rfl, of_decide_eq_true c5, He.relAll_ok c6⟩
    · cases c2
  · cases c
/-! ### the table -/
structure Cfg where
  fns : List (Str × Nat × DI)
  cns : List (Str × D)
  blt : List Str
  gcd : Bool
  bad : Str
  txt : Str
  pos : BPos
  cls : List (Str × Nat)
/-! the tables of code objects -/
def csK (K : PySem.W.Frag) : List (Addr × Addr) := K.filterMap fun e => match e.2.data with
  | .func fd => (match fd.code with
    | .ref c => (match K.lookup c with
      | some ⟨_, _, .fields vs, _⟩ => (match (vs[11]? : Option Value) with
        | some (.ref P) => (match K.lookup P with
          | none => some (c, P)
          | some _ => none)
        | _ => none)
      | _ => none)
    | _ => none)
  | _ => none
/-- a def's own table -/
def tabOf (K : PySem.W.Frag) (f : Addr) : Option (Addr × Addr × Str) := match K.lookup f with
  | some ⟨_, _, .func fd, _⟩ => (match fd.code with
    | .ref c => (match K.lookup c with
      | some ⟨_, _, .fields vs, _⟩ => (match (vs[11]? : Option Value) with
        | some (.ref P) => some (c, P, fd.qualname)
        | _ => none)
      | _ => none)
    | _ => none)
  | _ => none
theorem lookA_mem {β : Type} : ∀ {l : List (Nat × β)} {n : Nat} {b : β}, l.lookup n = some b → (n, b) ∈ l
  | [], _, _, h => by cases h
  | (a, c) :: l, x, b, h => by
    rw [List.lookup_cons] at h
    split at h
    · rename_i e
      have := beq_iff_eq.mp e
      injection h with h
      subst this h
      exact List.mem_cons_self
    · exact List.mem_cons_of_mem _ (lookA_mem h)
theorem tabOf_spec {K : PySem.W.Frag} {f c P : Addr} {q : Str} (h : tabOf K f = some (c, P, q)) (n : K.lookup P = none) :
    (c, P) ∈ csK K ∧ (P, q ++ ".<locals>." ++ "<lambda>") ∈ tabsK K ∧ ∃ cl od fd sl, K.lookup f = some ⟨cl, od, .func fd, sl⟩ ∧ fd.code = .ref c ∧ fd.qualname = q := by
  unfold tabOf at h
  split at h
  · rename_i cl od fd sl hk
    split at h
    · rename_i c1 hc
      split at h
      · rename_i cl2 od2 vs sl2 hk2
        split at h
        · rename_i P1 hP
          injection h with h
          injection h with h1 h2
          injection h2 with h2 h3
          subst h1 h2 h3
          refine ⟨List.mem_filterMap.mpr ⟨_, lookA_mem hk, ?_⟩, List.mem_filterMap.mpr ⟨_, lookA_mem hk, ?_⟩, cl, od, fd, sl, hk, hc, rfl⟩
          · dsimp only
            rw [hc]
            dsimp only
            rw [hk2]
            dsimp only
            rw [hP]
            dsimp only
            rw [n]
          · dsimp only
            rw [hc]
            dsimp only
            rw [hk2]
            dsimp only
            rw [hP]
            dsimp only
            rw [n]
        · cases h
      · cases h
    · cases h
  · cases h
theorem tabsK_cs {K : PySem.W.Frag} {p : Addr × Str} (h : p ∈ tabsK K) : ∃ c, (c, p.1) ∈ csK K := by
  obtain ⟨e, he, h⟩ := List.mem_filterMap.mp h
  split at h
  · rename_i fd hd
    split at h
    · rename_i c hc
      split at h
      · rename_i cl od vs sl hk
        split at h
        · rename_i P hP
          split at h
          · rename_i hn
            injection h with h
            subst h
            refine ⟨c, List.mem_filterMap.mpr ⟨e, he, ?_⟩⟩
            rw [hd]
            dsimp only
            rw [hc]
            dsimp only
            rw [hk]
            dsimp only
            rw [hP]
            dsimp only
            rw [hn]
          · cases h
        · cases h
      · cases h
    · cases h
  · cases h
theorem csK_none {K : PySem.W.Frag} {p : Addr × Addr} (h : p ∈ csK K) : K.lookup p.2 = none := by
  obtain ⟨e, he, h⟩ := List.mem_filterMap.mp h
  split at h
  · split at h
    · split at h
      · split at h
        · split at h
          · rename_i hn
            injection h with h
            subst h
            exact hn
          · cases h
        · cases h
      · cases h
    · cases h
  · cases h
/-- a code object as it is asked -/
def codeHdB (K : PySem.W.Frag) (c P : Addr) : Bool := match K.lookup c with
  | some ⟨.type t, _, .fields vs, _⟩ => decide (t = "code") && ((match (vs[11]? : Option Value) with
    | some (.ref Q) => Nat.beq Q P
    | _ => false) && ((match vs.getD 11 .none with
    | .ref Q => Nat.beq Q P
    | _ => false) && ((match vs.getD 18 .none with
    | .str _ _ => true
    | _ => false) && ((match vs.getD 7 .none with
    | .int _ _ => true
    | _ => false) && ((match vs.getD 9 .none with
    | .bool _ => true
    | _ => false) && ((match vs.getD 10 .none with
    | .int _ _ => true
    | _ => false) && !Nat.beq c P))))))
  | _ => false
theorem codeHdB_ok {K : PySem.W.Frag} {h : Heap} {c P : Addr} (X : K.In h) (b : codeHdB K c P = true) : PySem.W.CodeHd h c P := by
  unfold codeHdB at b
  split at b
  · rename_i t od vs sl hk
    simp only [Bool.and_eq_true, decide_eq_true_eq, Bool.not_eq_true'] at b
    obtain ⟨b1, b2, b3, b4, b5, b6, b7, b8⟩ := b
    subst b1
    have e2 : (vs[11]? : Option Value) = some (.ref P) := by
      revert b2
      split
      · rename_i Q hq
        intro z
        rw [hq, Nat.eq_of_beq_eq_true z]
      · intro z; cases z
    have e3 : vs.getD 11 .none = .ref P := by
      revert b3
      split
      · rename_i Q hq
        intro z
        rw [hq, Nat.eq_of_beq_eq_true z]
      · intro z; cases z
    have e4 : ∃ a b, vs.getD 18 .none = .str a b := by
      revert b4
      split
      · rename_i a b hq
        exact fun _ => ⟨a, b, hq⟩
      · intro z; cases z
    have e5 : ∃ a b, vs.getD 7 .none = .int a b := by
      revert b5
      split
      · rename_i a b hq
        exact fun _ => ⟨a, b, hq⟩
      · intro z; cases z
    have e6 : ∃ a, vs.getD 9 .none = .bool a := by
      revert b6
      split
      · rename_i a hq
        exact fun _ => ⟨a, hq⟩
      · intro z; cases z
    have e7 : ∃ a b, vs.getD 10 .none = .int a b := by
      revert b7
      split
      · rename_i a b hq
        exact fun _ => ⟨a, b, hq⟩
      · intro z; cases z
    obtain ⟨f, tf, e4⟩ := e4
    obtain ⟨fl, tg, e5⟩ := e5
    obtain ⟨inF, e6⟩ := e6
    obtain ⟨tx, tt, e7⟩ := e7
    exact ⟨_, vs, f, tf, fl, tg, inF, tx, tt, X _ _ hk, rfl, rfl, e2, e3, e4, e5, e6, e7, fun z => by subst z; simp at b8⟩
  · cases b
def emptyB (K : PySem.W.Frag) (P : Addr) : Bool := match K.lookup P with
  | some ⟨.none, none, .fields vs, sl⟩ => Nat.beq vs.size 0 && Nat.beq sl.size 0
  | _ => false
theorem emptyB_ok {K : PySem.W.Frag} {h : Heap} {P : Addr} (X : K.In h) (b : emptyB K P = true) : h.get? P = some { cls := .none, data := .fields #[] } := by
  unfold emptyB at b
  split at b
  · rename_i vs sl hk
    simp only [Bool.and_eq_true] at b
    have h1 := Array.eq_empty_of_size_eq_zero (Nat.eq_of_beq_eq_true b.1)
    have h2 := Array.eq_empty_of_size_eq_zero (Nat.eq_of_beq_eq_true b.2)
    subst h1 h2
    exact X _ _ hk
  · cases b
def noneB {α : Type} : Option α → Bool
  | none => true
  | some _ => false
/-- what is asked of a def with a lambda -/
def lamB (K : PySem.W.Frag) (f : Addr) (q : Str) : Bool := match tabOf K f with
  | some (_, P, q') => decide (q' = q) && (noneB (K.lookup P) && (tabsK K).all fun p => !Nat.beq p.1 P || decide (p.2 = q ++ ".<locals>." ++ "<lambda>"))
  | none => false
theorem lamB_ok {K : PySem.W.Frag} {mg : Str → Option Value} {base : Heap} {f : Addr} {q : Str} {cl : Value} {od : Option Addr} {fd : FuncData} {sl : Array (Option Value)} (h : lamB K f q = true) (hk : K.lookup f = some ⟨cl, od, .func fd, sl⟩) (T : ∀ p ∈ csK K, LamX.TabB base mg p.1 p.2) :
    LamOk K mg base (q ++ ".<locals>.") fd.code := by
  unfold lamB at h
  split at h
  · rename_i c P q' ht
    simp only [Bool.and_eq_true, decide_eq_true_eq, List.all_eq_true, Bool.or_eq_true, Bool.not_eq_true'] at h
    obtain ⟨rfl, hn, hu⟩ := h
    have hn : K.lookup P = none := by
      revert hn
      cases K.lookup P <;> intro z <;> first | rfl | cases z
    obtain ⟨h1, h2, cl', od', fd', sl', e1, e2, e3⟩ := tabOf_spec ht hn
    rw [hk] at e1
    cases e1
    refine ⟨c, P, e2, T _ h1, h2, fun p hp e => ?_⟩
    rcases hu p hp with z | z
    · rw [e] at z; simp at z
    · exact z
  · cases h
def Cfg.G (c : Cfg) : GT := { fns := c.fns.map (fun p => (p.1, p.2.1)), cns := c.cns, blt := c.blt, gcd := c.gcd, cls := (c.bad, 0) :: c.cls.map fun p => (p.1, p.2 + 1) }
def Cfg.F (c : Cfg) : Nat → Option Fn := fun n => ((c.fns.map (·.2)).lookup n).map fun d => d.fn c.G
def Cfg.dd (p : Str × Nat × DI) : He.DefD := ⟨(p.1, none), p.2.2.name, p.2.2.name, defArgs p.2.2.st, defBody p.2.2.st, defScope p.2.2.st, [], []⟩
def clsAt (K : PySem.W.Frag) (c : Cfg) : Nat → Addr
  | 0 => He.ga K c.bad
  | n + 1 => match c.cls.find? (fun p => Nat.beq p.2 n) with
    | some p => He.ga K p.1
    | none => 0
/-- what stands in the way of nothing: numbers told once, scopes -/
def Cfg.okB (c : Cfg) : Bool := c.fns.all (fun p => p.2.2.scB) && (nodN (c.fns.map fun p => p.2.1) && (nodN (c.cls.map (·.2)) && (!(c.cls.map (·.1)).contains c.bad && Nat.ble c.txt.length 1000)))
where nodN : List Nat → Bool
  | [] => true
  | a :: l => !l.any (Nat.beq a) && nodN l
def Cfg.seeB (c : Cfg) (file : Str) (K : PySem.W.Frag) : Bool :=
  c.fns.all (fun p => (He.Fa.glo p.1).ok K && (Cfg.dd p).ok K) && (c.cns.all (fun p => cnB K p.1 p.2) && (c.blt.all (fun x => (He.Fa.free x).ok K) && ((!c.gcd || He.eqO (PySem.W.nsIn K mainGlobals "gcd") (some (some (.builtin "math.gcd")))) &&
  ((He.Fa.glo c.bad).ok K && ((He.Fa.free "super").ok K && ((He.Fa.free "str").ok K && (badCls K (He.ga K c.bad) && (badFn K file (He.ga K c.bad) (He.ma K (He.ga K c.bad) "__init__") && (badRest K (He.ga K c.bad) (He.ma K (He.ga K c.bad) "__init__") &&
  ((He.Fa.exm c.bad c.bad true).ok K && (xfB K (He.ga K c.bad) && (c.cls.all (fun p => (He.Fa.glo p.1).ok K && (He.Fa.exc p.1).ok K) && c.fns.all (fun p => !p.2.2.lam || lamB K (He.ga K p.1) p.2.2.name)))))))))))))
abbrev AlX : Type := Bool × List He.FnW × BadV
def Cfg.obs (c : Cfg) (file : Str) (K : PySem.W.Frag) : AlX := (c.seeB file K, c.fns.map (fun p => He.fnW K (p.1, none)), badObs K (He.ma K (He.ga K c.bad) "__init__"))
def Cfg.val (c : Cfg) : AlX := (true, c.fns.map (fun p => (Cfg.dd p).val), badVal c.txt c.pos)
/-- the part that is looked at -/
def asX (g : Addr → Option Obj) : Nat → List Addr
  | 0 => [mainGlobals, cStatics]
  | n + 1 => He.growD g (asX g n)
/-- the tables of the defs with lambdas; the rest of the part; what is told of both -/
def Cfg.tabL (c : Cfg) (K : PySem.W.Frag) : List Addr := c.fns.filterMap fun p => match p.2.2.lam with
  | true => (tabOf K (He.ga K p.1)).map (·.2.1)
  | false => none
def tabB (K K2 : PySem.W.Frag) : Bool := (csK K).all fun q => codeHdB K q.1 q.2 && emptyB K2 q.2
def Cfg.obs2 (c : Cfg) (file : Str) (K K2 : PySem.W.Frag) : AlX × Bool := (c.obs file K, tabB K K2)
def Cfg.partG (g : Addr → Option Obj) (as ts : List Addr) : PySem.W.Frag := He.frG g (as.filter fun a => !ts.contains a)
def Cfg.obsG (c : Cfg) (file : Str) (n : Nat) (g : Addr → Option Obj) : AlX × Bool := c.obs2 file (Cfg.partG g (asX g n) (c.tabL (He.frG g (asX g n)))) (He.frG g (c.tabL (He.frG g (asX g n))))
def Cfg.hook (c : Cfg) (file : Str) (n : Nat) : PySem.W.Hook where
  α := AlX × Bool
  obs := fun s => c.obsG file n s.heap.get?
  val := fun _ => (c.val, true)
  says := fun _ h => ∃ K K2 : PySem.W.Frag, K.In h ∧ K2.In h ∧ c.obs2 file K K2 = (c.val, true)
  of := fun _ _ e => ⟨_, _, He.frG_in, He.frG_in, e⟩
  keeps := fun _ _ _ ⟨K, K2, hK, hK2, c⟩ k => ⟨K, K2, PySem.W.Frag.In.keeps hK k, PySem.W.Frag.In.keeps hK2 k, c⟩
theorem Cfg.obsG_eq {c : Cfg} {file : Str} {n : Nat} {g : Addr → Option Obj} {s : Shared} (h : ∀ a, g a = s.heap.get? a) : c.obsG file n g = (c.hook file n).obs s := by
  have e : g = s.heap.get? := funext h
  subst e
  rfl
/-! ### GB -/
theorem lookup_mem {β : Type} : ∀ {l : List (Str × β)} {x : Str} {b : β}, l.lookup x = some b → (x, b) ∈ l
  | [], _, _, h => by cases h
  | (a, c) :: l, x, b, h => by
    rw [List.lookup_cons] at h
    split at h
    · rename_i e
      have := beq_iff_eq.mp e
      injection h with h
      subst this h
      exact List.mem_cons_self
    · exact List.mem_cons_of_mem _ (lookup_mem h)
theorem lookupN_mem {β : Type} : ∀ {l : List (Nat × β)} {n : Nat} {b : β}, Cfg.okB.nodN (l.map (·.1)) = true → (n, b) ∈ l → l.lookup n = some b
  | [], _, _, _, h => by cases h
  | (a, c) :: l, n, b, hn, h => by
    rw [List.map_cons, Cfg.okB.nodN] at hn
    simp only [Bool.and_eq_true, Bool.not_eq_true', List.any_eq_false] at hn
    rw [List.lookup_cons]
    rcases List.mem_cons.mp h with q | q
    · injection q with h1 h2
      subst h1 h2
      rw [show (n == n) = true by simp]
    · have hne : ¬ n = a := fun z => by
        subst z
        have := hn.1 n (List.mem_map.mpr ⟨(n, b), q, rfl⟩)
        simp at this
      have : (n == a) = false := by simpa using hne
      rw [this]
      exact lookupN_mem hn.2 q
section
variable {c : Cfg} {P : Program} {w : World} {K : PySem.W.Frag} {mg : Str → Option Value} {base : Heap}
theorem lookup_map2 {β : Type} {γ : Type} (f : β → γ) : ∀ {l : List (Str × β)} {x : Str} {b : γ}, (l.map fun p => (p.1, f p.2)).lookup x = some b → ∃ y, (x, y) ∈ l ∧ f y = b
  | [], _, _, h => by cases h
  | (a, c) :: l, x, b, h => by
    rw [List.map_cons, List.lookup_cons] at h
    split at h
    · rename_i e
      have := beq_iff_eq.mp e
      injection h with h
      subst this
      exact ⟨c, List.mem_cons_self, h⟩
    · obtain ⟨y, h1, h2⟩ := lookup_map2 f h
      exact ⟨y, List.mem_cons_of_mem _ h1, h2⟩
theorem gb (hc : c.okB = true) (hs : c.obs P.main.file K = c.val) (X : K.In base) (G : base.Ns mainGlobals mg) (hp : (c.pos.q3.endLine == c.pos.q9.line) = true) (ht : (P.main.scope.names.lookup ("super" : Str)).isSome = false) (TBs : ∀ p ∈ csK K, LamX.TabB base mg p.1 p.2) :
    GB c.G c.F (XRc K (clsAt K c)) P w K mg base := by
  have e1 : c.seeB P.main.file K = true := congrArg (·.1) hs
  have e2 : c.fns.map (fun p => He.fnW K (p.1, none)) = c.fns.map (fun p => (Cfg.dd p).val) := congrArg (·.2.1) hs
  have e3 : badObs K (He.ma K (He.ga K c.bad) "__init__") = badVal c.txt c.pos := congrArg (·.2.2) hs
  unfold Cfg.seeB at e1
  simp only [Bool.and_eq_true, Bool.or_eq_true, Bool.not_eq_true', List.all_eq_true] at e1
  obtain ⟨s1, s2, s3, s4, s5, s6, s7, s8, s9, s10, s11, s12, s13, s14⟩ := e1
  unfold Cfg.okB at hc
  simp only [Bool.and_eq_true, Bool.not_eq_true', List.all_eq_true] at hc
  obtain ⟨o1, o2, o3, o4, o5⟩ := hc
  have gC : mg c.bad = some (.ref (clsAt K c 0)) := He.glo_ok X G s5
  have BT : BadTxt P K mg c.txt (clsAt K c 0) (He.ma K (He.ga K c.bad) "__init__") := bad_txt hp s8 s9 e3 s10 (He.free_ok X G s6) (He.free_ok X G s7) ht (by simpa using o5)
  refine ⟨fun x f h => ?_, fun x d h => cn_ok X G (s2 _ (lookup_mem h)), fun x h => He.free_ok X G (s3 x (by have h : c.blt.contains x = true := h; simpa using h)), fun h => ?_, fun x n h => ?_, fun x h => ?_⟩
  · obtain ⟨⟨n, d⟩, m, rfl⟩ := lookup_map2 (fun p : Nat × DI => p.1) (l := c.fns) h
    obtain ⟨a1, a2⟩ := s1 _ m
    have ee : He.fnW K (x, none) = (Cfg.dd (x, n, d)).val := List.map_inj_left.mp e2 _ m
    obtain ⟨fd, FD⟩ := He.DefD.funD (d := Cfg.dd (x, n, d)) ee a2
    obtain ⟨sc1, sc2, sc3, sc4⟩ := DI.sc (o1 _ m)
    refine ⟨d, _, fd, He.glo_ok X G a1, ?_, FD, sc1, ?_, fun hl => ?_⟩
    · unfold Cfg.F
      rw [lookupN_mem (b := d) (by rw [List.map_map]; exact o2) (List.mem_map.mpr ⟨_, m, rfl⟩)]
      rfl
    · rw [sc3]
      exact FunD.bindsN FD fun kV doc pm an cdv ct us hl => bind_of sc2 (sc3 ▸ sc4) kV doc pm an cdv ct us hl
    · obtain ⟨oc, od, dV, kV, doc, pm, an, cdv, ct, osl, rfl, lk, hcd, _, _⟩ := FD.ex
      rcases s14 _ m with z | z
      · have hl : d.lam = true := hl
        have z : d.lam = false := z
        rw [hl] at z; cases z
      · exact lamB_ok z lk TBs
  · rcases s4 with q | q
    · have h : c.gcd = true := h
      rw [q] at h; cases h
    · exact PySem.W.mg_of X G (He.eqO_ok q)
  · have h2 : ((c.bad, 0) :: c.cls.map fun p => (p.1, p.2 + 1)).lookup x = some n := h
    rw [List.lookup_cons] at h2
    intro Y ta arg p pos hP hw hK hmg hb hcalm hr hg hdb hst ha
    subst hP hw hK hmg hb
    split at h2
    · rename_i e
      have e2 := beq_iff_eq.mp e
      injection h2 with h3
      subst e2 h3
      exact pmk_bad BT gC hr (Nat.le_refl _) hg hdb hst ha
    · obtain ⟨m, hm, rfl⟩ := lookup_map2 (fun n => n + 1) (l := c.cls) h2
      obtain ⟨a1, a2⟩ := s13 _ hm
      have ec : clsAt Y.K c (m + 1) = He.ga Y.K x := by
        have hf : c.cls.find? (fun p => Nat.beq p.2 m) = some (x, m) := by
          cases q : c.cls.find? (fun p => Nat.beq p.2 m) with
          | none =>
            have := List.find?_eq_none.mp q _ hm
            simp at this
          | some r =>
            have r1 := List.find?_some q
            have r2 := List.mem_of_find?_eq_some q
            have r3 : r.2 = m := Nat.eq_of_beq_eq_true r1
            obtain ⟨r1', r2'⟩ := r
            dsimp only at r3
            subst r3
            have l1 := lookupN_mem (l := c.cls.map fun p => (p.2, p.1)) (n := r2') (b := r1') (by rw [List.map_map]; exact o3) (List.mem_map.mpr ⟨_, r2, rfl⟩)
            have l2 := lookupN_mem (l := c.cls.map fun p => (p.2, p.1)) (n := r2') (b := x) (by rw [List.map_map]; exact o3) (List.mem_map.mpr ⟨_, hm, rfl⟩)
            rw [l1] at l2
            injection l2 with l2
            rw [l2]
        show (match c.cls.find? (fun p => Nat.beq p.2 m) with | some p => He.ga Y.K p.1 | none => 0) = _
        rw [hf]
      obtain ⟨x1, x2, x3, x4⟩ := He.exc_ok a2
      refine pmk_txt (C := clsAt Y.K c) (c := m) ?_ ?_ ?_ ?_ hg hdb hst ha
      · rw [ec]; exact x1
      · rw [ec]; exact He.glo_ok X G a1
      · rw [ec]; exact x2
      · rw [ec]; exact raises_own x3 x4
  · have h : ((c.bad, 0) :: c.cls.map fun p => (p.1, p.2 + 1)).lookup x = some 0 := h
    rw [List.lookup_cons] at h
    split at h
    · rename_i e
      have := beq_iff_eq.mp e
      subst this
      refine ⟨_, gC, He.exm_ok s11, xfB_ok s12, BT.noN, fun w p cls od hx => hx⟩
    · obtain ⟨m, hm, q⟩ := lookup_map2 (fun n => n + 1) (l := c.cls) h
      omega
end
end PV
set_option Elab.async false
set_option linter.all false
set_option maxRecDepth 100000
set_option maxHeartbeats 2000000
/-! PV31: the end: from the evaluator's answer at every script to the law's walk. -/
namespace PV
open PySem PySem.Spec PyProof.Rows L2
theorem rds_scr {K : PySem.W.Frag} {H : Hp} {a : Addr} {ns : List Int} (hS : SqL K H a (ns.map V.int)) : RDs K ⟨[], [], H, []⟩ [.scr ns] [.ref a] := by
  refine .cons ?_ .nil
  rw [RD]
  refine ⟨a, rfl, ?_⟩
  have nl : ¬ live ⟨[], [], H, []⟩ a := fun z => by
    rcases z with z | ⟨j, m, z, _⟩
    · cases z
    · simp at z
  rcases hS with z | z
  · exact .inl ⟨z, nl⟩
  · exact .inr z
theorem sto0 {K : PySem.W.Frag} {H : Hp} (t : LamX.Tabs (tabsK K) H) : StoOk K ⟨[], [], H, []⟩ := by
  refine ⟨rfl, List.nodup_nil, fun j m e => ?_, fun a h => (nomatch h), fun a h => (nomatch h), fun a h => (nomatch h), t⟩
  rw [getMO_some] at e
  simp at e
theorem tabs0 {K : PySem.W.Frag} {H : Hp} (h : ∀ p ∈ csK K, H p.2 = some (.tbl #[])) : LamX.Tabs (tabsK K) H := fun p hp => by
  obtain ⟨c, hc⟩ := tabsK_cs hp
  exact ⟨#[], h _ hc, by simp [TriplesOk], fun pos cv z => by simp [codeAmong] at z⟩
theorem law_walk {l : PySem.W.OpenLaw} {q : Program} {loose : List Str} {XP : (Str → Option Value) → Heap → Prop} {d : DefRec} {x : Str} (c : Cfg) (n f k m : Nat) (di : DI)
    (hn : l.most = some m) (hm : m ≤ sizeLine) (hdf : d.params.defaults = []) (hr : Room (k + 1) callerA) (hc : c.okB = true) (hp : (c.pos.q3.endLine == c.pos.q9.line) = true) (ht : (l.prog.main.scope.names.lookup ("super" : Str)).isSome = false)
    (hd : (d.name, f, di) ∈ c.fns) (hps : di.ps = [x])
    (plain : ∀ ns : List Int, ns.length ≤ m → ∃ st, callF c.F (k + 1) f [.scr ns] [] = .ok (.bl true) st) :
    PySem.W.WalkO q loose XP (c.hook l.prog.main.file n).says l.row.toRowW d [] (fun f vs => PySem.call f vs) := by
  refine Att.attach_callB hn hdf fun w s₀ s₁ mg mb fa o pm cd doc a vs ns G Y ho hfd hcd hmg hobj hints hlen hbits hg => ?_
  obtain ⟨K, K2, KX, K2X, hs2⟩ := Y
  have hs : c.obs l.prog.main.file K = c.val := congrArg (·.1) hs2
  have ht2 : tabB K K2 = true := congrArg (·.2) hs2
  unfold tabB at ht2
  simp only [List.all_eq_true, Bool.and_eq_true] at ht2
  have e1 : c.seeB l.prog.main.file K = true := congrArg (·.1) hs
  have e2 : c.fns.map (fun p => He.fnW K (p.1, none)) = c.fns.map (fun p => (Cfg.dd p).val) := congrArg (·.2.1) hs
  unfold Cfg.seeB at e1
  simp only [Bool.and_eq_true, List.all_eq_true] at e1
  obtain ⟨a1, a2⟩ := e1.1 _ hd
  have ee : He.fnW K (d.name, none) = (Cfg.dd (d.name, f, di)).val := List.map_inj_left.mp e2 _ hd
  obtain ⟨fd, FD⟩ := He.DefD.funD (d := Cfg.dd (d.name, f, di)) ee a2
  have hc2 := hc
  unfold Cfg.okB at hc2
  simp only [Bool.and_eq_true, List.all_eq_true] at hc2
  obtain ⟨sc1, sc2, sc3, sc4⟩ := DI.sc (hc2.1 _ hd)
  have efa := hmg.symm.trans (He.glo_ok KX G.T.g a1)
  injection efa with efa
  injection efa with efa
  subst efa
  have hF : c.F f = some (di.fn c.G) := by
    unfold Cfg.F
    rw [lookupN_mem (b := di) (by rw [List.map_map]; exact hc2.2.1) (List.mem_map.mpr ⟨_, hd, rfl⟩)]
    rfl
  have hbind : ∀ (s : Shared) (u : Value), BindsTo s fd ⟨[u], []⟩ [(x, u)] := fun s u => by
    have z := FunD.bindsA (ps := di.ps) FD (fun kV doc pm an cdv ct us hl => by rw [sc3] at hl ⊢; exact bind_of sc2 (sc3 ▸ sc4) kV doc pm an cdv ct us hl) s [u] (by rw [hps]; rfl)
    rw [hps] at z
    exact z
  obtain ⟨st, hst⟩ := plain ns hlen
  refine LamX.law_callTs (cs := csK K) (CX := L2.CX l.prog w) (sp := spF K (XRc K (clsAt K c)) c.F (k + 1) f) KX G.T.g G.T.b G.T.builtins G.T.nolimit hg (fun p hp => emptyB_ok K2X (ht2 p hp).2) (fun p hp => csK_none hp) (fun p hp => codeHdB_ok KX (ht2 p hp).1) G.T.bmain hobj hints (Nat.le_trans hlen hm) hr (fun base hK hG TBs => ?_) hbind (fun H hH hS => ?_) (fun H e s' z => ?_)
  · have b := gb (c := c) (P := l.prog) (w := w) hc hs hK hG hp ht TBs
    have hL : di.lam = true → LamOk K mg base (di.name ++ ".<locals>.") fd.code := fun hl => by
      have e14 := e1.2.2.2.2.2.2.2.2.2.2.2.2.2 _ hd
      simp only [Bool.or_eq_true, Bool.not_eq_true'] at e14
      obtain ⟨oc, od, dV, kV, doc, pm, an, cdv, ct, osl, rfl, lk, hcd, _, _⟩ := FD.ex
      rcases e14 with z | z
      · have z : di.lam = false := z
        rw [hl] at z; cases z
      · exact lamB_ok z lk TBs
    have z := def_ok (k := k) hF FD sc1 hL (gok b k)
    rw [hps] at z
    exact z
  · refine ⟨⟨[], [], H, []⟩, [.scr ns], rfl, sto0 (tabs0 hH), rds_scr hS, ?_⟩
    show Pst K _ _ (callF c.F (k + 1) f [.scr ns] []) _ _ _
    rw [hst]
    intro β' H' v _ _ r
    simpa [RD] using r
  · obtain ⟨_, _, _, _, _, _, _, _, _, _, _, _, q⟩ := z
    exact q
end PV
set_option Elab.async false
set_option linter.all false
set_option maxRecDepth 100000
set_option maxHeartbeats 4000000
/-! PV32: the hook over addresses that are told; a run's equation in parts. -/
namespace PV
open PySem PySem.W PySem.Calls PyProof.Rows
def Cfg.obsL (c : Cfg) (file : PySem.Str) (as ts : List Addr) (g : Addr → Option Obj) : AlX × Bool := c.obs2 file (He.frG g as) (He.frG g ts)
def Cfg.hookL (c : Cfg) (file : PySem.Str) (as ts : List Addr) : PySem.W.Hook where
  α := AlX × Bool
  obs := fun s => c.obsL file as ts s.heap.get?
  val := fun _ => (c.val, true)
  says := (c.hook file 0).says
  of := fun _ _ e => ⟨_, _, He.frG_in, He.frG_in, e⟩
  keeps := (c.hook file 0).keeps
theorem Cfg.obsL_eq {c : Cfg} {file : PySem.Str} {as ts : List Addr} {g : Addr → Option Obj} {s : Shared} (h : ∀ a, g a = s.heap.get? a) : c.obsL file as ts g = (c.hookL file as ts).obs s := by
  have e : g = s.heap.get? := funext h
  subst e
  rfl
theorem map3 {A B C E : Type} {o : Option A} {f : A → B} {g : A → C} {h : A → E} {u : B} {v : C} {t : E} (h1 : o.map f = some u) (h2 : o.map g = some v) (h3 : o.map h = some t) : o.map (fun x => (f x, g x, h x)) = some (u, v, t) := by
  cases o with
  | none => cases h1
  | some x =>
    injection h1 with h1
    injection h2 with h2
    injection h3 with h3
    rw [Option.map_some, h1, h2, h3]
end PV
set_option linter.all false
/-! The defs, as the evaluator has them. Printed by P77.lean. -/
namespace PVL
open PV
/-- power_at_linetexts -/
def f40 : Fn := ⟨3, 3,
  Ss.cons
  (S.ite
    (E.cmp (CO.ne) (E.call 31 (Es.cons (E.v 0) (Es.cons (E.v 1) (Es.nil)))) (E.c (D.str [94])))
    (Ss.cons (S.ret (E.tup (Es.cons (E.c (D.int 1)) (Es.cons (E.v 1) (Es.nil))))) (Ss.nil))
    (Ss.nil))
  (Ss.cons
    (S.asg
      (T.n 1)
      (E.call
        30
        (Es.cons
          (E.v 0)
          (Es.cons (E.call 32 (Es.cons (E.v 0) (Es.cons (E.v 1) (Es.cons (E.c (D.str [94])) (Es.nil))))) (Es.nil)))))
    (Ss.cons
      (S.ret (E.call 34 (Es.cons (E.v 0) (Es.cons (E.v 1) (Es.cons (E.c (D.int 0)) (Es.cons (E.v 2) (Es.nil)))))))
      (Ss.nil)))⟩
/-- power_at_treetexts -/
def f68 : Fn := ⟨4, 6,
  Ss.cons
  (S.asg
    (T.t2 (T.n 4) (T.n 1))
    (E.call 67 (Es.cons (E.v 0) (Es.cons (E.v 1) (Es.cons (E.v 2) (Es.cons (E.v 3) (Es.nil)))))))
  (Ss.cons
    (S.ite
      (E.cmp (CO.ne) (E.call 31 (Es.cons (E.v 0) (Es.cons (E.v 1) (Es.nil)))) (E.c (D.str [94])))
      (Ss.cons (S.ret (E.tup (Es.cons (E.v 4) (Es.cons (E.v 1) (Es.nil))))) (Ss.nil))
      (Ss.nil))
    (Ss.cons
      (S.asg
        (T.t2 (T.n 5) (T.n 1))
        (E.call
          34
          (Es.cons
            (E.v 0)
            (Es.cons
              (E.call
                30
                (Es.cons
                  (E.v 0)
                  (Es.cons (E.call 32 (Es.cons (E.v 0) (Es.cons (E.v 1) (Es.cons (E.c (D.str [94])) (Es.nil))))) (Es.nil))))
              (Es.cons (E.c (D.int 0)) (Es.cons (E.bad) (Es.nil)))))))
      (Ss.cons
        (S.ret
          (E.tup
            (Es.cons
              (E.tup (Es.cons (E.c (D.str [112, 111, 119, 101, 114])) (Es.cons (E.v 4) (Es.cons (E.v 5) (Es.nil)))))
              (Es.cons (E.v 1) (Es.nil)))))
        (Ss.nil))))⟩
/-- made -/
def f10 : Fn := ⟨2, 3,
  Ss.cons
  (S.asg (T.n 2) (E.bf (BF.gcd) (Es.cons (E.v 0) (Es.cons (E.v 1) (Es.nil)))))
  (Ss.cons
    (S.asg (T.n 2) (E.ite (E.cmp (CO.gt) (E.v 1) (E.c (D.int 0))) (E.v 2) (E.neg (E.v 2))))
    (Ss.cons
      (S.ret (E.tup (Es.cons (E.bin (BO.fdiv) (E.v 0) (E.v 2)) (Es.cons (E.bin (BO.fdiv) (E.v 1) (E.v 2)) (Es.nil)))))
      (Ss.nil)))⟩
/-- plus -/
def f11 : Fn := ⟨2, 2,
  Ss.cons
  (S.ret
    (E.call
      10
      (Es.cons
        (E.bin
          (BO.add)
          (E.bin (BO.mul) (E.idx (E.v 0) (E.c (D.int 0))) (E.idx (E.v 1) (E.c (D.int 1))))
          (E.bin (BO.mul) (E.idx (E.v 1) (E.c (D.int 0))) (E.idx (E.v 0) (E.c (D.int 1)))))
        (Es.cons (E.bin (BO.mul) (E.idx (E.v 0) (E.c (D.int 1))) (E.idx (E.v 1) (E.c (D.int 1)))) (Es.nil)))))
  (Ss.nil)⟩
/-- times -/
def f12 : Fn := ⟨2, 2,
  Ss.cons
  (S.ret
    (E.call
      10
      (Es.cons
        (E.bin (BO.mul) (E.idx (E.v 0) (E.c (D.int 0))) (E.idx (E.v 1) (E.c (D.int 0))))
        (Es.cons (E.bin (BO.mul) (E.idx (E.v 0) (E.c (D.int 1))) (E.idx (E.v 1) (E.c (D.int 1)))) (Es.nil)))))
  (Ss.nil)⟩
/-- skipped -/
def f30 : Fn := ⟨2, 2,
  Ss.cons
  (S.wh
    (E.and
      (E.cmp (CO.lt) (E.v 1) (E.bf (BF.len) (Es.cons (E.v 0) (Es.nil))))
      (E.cmp (CO.eq) (E.idx (E.v 0) (E.v 1)) (E.c (D.str [32]))))
    (Ss.cons (S.asg (T.n 1) (E.bin (BO.add) (E.v 1) (E.c (D.int 1)))) (Ss.nil)))
  (Ss.cons (S.ret (E.v 1)) (Ss.nil))⟩
/-- sign_at -/
def f31 : Fn := ⟨2, 2,
  Ss.cons
  (S.asg (T.n 1) (E.call 30 (Es.cons (E.v 0) (Es.cons (E.v 1) (Es.nil)))))
  (Ss.cons
    (S.ret
      (E.ite
        (E.cmp (CO.lt) (E.v 1) (E.bf (BF.len) (Es.cons (E.v 0) (Es.nil))))
        (E.idx (E.v 0) (E.v 1))
        (E.c (D.str []))))
    (Ss.nil))⟩
/-- passed -/
def f32 : Fn := ⟨3, 3,
  Ss.cons
  (S.asg (T.n 1) (E.call 30 (Es.cons (E.v 0) (Es.cons (E.v 1) (Es.nil)))))
  (Ss.cons
    (S.ite
      (E.or
        (E.cmp (CO.ge) (E.v 1) (E.bf (BF.len) (Es.cons (E.v 0) (Es.nil))))
        (E.cmp (CO.ne) (E.idx (E.v 0) (E.v 1)) (E.v 2)))
      (Ss.cons (S.rse 0 (E.v 1)) (Ss.nil))
      (Ss.nil))
    (Ss.cons (S.ret (E.bin (BO.add) (E.v 1) (E.c (D.int 1)))) (Ss.nil)))⟩
/-- word_at -/
def f33 : Fn := ⟨3, 6,
  Ss.cons
  (S.par 1 3 (E.call 30 (Es.cons (E.v 0) (Es.cons (E.v 1) (Es.nil)))) (E.c (D.str [])))
  (Ss.cons
    (S.wh
      (E.cmp (CO.notin) (E.v 3) (E.v 2))
      (Ss.cons
        (S.asg
          (T.n 4)
          (E.bin
            (BO.add)
            (E.v 3)
            (E.ite
              (E.cmp (CO.lt) (E.v 1) (E.bf (BF.len) (Es.cons (E.v 0) (Es.nil))))
              (E.idx (E.v 0) (E.v 1))
              (E.c (D.str [32])))))
        (Ss.cons
          (S.ite
            (E.not
              (E.bf
                (BF.any)
                (Es.cons
                  (E.lc
                    [5]
                    (T.n 5)
                    (I.of (E.v 2))
                    (Eo.none)
                    (E.cmp (CO.eq) (E.slc (E.v 5) (Eo.none) (Eo.some (E.bf (BF.len) (Es.cons (E.v 4) (Es.nil))))) (E.v 4)))
                  (Es.nil))))
            (Ss.cons (S.rse 0 (E.v 1)) (Ss.nil))
            (Ss.nil))
          (Ss.cons (S.par 3 1 (E.v 4) (E.bin (BO.add) (E.v 1) (E.c (D.int 1)))) (Ss.nil)))))
    (Ss.cons (S.ret (E.tup (Es.cons (E.v 3) (Es.cons (E.v 1) (Es.nil))))) (Ss.nil)))⟩
/-- whole_at -/
def f34 : Fn := ⟨4, 6,
  Ss.cons
  (S.ite
    (E.or
      (E.cmp (CO.ge) (E.v 1) (E.bf (BF.len) (Es.cons (E.v 0) (Es.nil))))
      (E.or
        (E.cmp (CO.notin) (E.idx (E.v 0) (E.v 1)) (E.c (D.str [48, 49, 50, 51, 52, 53, 54, 55, 56, 57])))
        (E.and (E.cmp (CO.gt) (E.v 2) (E.c (D.int 0))) (E.cmp (CO.eq) (E.idx (E.v 0) (E.v 1)) (E.c (D.str [48]))))))
    (Ss.cons (S.rse 0 (E.v 1)) (Ss.nil))
    (Ss.nil))
  (Ss.cons
    (S.par
      4
      1
      (E.mt (MF.index) (E.c (D.str [48, 49, 50, 51, 52, 53, 54, 55, 56, 57])) (Es.cons (E.idx (E.v 0) (E.v 1)) (Es.nil)))
      (E.bin (BO.add) (E.v 1) (E.c (D.int 1))))
    (Ss.cons
      (S.ite
        (E.cmp (CO.gt) (E.v 4) (E.v 3))
        (Ss.cons (S.rse 0 (E.bin (BO.sub) (E.v 1) (E.c (D.int 1)))) (Ss.nil))
        (Ss.nil))
      (Ss.cons
        (S.wh
          (E.and
            (E.cmp (CO.lt) (E.v 1) (E.bf (BF.len) (Es.cons (E.v 0) (Es.nil))))
            (E.cmp (CO.isin) (E.idx (E.v 0) (E.v 1)) (E.c (D.str [48, 49, 50, 51, 52, 53, 54, 55, 56, 57]))))
          (Ss.cons
            (S.asg
              (T.n 5)
              (E.bin
                (BO.add)
                (E.bin (BO.mul) (E.c (D.int 10)) (E.v 4))
                (E.mt (MF.index) (E.c (D.str [48, 49, 50, 51, 52, 53, 54, 55, 56, 57])) (Es.cons (E.idx (E.v 0) (E.v 1)) (Es.nil)))))
            (Ss.cons
              (S.ite
                (E.or (E.cmp (CO.eq) (E.v 4) (E.c (D.int 0))) (E.cmp (CO.gt) (E.v 5) (E.v 3)))
                (Ss.cons (S.rse 0 (E.v 1)) (Ss.nil))
                (Ss.nil))
              (Ss.cons (S.par 4 1 (E.v 5) (E.bin (BO.add) (E.v 1) (E.c (D.int 1)))) (Ss.nil)))))
        (Ss.cons (S.ret (E.tup (Es.cons (E.v 4) (Es.cons (E.v 1) (Es.nil))))) (Ss.nil)))))⟩
/-- fraction_at -/
def f35 : Fn := ⟨3, 5,
  Ss.cons
  (S.asg
    (T.t2 (T.n 3) (T.n 1))
    (E.call 34 (Es.cons (E.v 0) (Es.cons (E.v 1) (Es.cons (E.c (D.int 0)) (Es.cons (E.v 2) (Es.nil)))))))
  (Ss.cons
    (S.ite
      (E.and
        (E.cmp (CO.lt) (E.v 1) (E.bf (BF.len) (Es.cons (E.v 0) (Es.nil))))
        (E.cmp (CO.eq) (E.idx (E.v 0) (E.v 1)) (E.c (D.str [58]))))
      (Ss.cons
        (S.asg
          (T.t2 (T.n 4) (T.n 1))
          (E.call
            34
            (Es.cons
              (E.v 0)
              (Es.cons (E.bin (BO.add) (E.v 1) (E.c (D.int 1))) (Es.cons (E.c (D.int 1)) (Es.cons (E.v 2) (Es.nil)))))))
        (Ss.cons (S.ret (E.tup (Es.cons (E.v 3) (Es.cons (E.v 4) (Es.cons (E.v 1) (Es.nil)))))) (Ss.nil)))
      (Ss.nil))
    (Ss.cons (S.ret (E.tup (Es.cons (E.v 3) (Es.cons (E.c (D.int 1)) (Es.cons (E.v 1) (Es.nil)))))) (Ss.nil)))⟩
/-- ended -/
def f36 : Fn := ⟨2, 2,
  Ss.cons
  (S.asg (T.n 1) (E.call 30 (Es.cons (E.v 0) (Es.cons (E.v 1) (Es.nil)))))
  (Ss.cons
    (S.ite
      (E.cmp (CO.lt) (E.v 1) (E.bf (BF.len) (Es.cons (E.v 0) (Es.nil))))
      (Ss.cons (S.rse 0 (E.v 1)) (Ss.nil))
      (Ss.nil))
    (Ss.nil))⟩
/-- need_text -/
def f37 : Fn := ⟨1, 1,
  Ss.cons
  (S.ite
    (E.or
      (E.not (E.bf (BF.isinst (Ty.str)) (Es.cons (E.v 0) (Es.nil))))
      (E.cmp (CO.gt) (E.bf (BF.len) (Es.cons (E.v 0) (Es.nil))) (E.c (D.int 4000))))
    (Ss.cons (S.rse 1 (E.c (D.str [110, 111, 116, 32, 97, 32, 116, 101, 120, 116]))) (Ss.nil))
    (Ss.nil))
  (Ss.nil)⟩
/-- factor_at -/
def f41 : Fn := ⟨3, 10,
  Ss.cons
  (S.asg (T.t3 (T.n 3) (T.n 4) (T.n 5)) (E.v 2))
  (Ss.cons
    (S.asg (T.n 1) (E.call 30 (Es.cons (E.v 0) (Es.cons (E.v 1) (Es.nil)))))
    (Ss.cons
      (S.ite
        (E.and
          (E.cmp (CO.lt) (E.v 1) (E.bf (BF.len) (Es.cons (E.v 0) (Es.nil))))
          (E.cmp (CO.isin) (E.idx (E.v 0) (E.v 1)) (E.c (D.str [48, 49, 50, 51, 52, 53, 54, 55, 56, 57]))))
        (Ss.cons
          (S.ite
            (E.v 5)
            (Ss.cons
              (S.asg
                (T.t3 (T.n 6) (T.n 7) (T.n 1))
                (E.call
                  35
                  (Es.cons
                    (E.v 0)
                    (Es.cons (E.v 1) (Es.cons (E.c (D.int 1000000000000000000000000000000000000000000000000000000000000)) (Es.nil))))))
              (Ss.cons
                (S.ret
                  (E.tup
                    (Es.cons
                      (E.tup
                        (Es.cons
                          (E.tup (Es.cons (E.c (D.int 0)) (Es.cons (E.c (D.int 0)) (Es.nil))))
                          (Es.cons (E.call 10 (Es.cons (E.v 6) (Es.cons (E.v 7) (Es.nil)))) (Es.nil))))
                      (Es.cons (E.v 1) (Es.nil)))))
                (Ss.nil)))
            (Ss.nil))
          (Ss.cons
            (S.asg
              (T.t2 (T.n 6) (T.n 1))
              (E.call
                34
                (Es.cons (E.v 0) (Es.cons (E.v 1) (Es.cons (E.c (D.int 0)) (Es.cons (E.c (D.int 1000000)) (Es.nil)))))))
            (Ss.cons
              (S.ret
                (E.tup
                  (Es.cons
                    (E.tup
                      (Es.cons
                        (E.tup (Es.cons (E.c (D.int 0)) (Es.cons (E.c (D.int 0)) (Es.nil))))
                        (Es.cons (E.tup (Es.cons (E.v 6) (Es.cons (E.c (D.int 1)) (Es.nil)))) (Es.nil))))
                    (Es.cons (E.v 1) (Es.nil)))))
              (Ss.nil))))
        (Ss.nil))
      (Ss.cons
        (S.asg (T.t2 (T.n 8) (T.n 1)) (E.call 33 (Es.cons (E.v 0) (Es.cons (E.v 1) (Es.cons (E.v 3) (Es.nil))))))
        (Ss.cons
          (S.asg (T.t2 (T.n 9) (T.n 1)) (E.call 40 (Es.cons (E.v 0) (Es.cons (E.v 1) (Es.cons (E.v 4) (Es.nil))))))
          (Ss.cons
            (S.ret
              (E.tup
                (Es.cons
                  (E.tup
                    (Es.cons
                      (E.ite
                        (E.cmp (CO.eq) (E.v 8) (E.c (D.str [120])))
                        (E.tup (Es.cons (E.v 9) (Es.cons (E.c (D.int 0)) (Es.nil))))
                        (E.tup (Es.cons (E.c (D.int 0)) (Es.cons (E.v 9) (Es.nil)))))
                      (Es.cons (E.c (D.tup true [D.int 1, D.int 1])) (Es.nil))))
                  (Es.cons (E.v 1) (Es.nil)))))
            (Ss.nil))))))⟩
/-- term_at -/
def f42 : Fn := ⟨3, 7,
  Ss.cons
  (S.asg
    (T.t2 (T.t2 (T.n 3) (T.n 4)) (T.n 1))
    (E.call 41 (Es.cons (E.v 0) (Es.cons (E.v 1) (Es.cons (E.v 2) (Es.nil))))))
  (Ss.cons
    (S.wh
      (E.cmp (CO.eq) (E.call 31 (Es.cons (E.v 0) (Es.cons (E.v 1) (Es.nil)))) (E.c (D.str [42])))
      (Ss.cons
        (S.asg
          (T.t2 (T.t2 (T.n 5) (T.n 6)) (T.n 1))
          (E.call
            41
            (Es.cons
              (E.v 0)
              (Es.cons
                (E.call 32 (Es.cons (E.v 0) (Es.cons (E.v 1) (Es.cons (E.c (D.str [42])) (Es.nil)))))
                (Es.cons (E.v 2) (Es.nil))))))
        (Ss.cons
          (S.par
            3
            4
            (E.tup
              (Es.cons
                (E.bin (BO.add) (E.idx (E.v 3) (E.c (D.int 0))) (E.idx (E.v 5) (E.c (D.int 0))))
                (Es.cons (E.bin (BO.add) (E.idx (E.v 3) (E.c (D.int 1))) (E.idx (E.v 5) (E.c (D.int 1)))) (Es.nil))))
            (E.call 12 (Es.cons (E.v 4) (Es.cons (E.v 6) (Es.nil)))))
          (Ss.nil))))
    (Ss.cons
      (S.ret (E.tup (Es.cons (E.tup (Es.cons (E.v 3) (Es.cons (E.v 4) (Es.nil)))) (Es.cons (E.v 1) (Es.nil)))))
      (Ss.nil)))⟩
/-- terms_at -/
def f43 : Fn := ⟨3, 8,
  Ss.cons
  (S.par 3 4 (E.dnew false) (E.c (D.tup true [D.int 1, D.int 1])))
  (Ss.cons
    (S.ite
      (E.cmp (CO.eq) (E.call 31 (Es.cons (E.v 0) (Es.cons (E.v 1) (Es.nil)))) (E.c (D.str [45])))
      (Ss.cons
        (S.par
          1
          4
          (E.call 32 (Es.cons (E.v 0) (Es.cons (E.v 1) (Es.cons (E.c (D.str [45])) (Es.nil)))))
          (E.tup (Es.cons (E.neg (E.c (D.int 1))) (Es.cons (E.c (D.int 1)) (Es.nil)))))
        (Ss.nil))
      (Ss.nil))
    (Ss.cons
      (S.wh
        (E.c (D.bl true))
        (Ss.cons
          (S.asg
            (T.t2 (T.t2 (T.n 5) (T.n 6)) (T.n 1))
            (E.call 42 (Es.cons (E.v 0) (Es.cons (E.v 1) (Es.cons (E.v 2) (Es.nil))))))
          (Ss.cons
            (S.asg
              (T.n 3)
              (E.dstar
                (E.v 3)
                (E.v 5)
                (E.call
                  11
                  (Es.cons
                    (E.mt (MF.get2) (E.v 3) (Es.cons (E.v 5) (Es.cons (E.c (D.tup true [D.int 0, D.int 1])) (Es.nil))))
                    (Es.cons (E.call 12 (Es.cons (E.v 4) (Es.cons (E.v 6) (Es.nil)))) (Es.nil))))))
            (Ss.cons
              (S.asg (T.n 7) (E.call 31 (Es.cons (E.v 0) (Es.cons (E.v 1) (Es.nil)))))
              (Ss.cons
                (S.ite
                  (E.cmp (CO.notin) (E.v 7) (E.tup (Es.cons (E.c (D.str [43])) (Es.cons (E.c (D.str [45])) (Es.nil)))))
                  (Ss.cons (S.ret (E.tup (Es.cons (E.v 3) (Es.cons (E.v 1) (Es.nil))))) (Ss.nil))
                  (Ss.nil))
                (Ss.cons
                  (S.par
                    1
                    4
                    (E.call 32 (Es.cons (E.v 0) (Es.cons (E.v 1) (Es.cons (E.v 7) (Es.nil)))))
                    (E.ite
                      (E.cmp (CO.eq) (E.v 7) (E.c (D.str [43])))
                      (E.c (D.tup true [D.int 1, D.int 1]))
                      (E.tup (Es.cons (E.neg (E.c (D.int 1))) (Es.cons (E.c (D.int 1)) (Es.nil))))))
                  (Ss.nil)))))))
      (Ss.nil)))⟩
/-- line_of -/
def f44 : Fn := ⟨1, 3,
  Ss.cons
  (S.asg
    (T.n 2)
    (E.rep
      true
      (E.lst false (Es.cons (E.c (D.int 0)) (Es.nil)))
      (E.bin
        (BO.add)
        (E.c (D.int 1))
        (E.bf (BF.maxl) (Es.cons (E.lcK [1] (T.n 1) 0 (Eo.none) (E.idx (E.v 1) (E.c (D.int 0)))) (Es.nil))))))
  (Ss.cons
    (S.frK
      (T.n 1)
      0
      (Ss.cons
        (S.sub (E.v 2) (E.idx (E.v 1) (E.c (D.int 0))) (E.idx (E.idx (E.v 0) (E.v 1)) (E.c (D.int 0))))
        (Ss.nil)))
    (Ss.cons
      (S.fz 2)
      (Ss.cons
        (S.wh
          (E.and
            (E.cmp (CO.ne) (E.v 2) (E.lst false (Es.nil)))
            (E.cmp (CO.eq) (E.idx (E.v 2) (E.neg (E.c (D.int 1)))) (E.c (D.int 0))))
          (Ss.cons (S.asg (T.n 2) (E.slc (E.v 2) (Eo.none) (Eo.some (E.neg (E.c (D.int 1)))))) (Ss.nil)))
        (Ss.cons (S.ret (E.bf (BF.tuple) (Es.cons (E.v 2) (Es.nil)))) (Ss.nil)))))⟩
/-- row_of -/
def f45 : Fn := ⟨1, 2,
  Ss.cons
  (S.ret
    (E.bf
      (BF.tuple)
      (Es.cons
        (E.lc
          [1]
          (T.n 1)
          (I.of (E.bf (BF.sorted) (Es.cons (E.v 0) (Es.nil))))
          (Eo.some (E.cmp (CO.ne) (E.idx (E.idx (E.v 0) (E.v 1)) (E.c (D.int 0))) (E.c (D.int 0))))
          (E.tup (Es.cons (E.v 1) (Es.cons (E.idx (E.v 0) (E.v 1)) (Es.nil)))))
        (Es.nil))))
  (Ss.nil)⟩
/-- line_at -/
def f46 : Fn := ⟨2, 3,
  Ss.cons
  (S.asg
    (T.t2 (T.n 2) (T.n 1))
    (E.call
      43
      (Es.cons
        (E.v 0)
        (Es.cons
          (E.v 1)
          (Es.cons
            (E.tup
              (Es.cons
                (E.tup (Es.cons (E.c (D.str [120])) (Es.nil)))
                (Es.cons (E.c (D.int 8)) (Es.cons (E.c (D.bl false)) (Es.nil)))))
            (Es.nil))))))
  (Ss.cons (S.ret (E.tup (Es.cons (E.call 44 (Es.cons (E.v 2) (Es.nil))) (Es.cons (E.v 1) (Es.nil))))) (Ss.nil))⟩
/-- surface_at -/
def f47 : Fn := ⟨2, 5,
  Ss.cons
  (S.asg
    (T.t2 (T.n 2) (T.n 1))
    (E.call
      43
      (Es.cons
        (E.v 0)
        (Es.cons
          (E.v 1)
          (Es.cons
            (E.tup
              (Es.cons
                (E.tup (Es.cons (E.c (D.str [120])) (Es.cons (E.c (D.str [121])) (Es.nil))))
                (Es.cons (E.c (D.int 4)) (Es.cons (E.c (D.bl false)) (Es.nil)))))
            (Es.nil))))))
  (Ss.cons
    (S.ret
      (E.tup
        (Es.cons
          (E.bf
            (BF.tuple)
            (Es.cons
              (E.lc
                [3, 4]
                (T.t2 (T.n 3) (T.n 4))
                (I.of (E.call 45 (Es.cons (E.v 2) (Es.nil))))
                (Eo.none)
                (E.tup (Es.cons (E.v 3) (Es.cons (E.idx (E.v 4) (E.c (D.int 0))) (Es.nil)))))
              (Es.nil)))
          (Es.cons (E.v 1) (Es.nil)))))
    (Ss.nil))⟩
/-- number_at -/
def f60 : Fn := ⟨2, 4,
  Ss.cons
  (S.asg (T.n 1) (E.call 30 (Es.cons (E.v 0) (Es.cons (E.v 1) (Es.nil)))))
  (Ss.cons
    (S.ite
      (E.and
        (E.cmp (CO.lt) (E.v 1) (E.bf (BF.len) (Es.cons (E.v 0) (Es.nil))))
        (E.cmp (CO.eq) (E.idx (E.v 0) (E.v 1)) (E.c (D.str [95]))))
      (Ss.cons
        (S.ite
          (E.cmp
            (CO.eq)
            (E.call 31 (Es.cons (E.v 0) (Es.cons (E.bin (BO.add) (E.v 1) (E.c (D.int 1))) (Es.nil))))
            (E.c (D.str [48])))
          (Ss.cons (S.rse 0 (E.bin (BO.add) (E.v 1) (E.c (D.int 1)))) (Ss.nil))
          (Ss.nil))
        (Ss.cons
          (S.asg
            (T.t3 (T.n 2) (T.n 3) (T.n 1))
            (E.call
              35
              (Es.cons
                (E.v 0)
                (Es.cons (E.bin (BO.add) (E.v 1) (E.c (D.int 1))) (Es.cons (E.c (D.int 1000000000000)) (Es.nil))))))
          (Ss.cons
            (S.ret
              (E.tup
                (Es.cons
                  (E.tup
                    (Es.cons
                      (E.c (D.str [110, 117, 109, 98, 101, 114]))
                      (Es.cons (E.tup (Es.cons (E.neg (E.v 2)) (Es.cons (E.v 3) (Es.nil)))) (Es.nil))))
                  (Es.cons (E.v 1) (Es.nil)))))
            (Ss.nil))))
      (Ss.nil))
    (Ss.cons
      (S.asg
        (T.t3 (T.n 2) (T.n 3) (T.n 1))
        (E.call 35 (Es.cons (E.v 0) (Es.cons (E.v 1) (Es.cons (E.c (D.int 1000000000000)) (Es.nil))))))
      (Ss.cons
        (S.ret
          (E.tup
            (Es.cons
              (E.tup
                (Es.cons
                  (E.c (D.str [110, 117, 109, 98, 101, 114]))
                  (Es.cons (E.tup (Es.cons (E.v 2) (Es.cons (E.v 3) (Es.nil)))) (Es.nil))))
              (Es.cons (E.v 1) (Es.nil)))))
        (Ss.nil))))⟩
/-- bracket_at -/
def f61 : Fn := ⟨4, 5,
  Ss.cons
  (S.asg (T.n 1) (E.call 62 (Es.cons (E.v 0) (Es.cons (E.v 1) (Es.cons (E.v 2) (Es.nil))))))
  (Ss.cons
    (S.asg
      (T.t2 (T.n 4) (T.n 1))
      (E.call
        71
        (Es.cons
          (E.v 0)
          (Es.cons (E.v 1) (Es.cons (E.bin (BO.add) (E.v 2) (E.c (D.int 1))) (Es.cons (E.v 3) (Es.nil)))))))
    (Ss.cons
      (S.ret
        (E.tup
          (Es.cons
            (E.v 4)
            (Es.cons (E.call 32 (Es.cons (E.v 0) (Es.cons (E.v 1) (Es.cons (E.c (D.str [41])) (Es.nil))))) (Es.nil)))))
      (Ss.nil)))⟩
/-- opened -/
def f62 : Fn := ⟨3, 4,
  Ss.cons
  (S.asg (T.n 3) (E.call 32 (Es.cons (E.v 0) (Es.cons (E.v 1) (Es.cons (E.c (D.str [40])) (Es.nil))))))
  (Ss.cons
    (S.ite
      (E.cmp (CO.eq) (E.v 2) (E.c (D.int 12)))
      (Ss.cons (S.rse 0 (E.bin (BO.sub) (E.v 3) (E.c (D.int 1)))) (Ss.nil))
      (Ss.nil))
    (Ss.cons (S.ret (E.v 3)) (Ss.nil)))⟩
/-- pair_at -/
def f63 : Fn := ⟨4, 6,
  Ss.cons
  (S.asg (T.n 1) (E.call 62 (Es.cons (E.v 0) (Es.cons (E.v 1) (Es.cons (E.v 2) (Es.nil))))))
  (Ss.cons
    (S.asg
      (T.t2 (T.n 4) (T.n 1))
      (E.call
        71
        (Es.cons
          (E.v 0)
          (Es.cons (E.v 1) (Es.cons (E.bin (BO.add) (E.v 2) (E.c (D.int 1))) (Es.cons (E.v 3) (Es.nil)))))))
    (Ss.cons
      (S.asg
        (T.t2 (T.n 5) (T.n 1))
        (E.call
          71
          (Es.cons
            (E.v 0)
            (Es.cons
              (E.call 32 (Es.cons (E.v 0) (Es.cons (E.v 1) (Es.cons (E.c (D.str [44])) (Es.nil)))))
              (Es.cons (E.bin (BO.add) (E.v 2) (E.c (D.int 1))) (Es.cons (E.v 3) (Es.nil)))))))
      (Ss.cons
        (S.ret
          (E.tup
            (Es.cons
              (E.tup (Es.cons (E.v 4) (Es.cons (E.v 5) (Es.nil))))
              (Es.cons (E.call 32 (Es.cons (E.v 0) (Es.cons (E.v 1) (Es.cons (E.c (D.str [41])) (Es.nil))))) (Es.nil)))))
        (Ss.nil))))⟩
/-- root_at -/
def f64 : Fn := ⟨3, 5,
  Ss.cons
  (S.asg
    (T.t2 (T.n 3) (T.n 1))
    (E.call
      46
      (Es.cons (E.v 0) (Es.cons (E.call 62 (Es.cons (E.v 0) (Es.cons (E.v 1) (Es.cons (E.v 2) (Es.nil))))) (Es.nil)))))
  (Ss.cons
    (S.asg
      (T.n 1)
      (E.call
        30
        (Es.cons
          (E.v 0)
          (Es.cons (E.call 32 (Es.cons (E.v 0) (Es.cons (E.v 1) (Es.cons (E.c (D.str [44])) (Es.nil))))) (Es.nil)))))
    (Ss.cons
      (S.asg
        (T.t2 (T.n 4) (T.n 1))
        (E.call 34 (Es.cons (E.v 0) (Es.cons (E.v 1) (Es.cons (E.c (D.int 0)) (Es.cons (E.c (D.int 7)) (Es.nil)))))))
      (Ss.cons
        (S.ret
          (E.tup
            (Es.cons
              (E.tup (Es.cons (E.c (D.str [114, 111, 111, 116])) (Es.cons (E.v 3) (Es.cons (E.v 4) (Es.nil)))))
              (Es.cons (E.call 32 (Es.cons (E.v 0) (Es.cons (E.v 1) (Es.cons (E.c (D.str [41])) (Es.nil))))) (Es.nil)))))
        (Ss.nil))))⟩
/-- area_at -/
def f65 : Fn := ⟨3, 6,
  Ss.cons
  (S.asg
    (T.t2 (T.n 3) (T.n 1))
    (E.call
      71
      (Es.cons
        (E.v 0)
        (Es.cons
          (E.call 62 (Es.cons (E.v 0) (Es.cons (E.v 1) (Es.cons (E.v 2) (Es.nil)))))
          (Es.cons (E.bin (BO.add) (E.v 2) (E.c (D.int 1))) (Es.cons (E.c (D.bl true)) (Es.nil)))))))
  (Ss.cons
    (S.asg
      (T.t2 (T.n 4) (T.n 1))
      (E.call
        60
        (Es.cons
          (E.v 0)
          (Es.cons (E.call 32 (Es.cons (E.v 0) (Es.cons (E.v 1) (Es.cons (E.c (D.str [44])) (Es.nil))))) (Es.nil)))))
    (Ss.cons
      (S.asg
        (T.t2 (T.n 5) (T.n 1))
        (E.call
          60
          (Es.cons
            (E.v 0)
            (Es.cons (E.call 32 (Es.cons (E.v 0) (Es.cons (E.v 1) (Es.cons (E.c (D.str [44])) (Es.nil))))) (Es.nil)))))
      (Ss.cons
        (S.ret
          (E.tup
            (Es.cons
              (E.tup
                (Es.cons
                  (E.c (D.str [97, 114, 101, 97]))
                  (Es.cons
                    (E.v 3)
                    (Es.cons (E.idx (E.v 4) (E.c (D.int 1))) (Es.cons (E.idx (E.v 5) (E.c (D.int 1))) (Es.nil))))))
              (Es.cons (E.call 32 (Es.cons (E.v 0) (Es.cons (E.v 1) (Es.cons (E.c (D.str [41])) (Es.nil))))) (Es.nil)))))
        (Ss.nil))))⟩
/-- words_let -/
def f66 : Fn := ⟨2, 2,
  Ss.cons
  (S.ite
    (E.cmp (CO.eq) (E.v 0) (E.c (D.int 12)))
    (Ss.cons
      (S.ret
        (E.ite
          (E.v 1)
          (E.tup (Es.cons (E.c (D.str [112, 105])) (Es.cons (E.c (D.str [120])) (Es.nil))))
          (E.tup (Es.cons (E.c (D.str [112, 105])) (Es.nil)))))
      (Ss.nil))
    (Ss.nil))
  (Ss.cons (S.ret (E.ite (E.v 1) (E.bad) (E.bad))) (Ss.nil))⟩
/-- atom_at -/
def f67 : Fn := ⟨4, 8,
  Ss.cons
  (S.asg (T.n 4) (E.call 31 (Es.cons (E.v 0) (Es.cons (E.v 1) (Es.nil)))))
  (Ss.cons
    (S.ite
      (E.and
        (E.cmp (CO.ne) (E.v 4) (E.c (D.str [])))
        (E.cmp (CO.isin) (E.v 4) (E.bin (BO.add) (E.c (D.str [48, 49, 50, 51, 52, 53, 54, 55, 56, 57])) (E.c (D.str [95])))))
      (Ss.cons (S.ret (E.call 60 (Es.cons (E.v 0) (Es.cons (E.v 1) (Es.nil))))) (Ss.nil))
      (Ss.nil))
    (Ss.cons
      (S.ite
        (E.cmp (CO.eq) (E.v 4) (E.c (D.str [40])))
        (Ss.cons
          (S.ret (E.call 61 (Es.cons (E.v 0) (Es.cons (E.v 1) (Es.cons (E.v 2) (Es.cons (E.v 3) (Es.nil)))))))
          (Ss.nil))
        (Ss.nil))
      (Ss.cons
        (S.ite
          (E.or
            (E.cmp (CO.eq) (E.v 4) (E.c (D.str [])))
            (E.cmp
              (CO.notin)
              (E.v 4)
              (E.c
                (D.str [97, 98, 99, 100, 101, 102, 103, 104, 105, 106, 107, 108, 109, 110, 111, 112, 113, 114, 115, 116, 117, 118, 119, 120, 121, 122]))))
          (Ss.cons (S.rse 0 (E.call 30 (Es.cons (E.v 0) (Es.cons (E.v 1) (Es.nil))))) (Ss.nil))
          (Ss.nil))
        (Ss.cons
          (S.asg
            (T.t2 (T.n 5) (T.n 1))
            (E.call
              33
              (Es.cons
                (E.v 0)
                (Es.cons (E.v 1) (Es.cons (E.call 66 (Es.cons (E.v 2) (Es.cons (E.v 3) (Es.nil)))) (Es.nil))))))
          (Ss.cons
            (S.ite
              (E.cmp (CO.isin) (E.v 5) (E.tup (Es.cons (E.c (D.str [112, 105])) (Es.cons (E.c (D.str [120])) (Es.nil)))))
              (Ss.cons
                (S.ret
                  (E.tup
                    (Es.cons
                      (E.ite
                        (E.cmp (CO.eq) (E.v 5) (E.c (D.str [112, 105])))
                        (E.tup (Es.cons (E.c (D.str [112, 105])) (Es.nil)))
                        (E.tup (Es.cons (E.c (D.str [117, 110, 107, 110, 111, 119, 110])) (Es.nil))))
                      (Es.cons (E.v 1) (Es.nil)))))
                (Ss.nil))
              (Ss.nil))
            (Ss.cons
              (S.ite
                (E.cmp
                  (CO.isin)
                  (E.v 5)
                  (E.tup (Es.cons (E.c (D.str [97, 114, 101, 97])) (Es.cons (E.c (D.str [114, 111, 111, 116])) (Es.nil)))))
                (Ss.cons
                  (S.ret
                    (E.ite
                      (E.cmp (CO.eq) (E.v 5) (E.c (D.str [97, 114, 101, 97])))
                      (E.call 65 (Es.cons (E.v 0) (Es.cons (E.v 1) (Es.cons (E.v 2) (Es.nil)))))
                      (E.call 64 (Es.cons (E.v 0) (Es.cons (E.v 1) (Es.cons (E.v 2) (Es.nil)))))))
                  (Ss.nil))
                (Ss.nil))
              (Ss.cons
                (S.ite
                  (E.cmp (CO.isin) (E.v 5) (E.bad))
                  (Ss.cons
                    (S.asg
                      (T.t2 (T.n 6) (T.n 1))
                      (E.call 63 (Es.cons (E.v 0) (Es.cons (E.v 1) (Es.cons (E.v 2) (Es.cons (E.v 3) (Es.nil)))))))
                    (Ss.cons
                      (S.ret
                        (E.tup
                          (Es.cons (E.bin (BO.add) (E.tup (Es.cons (E.v 5) (Es.nil))) (E.v 6)) (Es.cons (E.v 1) (Es.nil)))))
                      (Ss.nil)))
                  (Ss.nil))
                (Ss.cons
                  (S.asg
                    (T.t2 (T.n 7) (T.n 1))
                    (E.call 61 (Es.cons (E.v 0) (Es.cons (E.v 1) (Es.cons (E.v 2) (Es.cons (E.v 3) (Es.nil)))))))
                  (Ss.cons
                    (S.ret
                      (E.tup (Es.cons (E.tup (Es.cons (E.v 5) (Es.cons (E.v 7) (Es.nil)))) (Es.cons (E.v 1) (Es.nil)))))
                    (Ss.nil))))))))))⟩
/-- signed_at -/
def f69 : Fn := ⟨4, 7,
  Ss.cons
  (S.asg (T.n 4) (E.c (D.int 0)))
  (Ss.cons
    (S.wh
      (E.cmp (CO.eq) (E.call 31 (Es.cons (E.v 0) (Es.cons (E.v 1) (Es.nil)))) (E.c (D.str [45])))
      (Ss.cons
        (S.par
          4
          1
          (E.bin (BO.add) (E.v 4) (E.c (D.int 1)))
          (E.call 32 (Es.cons (E.v 0) (Es.cons (E.v 1) (Es.cons (E.c (D.str [45])) (Es.nil))))))
        (Ss.nil)))
    (Ss.cons
      (S.asg
        (T.t2 (T.n 5) (T.n 1))
        (E.call 68 (Es.cons (E.v 0) (Es.cons (E.v 1) (Es.cons (E.v 2) (Es.cons (E.v 3) (Es.nil)))))))
      (Ss.cons
        (S.fr
          (T.n 6)
          (I.rng (E.v 4))
          (Ss.cons
            (S.asg (T.n 5) (E.tup (Es.cons (E.c (D.str [109, 105, 110, 117, 115])) (Es.cons (E.v 5) (Es.nil)))))
            (Ss.nil)))
        (Ss.cons (S.ret (E.tup (Es.cons (E.v 5) (Es.cons (E.v 1) (Es.nil))))) (Ss.nil)))))⟩
/-- product_at -/
def f70 : Fn := ⟨4, 8,
  Ss.cons
  (S.asg
    (T.t2 (T.n 4) (T.n 1))
    (E.call 69 (Es.cons (E.v 0) (Es.cons (E.v 1) (Es.cons (E.v 2) (Es.cons (E.v 3) (Es.nil)))))))
  (Ss.cons
    (S.asg
      (T.n 5)
      (E.ite
        (E.v 3)
        (E.tup (Es.cons (E.c (D.str [42])) (Es.nil)))
        (E.tup (Es.cons (E.c (D.str [42])) (Es.cons (E.c (D.str [47])) (Es.nil))))))
    (Ss.cons
      (S.wh
        (E.cmp (CO.isin) (E.call 31 (Es.cons (E.v 0) (Es.cons (E.v 1) (Es.nil)))) (E.v 5))
        (Ss.cons
          (S.asg (T.n 6) (E.call 31 (Es.cons (E.v 0) (Es.cons (E.v 1) (Es.nil)))))
          (Ss.cons
            (S.asg
              (T.t2 (T.n 7) (T.n 1))
              (E.call
                69
                (Es.cons
                  (E.v 0)
                  (Es.cons
                    (E.call 32 (Es.cons (E.v 0) (Es.cons (E.v 1) (Es.cons (E.v 6) (Es.nil)))))
                    (Es.cons (E.v 2) (Es.cons (E.v 3) (Es.nil)))))))
            (Ss.cons
              (S.asg (T.n 4) (E.tup (Es.cons (E.idx (E.bad) (E.v 6)) (Es.cons (E.v 4) (Es.cons (E.v 7) (Es.nil))))))
              (Ss.nil)))))
      (Ss.cons (S.ret (E.tup (Es.cons (E.v 4) (Es.cons (E.v 1) (Es.nil))))) (Ss.nil))))⟩
/-- sum_at -/
def f71 : Fn := ⟨4, 7,
  Ss.cons
  (S.asg
    (T.t2 (T.n 4) (T.n 1))
    (E.call 70 (Es.cons (E.v 0) (Es.cons (E.v 1) (Es.cons (E.v 2) (Es.cons (E.v 3) (Es.nil)))))))
  (Ss.cons
    (S.wh
      (E.cmp
        (CO.isin)
        (E.call 31 (Es.cons (E.v 0) (Es.cons (E.v 1) (Es.nil))))
        (E.tup (Es.cons (E.c (D.str [43])) (Es.cons (E.c (D.str [45])) (Es.nil)))))
      (Ss.cons
        (S.asg (T.n 5) (E.call 31 (Es.cons (E.v 0) (Es.cons (E.v 1) (Es.nil)))))
        (Ss.cons
          (S.asg
            (T.t2 (T.n 6) (T.n 1))
            (E.call
              70
              (Es.cons
                (E.v 0)
                (Es.cons
                  (E.call 32 (Es.cons (E.v 0) (Es.cons (E.v 1) (Es.cons (E.v 5) (Es.nil)))))
                  (Es.cons (E.v 2) (Es.cons (E.v 3) (Es.nil)))))))
          (Ss.cons
            (S.asg (T.n 4) (E.tup (Es.cons (E.idx (E.bad) (E.v 5)) (Es.cons (E.v 4) (Es.cons (E.v 6) (Es.nil))))))
            (Ss.nil)))))
    (Ss.cons (S.ret (E.tup (Es.cons (E.v 4) (Es.cons (E.v 1) (Es.nil))))) (Ss.nil)))⟩
/-- item_at -/
def f90 : Fn := ⟨2, 6,
  Ss.cons
  (S.asg
    (T.t3 (T.n 2) (T.n 3) (T.n 1))
    (E.call
      35
      (Es.cons
        (E.v 0)
        (Es.cons
          (E.call 30 (Es.cons (E.v 0) (Es.cons (E.v 1) (Es.nil))))
          (Es.cons (E.c (D.int 1000000000000000000000000000000000000000000000000000000000000)) (Es.nil))))))
  (Ss.cons
    (S.asg
      (T.t2 (T.n 4) (T.n 1))
      (E.call
        34
        (Es.cons
          (E.v 0)
          (Es.cons
            (E.call
              30
              (Es.cons
                (E.v 0)
                (Es.cons (E.call 32 (Es.cons (E.v 0) (Es.cons (E.v 1) (Es.cons (E.c (D.str [124])) (Es.nil))))) (Es.nil))))
            (Es.cons (E.c (D.int 0)) (Es.cons (E.c (D.int 10)) (Es.nil)))))))
    (Ss.cons
      (S.asg
        (T.t2 (T.n 5) (T.n 1))
        (E.call
          43
          (Es.cons
            (E.v 0)
            (Es.cons
              (E.call 32 (Es.cons (E.v 0) (Es.cons (E.v 1) (Es.cons (E.c (D.str [124])) (Es.nil)))))
              (Es.cons
                (E.tup
                  (Es.cons
                    (E.tup (Es.cons (E.c (D.str [120])) (Es.cons (E.c (D.str [121])) (Es.nil))))
                    (Es.cons (E.c (D.int 3)) (Es.cons (E.c (D.bl true)) (Es.nil)))))
                (Es.nil))))))
      (Ss.cons
        (S.ret
          (E.tup
            (Es.cons
              (E.tup
                (Es.cons
                  (E.call 10 (Es.cons (E.v 2) (Es.cons (E.v 3) (Es.nil))))
                  (Es.cons (E.v 4) (Es.cons (E.call 45 (Es.cons (E.v 5) (Es.nil))) (Es.nil)))))
              (Es.cons (E.call 32 (Es.cons (E.v 0) (Es.cons (E.v 1) (Es.cons (E.c (D.str [59])) (Es.nil))))) (Es.nil)))))
        (Ss.nil))))⟩
/-- items_at -/
def f91 : Fn := ⟨1, 4,
  Ss.cons
  (S.par 1 2 (E.tup (Es.nil)) (E.call 30 (Es.cons (E.v 0) (Es.cons (E.c (D.int 0)) (Es.nil)))))
  (Ss.cons
    (S.wh
      (E.cmp (CO.lt) (E.v 2) (E.bf (BF.len) (Es.cons (E.v 0) (Es.nil))))
      (Ss.cons
        (S.asg (T.t2 (T.n 3) (T.n 2)) (E.call 90 (Es.cons (E.v 0) (Es.cons (E.v 2) (Es.nil)))))
        (Ss.cons
          (S.par
            1
            2
            (E.bin (BO.add) (E.v 1) (E.tup (Es.cons (E.v 3) (Es.nil))))
            (E.call 30 (Es.cons (E.v 0) (Es.cons (E.v 2) (Es.nil)))))
          (Ss.nil))))
    (Ss.cons (S.ret (E.v 1)) (Ss.nil)))⟩
/-- gone_through -/
def f92 : Fn := ⟨2, 2,
  Ss.cons
  (S.ite
    (E.cmp (CO.eq) (E.v 0) (E.c (D.str [115, 113, 117, 97, 114, 101, 115])))
    (Ss.cons (S.ex (E.call 91 (Es.cons (E.v 1) (Es.nil)))) (Ss.nil))
    (Ss.cons
      (S.ite
        (E.cmp (CO.eq) (E.v 0) (E.c (D.str [116, 114, 101, 101])))
        (Ss.cons
          (S.ex
            (E.call
              36
              (Es.cons
                (E.v 1)
                (Es.cons
                  (E.idx
                    (E.call
                      71
                      (Es.cons
                        (E.v 1)
                        (Es.cons (E.c (D.int 0)) (Es.cons (E.c (D.int 0)) (Es.cons (E.c (D.bl false)) (Es.nil))))))
                    (E.c (D.int 1)))
                  (Es.nil)))))
          (Ss.nil))
        (Ss.cons
          (S.ite
            (E.cmp (CO.eq) (E.v 0) (E.c (D.str [108, 105, 110, 101])))
            (Ss.cons
              (S.ex
                (E.call
                  36
                  (Es.cons
                    (E.v 1)
                    (Es.cons
                      (E.idx (E.call 46 (Es.cons (E.v 1) (Es.cons (E.c (D.int 0)) (Es.nil)))) (E.c (D.int 1)))
                      (Es.nil)))))
              (Ss.nil))
            (Ss.cons
              (S.ex
                (E.call
                  36
                  (Es.cons
                    (E.v 1)
                    (Es.cons
                      (E.idx (E.call 47 (Es.cons (E.v 1) (Es.cons (E.c (D.int 0)) (Es.nil)))) (E.c (D.int 1)))
                      (Es.nil)))))
              (Ss.nil)))
          (Ss.nil)))
      (Ss.nil)))
  (Ss.nil)⟩
/-- first_refused -/
def f96 : Fn := ⟨2, 3,
  Ss.cons
  (S.ite
    (E.or
      (E.not (E.bf (BF.isinst (Ty.str)) (Es.cons (E.v 0) (Es.nil))))
      (E.cmp
        (CO.notin)
        (E.v 0)
        (E.c
          (D.tup
            true
            [D.str [108, 105, 110, 101],
             D.str [115, 113, 117, 97, 114, 101, 115],
             D.str [115, 117, 114, 102, 97, 99, 101],
             D.str [116, 114, 101, 101]]))))
    (Ss.cons (S.rse 2 (E.c (D.str [110, 111, 116, 32, 97, 32, 115, 111, 114, 116]))) (Ss.nil))
    (Ss.nil))
  (Ss.cons
    (S.ex (E.call 37 (Es.cons (E.v 1) (Es.nil))))
    (Ss.cons
      (S.tryPl 0 2 (Ss.cons (S.ex (E.call 92 (Es.cons (E.v 0) (Es.cons (E.v 1) (Es.nil))))) (Ss.nil)))
      (Ss.cons (S.ret (E.c (D.non))) (Ss.nil))))⟩
/-- _law_cup -/
def f130 : Fn := ⟨1, 2,
  Ss.cons
  (S.asg
    (T.n 1)
    (E.bf
      (BF.abs)
      (Es.cons
        (E.idx
          (E.bin (BO.add) (E.bf (BF.list) (Es.cons (E.v 0) (Es.nil))) (E.lst false (Es.cons (E.c (D.int 0)) (Es.nil))))
          (E.c (D.int 0)))
        (Es.nil))))
  (Ss.cons
    (S.ret
      (E.lst
        true
        (Es.cons
          (E.ite
            (E.cmp (CO.ge) (E.v 1) (E.bin (BO.pow) (E.c (D.int 10)) (E.c (D.int 18))))
            (E.bin (BO.fdiv) (E.v 1) (E.c (D.int 83)))
            (E.c (D.int 0)))
          (Es.cons
            (E.bin
              (BO.add)
              (E.bin
                (BO.mod)
                (E.bf
                  (BF.int)
                  (Es.cons (E.bin (BO.add) (E.bin (BO.mul) (E.v 1) (E.c (D.int 307))) (E.c (D.int 2707))) (Es.nil)))
                (E.c (D.int 2077503121)))
              (E.c (D.int 181)))
            (Es.nil)))))
    (Ss.nil))⟩
/-- _law_roll -/
def f131 : Fn := ⟨2, 4,
  Ss.cons
  (S.ite
    (E.cmp (CO.gt) (E.idx (E.v 0) (E.c (D.int 0))) (E.c (D.int 0)))
    (Ss.cons
      (S.asg (T.n 2) (E.bin (BO.mod) (E.bf (BF.int) (Es.cons (E.idx (E.v 0) (E.c (D.int 0))) (Es.nil))) (E.v 1)))
      (Ss.cons
        (S.sub (E.v 0) (E.c (D.int 0)) (E.bin (BO.fdiv) (E.idx (E.v 0) (E.c (D.int 0))) (E.v 1)))
        (Ss.cons (S.ret (E.v 2)) (Ss.nil))))
    (Ss.nil))
  (Ss.cons
    (S.sub
      (E.v 0)
      (E.c (D.int 1))
      (E.bin
        (BO.mod)
        (E.bf
          (BF.int)
          (Es.cons
            (E.bin (BO.add) (E.bin (BO.mul) (E.idx (E.v 0) (E.c (D.int 1))) (E.c (D.int 31081))) (E.c (D.int 8039)))
            (Es.nil)))
        (E.c (D.int 2147483543))))
    (Ss.cons
      (S.asg
        (T.n 3)
        (E.bin
          (BO.mod)
          (E.bf
            (BF.int)
            (Es.cons
              (E.bin
                (BO.mul)
                (E.idx (E.v 0) (E.c (D.int 1)))
                (E.bin (BO.add) (E.idx (E.v 0) (E.c (D.int 1))) (E.c (D.int 251))))
              (Es.nil)))
          (E.c (D.int 2147483587))))
      (Ss.cons
        (S.ret (E.bin (BO.mod) (E.bf (BF.int) (Es.cons (E.bin (BO.fdiv) (E.v 3) (E.c (D.int 839))) (Es.nil))) (E.v 1)))
        (Ss.nil))))⟩
/-- _law_some -/
def f132 : Fn := ⟨2, 2,
  Ss.cons
  (S.ret (E.idx (E.v 1) (E.call 131 (Es.cons (E.v 0) (Es.cons (E.bf (BF.len) (Es.cons (E.v 1) (Es.nil))) (Es.nil))))))
  (Ss.nil)⟩
/-- _law_number -/
def f133 : Fn := ⟨1, 1,
  Ss.cons
  (S.ret
    (E.bin
      (BO.add)
      (E.bf (BF.str) (Es.cons (E.idx (E.v 0) (E.c (D.int 0))) (Es.nil)))
      (E.ite
        (E.cmp (CO.ne) (E.idx (E.v 0) (E.c (D.int 1))) (E.c (D.int 1)))
        (E.bin (BO.add) (E.c (D.str [58])) (E.bf (BF.str) (Es.cons (E.idx (E.v 0) (E.c (D.int 1))) (Es.nil))))
        (E.c (D.str [])))))
  (Ss.nil)⟩
/-- _law_term -/
def f134 : Fn := ⟨2, 5,
  Ss.cons
  (S.asg
    (T.n 2)
    (E.ite
      (E.and
        (E.cmp
          (CO.eq)
          (E.bf (BF.abs) (Es.cons (E.idx (E.v 1) (E.c (D.int 0))) (Es.nil)))
          (E.idx (E.v 1) (E.c (D.int 1))))
        (E.cmp (CO.ne) (E.v 0) (E.tup (Es.cons (E.c (D.int 0)) (Es.cons (E.c (D.int 0)) (Es.nil))))))
      (E.lst true (Es.nil))
      (E.lst
        true
        (Es.cons
          (E.call
            133
            (Es.cons
              (E.tup
                (Es.cons
                  (E.bf (BF.abs) (Es.cons (E.idx (E.v 1) (E.c (D.int 0))) (Es.nil)))
                  (Es.cons (E.idx (E.v 1) (E.c (D.int 1))) (Es.nil))))
              (Es.nil)))
          (Es.nil)))))
  (Ss.cons
    (S.fr
      (T.t2 (T.n 3) (T.n 4))
      (I.of
        (E.tup
          (Es.cons
            (E.tup (Es.cons (E.c (D.str [120])) (Es.cons (E.idx (E.v 0) (E.c (D.int 0))) (Es.nil))))
            (Es.cons (E.tup (Es.cons (E.c (D.str [121])) (Es.cons (E.idx (E.v 0) (E.c (D.int 1))) (Es.nil)))) (Es.nil)))))
      (Ss.cons
        (S.ite
          (E.cmp (CO.gt) (E.v 4) (E.c (D.int 0)))
          (Ss.cons
            (S.ex
              (E.mt
                (MF.append)
                (E.v 2)
                (Es.cons
                  (E.bin
                    (BO.add)
                    (E.v 3)
                    (E.ite
                      (E.cmp (CO.gt) (E.v 4) (E.c (D.int 1)))
                      (E.bin (BO.add) (E.c (D.str [94])) (E.bf (BF.str) (Es.cons (E.v 4) (Es.nil))))
                      (E.c (D.str []))))
                  (Es.nil))))
            (Ss.nil))
          (Ss.nil))
        (Ss.nil)))
    (Ss.cons (S.fz 2) (Ss.cons (S.ret (E.mt (MF.join) (E.c (D.str [42])) (Es.cons (E.v 2) (Es.nil)))) (Ss.nil))))⟩
/-- _law_sum -/
def f135 : Fn := ⟨1, 6,
  Ss.cons
  (S.asg (T.n 1) (E.c (D.str [])))
  (Ss.cons
    (S.fr
      (T.t3 (T.n 2) (T.n 3) (T.n 4))
      (I.of
        (E.bf
          (BF.sorted)
          (Es.cons
            (E.lc
              [5]
              (T.n 5)
              (I.of (E.v 0))
              (Eo.none)
              (E.tup
                (Es.cons
                  (E.tup
                    (Es.cons
                      (E.bin
                        (BO.sub)
                        (E.bin (BO.sub) (E.c (D.int 0)) (E.idx (E.idx (E.v 5) (E.c (D.int 0))) (E.c (D.int 0))))
                        (E.idx (E.idx (E.v 5) (E.c (D.int 0))) (E.c (D.int 1))))
                      (Es.cons
                        (E.bin (BO.sub) (E.c (D.int 0)) (E.idx (E.idx (E.v 5) (E.c (D.int 0))) (E.c (D.int 0))))
                        (Es.nil))))
                  (Es.cons (E.idx (E.v 5) (E.c (D.int 0))) (Es.cons (E.idx (E.v 5) (E.c (D.int 1))) (Es.nil))))))
            (Es.nil))))
      (Ss.cons
        (S.asg
          (T.n 1)
          (E.bin
            (BO.add)
            (E.bin
              (BO.add)
              (E.v 1)
              (E.ite
                (E.cmp (CO.lt) (E.idx (E.v 4) (E.c (D.int 0))) (E.c (D.int 0)))
                (E.c (D.str [45]))
                (E.ite (E.cmp (CO.ne) (E.v 1) (E.c (D.str []))) (E.c (D.str [43])) (E.c (D.str [])))))
            (E.call 134 (Es.cons (E.v 3) (Es.cons (E.v 4) (Es.nil))))))
        (Ss.nil)))
    (Ss.cons (S.ret (E.ite (E.cmp (CO.ne) (E.v 1) (E.c (D.str []))) (E.v 1) (E.c (D.str [48])))) (Ss.nil)))⟩
/-- _law_refused -/
def f136 : Fn := ⟨3, 7,
  Ss.cons
  (S.asg
    (T.t2 (T.n 3) (T.n 4))
    (E.tup (Es.cons (E.c (D.str [98, 101, 103, 105, 110])) (Es.cons (E.c (D.str [])) (Es.nil)))))
  (Ss.cons
    (S.fr
      (T.t2 (T.n 5) (T.n 6))
      (I.enum (E.v 0))
      (Ss.cons
        (S.ite
          (E.and
            (E.cmp
              (CO.isin)
              (E.v 3)
              (E.lst
                false
                (Es.cons (E.c (D.str [102, 105, 103, 117, 114, 101, 115])) (Es.cons (E.c (D.str [112, 111, 119, 101, 114])) (Es.nil)))))
            (E.mt (MF.isdigit) (E.v 6) (Es.nil)))
          (Ss.cons
            (S.asg (T.n 4) (E.bin (BO.add) (E.v 4) (E.v 6)))
            (Ss.cons
              (S.ite
                (E.or
                  (E.cmp
                    (CO.gt)
                    (E.bf (BF.int) (Es.cons (E.v 4) (Es.nil)))
                    (E.ite
                      (E.cmp (CO.eq) (E.v 3) (E.c (D.str [102, 105, 103, 117, 114, 101, 115])))
                      (E.bin (BO.pow) (E.c (D.int 10)) (E.c (D.int 6)))
                      (E.v 2)))
                  (E.and
                    (E.cmp (CO.eq) (E.slc (E.v 4) (Eo.none) (Eo.some (E.c (D.int 1)))) (E.c (D.str [48])))
                    (E.cmp (CO.gt) (E.bf (BF.len) (Es.cons (E.v 4) (Es.nil))) (E.c (D.int 1)))))
                (Ss.cons (S.ret (E.v 5)) (Ss.nil))
                (Ss.nil))
              (Ss.cons (S.ct) (Ss.nil))))
          (Ss.nil))
        (Ss.cons
          (S.ite
            (E.and (E.cmp (CO.eq) (E.v 3) (E.c (D.str [112, 111, 119, 101, 114]))) (E.cmp (CO.eq) (E.v 4) (E.c (D.str []))))
            (Ss.cons
              (S.ite (E.cmp (CO.ne) (E.v 6) (E.c (D.str [32]))) (Ss.cons (S.ret (E.v 5)) (Ss.nil)) (Ss.nil))
              (Ss.cons (S.ct) (Ss.nil)))
            (Ss.nil))
          (Ss.cons
            (S.ite
              (E.cmp
                (CO.isin)
                (E.v 3)
                (E.lst
                  false
                  (Es.cons (E.c (D.str [102, 105, 103, 117, 114, 101, 115])) (Es.cons (E.c (D.str [112, 111, 119, 101, 114])) (Es.nil)))))
              (Ss.cons (S.asg (T.n 3) (E.c (D.str [101, 110, 100]))) (Ss.nil))
              (Ss.nil))
            (Ss.cons
              (S.ite (E.cmp (CO.eq) (E.v 6) (E.c (D.str [32]))) (Ss.cons (S.ct) (Ss.nil)) (Ss.nil))
              (Ss.cons
                (S.ite
                  (E.cmp
                    (CO.isin)
                    (E.v 3)
                    (E.lst
                      false
                      (Es.cons (E.c (D.str [98, 101, 103, 105, 110])) (Es.cons (E.c (D.str [102, 97, 99, 116, 111, 114])) (Es.nil)))))
                  (Ss.cons
                    (S.ite
                      (E.mt (MF.isdigit) (E.v 6) (Es.nil))
                      (Ss.cons (S.par 3 4 (E.c (D.str [102, 105, 103, 117, 114, 101, 115])) (E.v 6)) (Ss.nil))
                      (Ss.cons
                        (S.ite
                          (E.cmp (CO.isin) (E.v 6) (E.v 1))
                          (Ss.cons (S.asg (T.n 3) (E.c (D.str [117, 110, 107, 110, 111, 119, 110]))) (Ss.nil))
                          (Ss.cons
                            (S.ite
                              (E.and
                                (E.cmp (CO.eq) (E.v 6) (E.c (D.str [45])))
                                (E.cmp (CO.eq) (E.v 3) (E.c (D.str [98, 101, 103, 105, 110]))))
                              (Ss.cons (S.asg (T.n 3) (E.c (D.str [102, 97, 99, 116, 111, 114]))) (Ss.nil))
                              (Ss.cons (S.ret (E.v 5)) (Ss.nil)))
                            (Ss.nil)))
                        (Ss.nil)))
                    (Ss.nil))
                  (Ss.cons
                    (S.ite
                      (E.and
                        (E.cmp (CO.eq) (E.v 6) (E.c (D.str [94])))
                        (E.cmp (CO.eq) (E.v 3) (E.c (D.str [117, 110, 107, 110, 111, 119, 110]))))
                      (Ss.cons
                        (S.asg
                          (T.t2 (T.n 3) (T.n 4))
                          (E.tup (Es.cons (E.c (D.str [112, 111, 119, 101, 114])) (Es.cons (E.c (D.str [])) (Es.nil)))))
                        (Ss.nil))
                      (Ss.cons
                        (S.ite
                          (E.cmp (CO.isin) (E.v 6) (E.c (D.str [42, 43, 45])))
                          (Ss.cons (S.asg (T.n 3) (E.c (D.str [102, 97, 99, 116, 111, 114]))) (Ss.nil))
                          (Ss.cons (S.ret (E.v 5)) (Ss.nil)))
                        (Ss.nil)))
                    (Ss.nil)))
                (Ss.nil)))))))
    (Ss.cons
      (S.ret
        (E.ite
          (E.or
            (E.cmp
              (CO.isin)
              (E.v 3)
              (E.lst
                false
                (Es.cons
                  (E.c (D.str [101, 110, 100]))
                  (Es.cons
                    (E.c (D.str [117, 110, 107, 110, 111, 119, 110]))
                    (Es.cons (E.c (D.str [102, 105, 103, 117, 114, 101, 115])) (Es.nil))))))
            (E.and (E.cmp (CO.eq) (E.v 3) (E.c (D.str [112, 111, 119, 101, 114]))) (E.cmp (CO.ne) (E.v 4) (E.c (D.str [])))))
          (E.c (D.non))
          (E.bf (BF.len) (Es.cons (E.v 0) (Es.nil)))))
      (Ss.nil)))⟩
/-- law -/
def f137 : Fn := ⟨1, 14,
  Ss.cons
  (S.asg (T.n 1) (E.call 130 (Es.cons (E.v 0) (Es.nil))))
  (Ss.cons
    (S.fr
      (T.n 2)
      (I.rng (E.c (D.int 6)))
      (Ss.cons
        (S.asg (T.n 3) (E.lst true (Es.nil)))
        (Ss.cons
          (S.fr
            (T.n 4)
            (I.rng (E.call 131 (Es.cons (E.v 1) (Es.cons (E.c (D.int 4)) (Es.nil)))))
            (Ss.cons
              (S.ex
                (E.mt
                  (MF.append)
                  (E.v 3)
                  (Es.cons
                    (E.tup
                      (Es.cons
                        (E.tup
                          (Es.cons
                            (E.call 131 (Es.cons (E.v 1) (Es.cons (E.c (D.int 4)) (Es.nil))))
                            (Es.cons (E.call 131 (Es.cons (E.v 1) (Es.cons (E.c (D.int 2)) (Es.nil)))) (Es.nil))))
                        (Es.cons
                          (E.tup
                            (Es.cons
                              (E.bin
                                (BO.sub)
                                (E.bin
                                  (BO.add)
                                  (E.c (D.int 1))
                                  (E.call 131 (Es.cons (E.v 1) (Es.cons (E.c (D.int 30)) (Es.nil)))))
                                (E.bin
                                  (BO.mul)
                                  (E.c (D.int 2))
                                  (E.call 131 (Es.cons (E.v 1) (Es.cons (E.c (D.int 9)) (Es.nil))))))
                              (Es.cons (E.c (D.int 1)) (Es.nil))))
                          (Es.nil))))
                    (Es.nil))))
              (Ss.nil)))
          (Ss.cons
            (S.fz 3)
            (Ss.cons
              (S.asg
                (T.n 5)
                (E.call
                  135
                  (Es.cons
                    (E.lc
                      [13]
                      (T.n 13)
                      (I.of (E.v 3))
                      (Eo.some (E.cmp (CO.ne) (E.idx (E.idx (E.v 13) (E.c (D.int 1))) (E.c (D.int 0))) (E.c (D.int 0))))
                      (E.v 13))
                    (Es.nil))))
              (Ss.cons
                (S.fr
                  (T.n 6)
                  (I.rng (E.c (D.int 3)))
                  (Ss.cons
                    (S.par
                      7
                      8
                      (E.call
                        131
                        (Es.cons
                          (E.v 1)
                          (Es.cons (E.bin (BO.add) (E.bf (BF.len) (Es.cons (E.v 5) (Es.nil))) (E.c (D.int 1))) (Es.nil))))
                      (E.call
                        132
                        (Es.cons
                          (E.v 1)
                          (Es.cons
                            (E.bf (BF.list) (Es.cons (E.c (D.str [120, 32, 121, 43, 45, 42, 94, 48, 49, 56, 57, 58, 40, 41, 122])) (Es.nil)))
                            (Es.nil)))))
                    (Ss.cons
                      (S.asg (T.n 9) (E.call 131 (Es.cons (E.v 1) (Es.cons (E.c (D.int 3)) (Es.nil)))))
                      (Ss.cons
                        (S.asg
                          (T.n 10)
                          (E.bin
                            (BO.add)
                            (E.bin
                              (BO.add)
                              (E.slc (E.v 5) (Eo.none) (Eo.some (E.v 7)))
                              (E.ite (E.cmp (CO.gt) (E.v 9) (E.c (D.int 0))) (E.v 8) (E.c (D.str []))))
                            (E.slc
                              (E.v 5)
                              (Eo.some
                                (E.bin
                                  (BO.add)
                                  (E.v 7)
                                  (E.ite (E.cmp (CO.lt) (E.v 9) (E.c (D.int 2))) (E.c (D.int 1)) (E.c (D.int 0)))))
                              (Eo.none))))
                        (Ss.cons
                          (S.ite
                            (E.cmp
                              (CO.ne)
                              (E.call 96 (Es.cons (E.c (D.str [115, 117, 114, 102, 97, 99, 101])) (Es.cons (E.v 10) (Es.nil))))
                              (E.call
                                136
                                (Es.cons (E.v 10) (Es.cons (E.c (D.str [120, 121])) (Es.cons (E.c (D.int 4)) (Es.nil))))))
                            (Ss.cons (S.ret (E.c (D.bl false))) (Ss.nil))
                            (Ss.nil))
                          (Ss.cons
                            (S.ite
                              (E.cmp
                                (CO.ne)
                                (E.call 96 (Es.cons (E.c (D.str [108, 105, 110, 101])) (Es.cons (E.v 10) (Es.nil))))
                                (E.call 136 (Es.cons (E.v 10) (Es.cons (E.c (D.str [120])) (Es.cons (E.c (D.int 8)) (Es.nil))))))
                              (Ss.cons (S.ret (E.c (D.bl false))) (Ss.nil))
                              (Ss.nil))
                            (Ss.nil)))))))
                (Ss.nil)))))))
    (Ss.cons
      (S.asg
        (T.n 11)
        (E.lst
          false
          (Es.cons
            (E.tup (Es.cons (E.c (D.str [])) (Es.cons (E.c (D.int 0)) (Es.nil))))
            (Es.cons
              (E.tup (Es.cons (E.c (D.str [120, 43])) (Es.cons (E.c (D.int 2)) (Es.nil))))
              (Es.cons
                (E.tup (Es.cons (E.c (D.str [120, 94, 57])) (Es.cons (E.c (D.int 2)) (Es.nil))))
                (Es.cons
                  (E.tup (Es.cons (E.c (D.str [50, 120])) (Es.cons (E.c (D.int 1)) (Es.nil))))
                  (Es.cons
                    (E.tup (Es.cons (E.c (D.str [45, 45, 120])) (Es.cons (E.c (D.int 1)) (Es.nil))))
                    (Es.cons
                      (E.tup (Es.cons (E.c (D.str [49, 48, 48, 48, 48, 48, 49])) (Es.cons (E.c (D.int 6)) (Es.nil))))
                      (Es.cons
                        (E.tup (Es.cons (E.c (D.str [120, 94])) (Es.cons (E.c (D.int 2)) (Es.nil))))
                        (Es.cons
                          (E.tup (Es.cons (E.c (D.str [120, 32, 94, 32, 50, 32, 42, 32, 51])) (Es.cons (E.c (D.non)) (Es.nil))))
                          (Es.cons
                            (E.tup (Es.cons (E.c (D.str [120, 94, 50, 94, 50])) (Es.cons (E.c (D.int 3)) (Es.nil))))
                            (Es.nil))))))))))))
      (Ss.cons
        (S.asg
          (T.n 11)
          (E.bin
            (BO.add)
            (E.v 11)
            (E.lst
              false
              (Es.cons
                (E.tup (Es.cons (E.c (D.str [120, 94, 48, 56])) (Es.cons (E.c (D.int 3)) (Es.nil))))
                (Es.cons
                  (E.tup (Es.cons (E.c (D.str [51, 42])) (Es.cons (E.c (D.int 2)) (Es.nil))))
                  (Es.cons (E.tup (Es.cons (E.c (D.str [120, 120])) (Es.cons (E.c (D.int 1)) (Es.nil)))) (Es.nil)))))))
        (Ss.cons
          (S.ite
            (E.cmp
              (CO.ne)
              (E.lc
                [3]
                (T.n 3)
                (I.of (E.v 11))
                (Eo.some
                  (E.cmp
                    (CO.ne)
                    (E.call
                      136
                      (Es.cons
                        (E.idx (E.v 3) (E.c (D.int 0)))
                        (Es.cons (E.c (D.str [120])) (Es.cons (E.c (D.int 8)) (Es.nil)))))
                    (E.idx (E.v 3) (E.c (D.int 1)))))
                (E.v 3))
              (E.lst false (Es.nil)))
            (Ss.cons (S.ret (E.c (D.bl false))) (Ss.nil))
            (Ss.nil))
          (Ss.cons
            (S.asg
              (T.n 12)
              (E.lst
                false
                (Es.cons
                  (E.tup (Es.cons (E.c (D.str [120, 94, 56, 42, 120])) (Es.cons (E.c (D.non)) (Es.nil))))
                  (Es.cons
                    (E.tup (Es.cons (E.c (D.str [49, 48, 48, 48, 42, 49, 48, 48, 49])) (Es.cons (E.c (D.non)) (Es.nil))))
                    (Es.cons
                      (E.tup (Es.cons (E.c (D.str [49, 48, 48, 48, 48, 48, 48, 42, 120, 43, 120])) (Es.cons (E.c (D.non)) (Es.nil))))
                      (Es.cons
                        (E.tup (Es.cons (E.c (D.str [120, 94, 56, 42, 120, 43])) (Es.cons (E.c (D.int 6)) (Es.nil))))
                        (Es.nil)))))))
            (Ss.cons
              (S.ite
                (E.cmp
                  (CO.ne)
                  (E.lc
                    [3]
                    (T.n 3)
                    (I.of (E.bin (BO.add) (E.v 11) (E.v 12)))
                    (Eo.some
                      (E.cmp
                        (CO.ne)
                        (E.call
                          96
                          (Es.cons (E.c (D.str [108, 105, 110, 101])) (Es.cons (E.idx (E.v 3) (E.c (D.int 0))) (Es.nil))))
                        (E.idx (E.v 3) (E.c (D.int 1)))))
                    (E.v 3))
                  (E.lst false (Es.nil)))
                (Ss.cons (S.ret (E.c (D.bl false))) (Ss.nil))
                (Ss.nil))
              (Ss.cons
                (S.asg
                  (T.n 11)
                  (E.lst
                    false
                    (Es.cons
                      (E.tup (Es.cons (E.c (D.str [49, 48, 48, 48, 48, 48, 49])) (Es.cons (E.c (D.int 6)) (Es.nil))))
                      (Es.cons
                        (E.tup (Es.cons (E.c (D.str [50, 48, 48, 48, 48, 48, 48, 42, 121])) (Es.cons (E.c (D.int 6)) (Es.nil))))
                        (Es.cons
                          (E.tup (Es.cons (E.c (D.str [49, 48, 48, 48, 48, 48, 48, 42, 121])) (Es.cons (E.c (D.non)) (Es.nil))))
                          (Es.cons
                            (E.tup (Es.cons (E.c (D.str [121, 94, 53])) (Es.cons (E.c (D.int 2)) (Es.nil))))
                            (Es.cons
                              (E.tup (Es.cons (E.c (D.str [120, 94, 52, 42, 121, 94, 52])) (Es.cons (E.c (D.non)) (Es.nil))))
                              (Es.cons
                                (E.tup
                                  (Es.cons (E.c (D.str [49, 48, 48, 48, 42, 49, 48, 48, 49, 42, 121])) (Es.cons (E.c (D.non)) (Es.nil))))
                                (Es.nil)))))))))
                (Ss.cons
                  (S.ite
                    (E.cmp
                      (CO.ne)
                      (E.lc
                        [3]
                        (T.n 3)
                        (I.of (E.v 11))
                        (Eo.some
                          (E.cmp
                            (CO.ne)
                            (E.call
                              136
                              (Es.cons
                                (E.idx (E.v 3) (E.c (D.int 0)))
                                (Es.cons (E.c (D.str [120, 121])) (Es.cons (E.c (D.int 4)) (Es.nil)))))
                            (E.idx (E.v 3) (E.c (D.int 1)))))
                        (E.v 3))
                      (E.lst false (Es.nil)))
                    (Ss.cons (S.ret (E.c (D.bl false))) (Ss.nil))
                    (Ss.nil))
                  (Ss.cons
                    (S.ret
                      (E.cmp
                        (CO.eq)
                        (E.lc
                          [3]
                          (T.n 3)
                          (I.of (E.v 11))
                          (Eo.some
                            (E.cmp
                              (CO.ne)
                              (E.call
                                96
                                (Es.cons
                                  (E.c (D.str [115, 117, 114, 102, 97, 99, 101]))
                                  (Es.cons (E.idx (E.v 3) (E.c (D.int 0))) (Es.nil))))
                              (E.idx (E.v 3) (E.c (D.int 1)))))
                          (E.v 3))
                        (E.lst false (Es.nil))))
                    (Ss.nil))))))))))⟩
end PVL
set_option linter.all false
/-! More defs, as the evaluator has them: k74, k75. Printed by P77.lean (with K74, K75). -/
namespace PVL
open PV
/-- number_text -/
def f48 : Fn := ⟨1, 1,
  Ss.cons
  (S.ret
    (E.bin
      (BO.add)
      (E.bf (BF.str) (Es.cons (E.idx (E.v 0) (E.c (D.int 0))) (Es.nil)))
      (E.ite
        (E.cmp (CO.ne) (E.idx (E.v 0) (E.c (D.int 1))) (E.c (D.int 1)))
        (E.bin (BO.add) (E.c (D.str [58])) (E.bf (BF.str) (Es.cons (E.idx (E.v 0) (E.c (D.int 1))) (Es.nil))))
        (E.c (D.str [])))))
  (Ss.nil)⟩
/-- unknown_text -/
def f49 : Fn := ⟨2, 2,
  Ss.cons
  (S.ret
    (E.ite
      (E.cmp (CO.gt) (E.v 1) (E.c (D.int 0)))
      (E.lst
        false
        (Es.cons
          (E.bin
            (BO.add)
            (E.v 0)
            (E.ite
              (E.cmp (CO.gt) (E.v 1) (E.c (D.int 1)))
              (E.bin (BO.add) (E.c (D.str [94])) (E.bf (BF.str) (Es.cons (E.v 1) (Es.nil))))
              (E.c (D.str []))))
          (Es.nil)))
      (E.lst false (Es.nil))))
  (Ss.nil)⟩
/-- term_text -/
def f50 : Fn := ⟨2, 4,
  Ss.cons
  (S.asg
    (T.n 2)
    (E.bin
      (BO.add)
      (E.call 49 (Es.cons (E.c (D.str [120])) (Es.cons (E.idx (E.v 0) (E.c (D.int 0))) (Es.nil))))
      (E.call 49 (Es.cons (E.c (D.str [121])) (Es.cons (E.idx (E.v 0) (E.c (D.int 1))) (Es.nil))))))
  (Ss.cons
    (S.asg
      (T.n 3)
      (E.tup
        (Es.cons
          (E.bf (BF.abs) (Es.cons (E.idx (E.v 1) (E.c (D.int 0))) (Es.nil)))
          (Es.cons (E.idx (E.v 1) (E.c (D.int 1))) (Es.nil)))))
    (Ss.cons
      (S.ret
        (E.mt
          (MF.join)
          (E.c (D.str [42]))
          (Es.cons
            (E.bin
              (BO.add)
              (E.ite
                (E.or
                  (E.cmp (CO.ne) (E.v 3) (E.c (D.tup true [D.int 1, D.int 1])))
                  (E.cmp (CO.eq) (E.v 2) (E.lst false (Es.nil))))
                (E.lst false (Es.cons (E.call 48 (Es.cons (E.v 3) (Es.nil))) (Es.nil)))
                (E.lst false (Es.nil)))
              (E.v 2))
            (Es.nil))))
      (Ss.nil)))⟩
/-- sum_text -/
def f51 : Fn := ⟨1, 5,
  Ss.cons
  (S.asg (T.n 1) (E.c (D.str [])))
  (Ss.cons
    (S.fr
      (T.t2 (T.n 2) (T.n 3))
      (I.of (E.srtS (E.v 0)))
      (Ss.cons
        (S.asg
          (T.n 4)
          (E.ite
            (E.cmp (CO.lt) (E.idx (E.v 3) (E.c (D.int 0))) (E.c (D.int 0)))
            (E.c (D.str [45]))
            (E.ite (E.cmp (CO.ne) (E.v 1) (E.c (D.str []))) (E.c (D.str [43])) (E.c (D.str [])))))
        (Ss.cons
          (S.asg
            (T.n 1)
            (E.bin (BO.add) (E.bin (BO.add) (E.v 1) (E.v 4)) (E.call 50 (Es.cons (E.v 2) (Es.cons (E.v 3) (Es.nil))))))
          (Ss.nil))))
    (Ss.cons (S.ret (E.ite (E.cmp (CO.ne) (E.v 1) (E.c (D.str []))) (E.v 1) (E.c (D.str [48])))) (Ss.nil)))⟩
/-- row_of_line -/
def f52 : Fn := ⟨1, 3,
  Ss.cons
  (S.ret
    (E.lc
      [1, 2]
      (T.t2 (T.n 1) (T.n 2))
      (I.enum (E.v 0))
      (Eo.some (E.cmp (CO.ne) (E.v 2) (E.c (D.int 0))))
      (E.tup
        (Es.cons
          (E.tup (Es.cons (E.v 1) (Es.cons (E.c (D.int 0)) (Es.nil))))
          (Es.cons (E.tup (Es.cons (E.v 2) (Es.cons (E.c (D.int 1)) (Es.nil)))) (Es.nil))))))
  (Ss.nil)⟩
/-- write_line -/
def f53 : Fn := ⟨1, 1,
  Ss.cons
  (S.ex (E.call 107 (Es.cons (E.v 0) (Es.nil))))
  (Ss.cons (S.ret (E.call 51 (Es.cons (E.call 52 (Es.cons (E.v 0) (Es.nil))) (Es.nil)))) (Ss.nil))⟩
/-- read_line -/
def f54 : Fn := ⟨1, 3,
  Ss.cons
  (S.ex (E.call 37 (Es.cons (E.v 0) (Es.nil))))
  (Ss.cons
    (S.asg (T.t2 (T.n 1) (T.n 2)) (E.call 46 (Es.cons (E.v 0) (Es.cons (E.c (D.int 0)) (Es.nil)))))
    (Ss.cons
      (S.ex (E.call 36 (Es.cons (E.v 0) (Es.cons (E.v 2) (Es.nil)))))
      (Ss.cons
        (S.ite
          (E.not (E.call 104 (Es.cons (E.v 1) (Es.nil))))
          (Ss.cons (S.rse 4 (E.c (D.str [110, 111, 116, 32, 97, 32, 108, 105, 110, 101]))) (Ss.nil))
          (Ss.nil))
        (Ss.cons (S.ret (E.v 1)) (Ss.nil)))))⟩
/-- is_tuple_of -/
def f100 : Fn := ⟨3, 3,
  Ss.cons
  (S.ret
    (E.and
      (E.bf (BF.isinst (Ty.tuple)) (Es.cons (E.v 0) (Es.nil)))
      (E.cmp2 (CO.le) (CO.le) (E.v 1) (E.bf (BF.len) (Es.cons (E.v 0) (Es.nil))) (E.v 2))))
  (Ss.nil)⟩
/-- is_whole -/
def f102 : Fn := ⟨3, 3,
  Ss.cons
  (S.ret
    (E.and
      (E.bf (BF.isinst (Ty.int)) (Es.cons (E.v 0) (Es.nil)))
      (E.and
        (E.not (E.bf (BF.isinst (Ty.bool)) (Es.cons (E.v 0) (Es.nil))))
        (E.cmp2 (CO.le) (CO.le) (E.v 1) (E.v 0) (E.v 2)))))
  (Ss.nil)⟩
/-- fits_line -/
def f104 : Fn := ⟨1, 2,
  Ss.cons
  (S.ite
    (E.or
      (E.not
        (E.call
          100
          (Es.cons
            (E.v 0)
            (Es.cons (E.c (D.int 0)) (Es.cons (E.bin (BO.add) (E.c (D.int 8)) (E.c (D.int 1))) (Es.nil))))))
      (E.not
        (E.bf
          (BF.all)
          (Es.cons
            (E.lc
              [1]
              (T.n 1)
              (I.of (E.v 0))
              (Eo.none)
              (E.call 102 (Es.cons (E.v 1) (Es.cons (E.neg (E.c (D.int 1000000))) (Es.cons (E.c (D.int 1000000)) (Es.nil))))))
            (Es.nil)))))
    (Ss.cons (S.ret (E.c (D.bl false))) (Ss.nil))
    (Ss.nil))
  (Ss.cons
    (S.ret
      (E.or
        (E.cmp (CO.eq) (E.v 0) (E.tup (Es.nil)))
        (E.cmp (CO.ne) (E.idx (E.v 0) (E.neg (E.c (D.int 1)))) (E.c (D.int 0)))))
    (Ss.nil))⟩
/-- need_line -/
def f107 : Fn := ⟨1, 1,
  Ss.cons
  (S.ite
    (E.not (E.call 104 (Es.cons (E.v 0) (Es.nil))))
    (Ss.cons (S.rse 4 (E.c (D.str [110, 111, 116, 32, 97, 32, 108, 105, 110, 101]))) (Ss.nil))
    (Ss.nil))
  (Ss.nil)⟩
/-- _law_text_of -/
def f138 : Fn := ⟨2, 11,
  Ss.cons
  (S.asg (T.n 2) (E.c (D.str [])))
  (Ss.cons
    (S.fr
      (T.t2 (T.n 3) (T.n 4))
      (I.of (E.v 1))
      (Ss.cons
        (S.par 5 6 (E.lst false (Es.nil)) (E.v 3))
        (Ss.cons
          (S.wh
            (E.cmp (CO.gt) (E.v 6) (E.c (D.int 0)))
            (Ss.cons
              (S.asg (T.n 7) (E.bin (BO.add) (E.c (D.int 1)) (E.call 131 (Es.cons (E.v 0) (Es.cons (E.v 6) (Es.nil))))))
              (Ss.cons
                (S.asg
                  (T.n 8)
                  (E.call
                    132
                    (Es.cons
                      (E.v 0)
                      (Es.cons
                        (E.bin
                          (BO.add)
                          (E.lst
                            false
                            (Es.cons
                              (E.bin (BO.add) (E.c (D.str [94])) (E.bf (BF.str) (Es.cons (E.v 7) (Es.nil))))
                              (Es.cons
                                (E.bin (BO.add) (E.c (D.str [32, 94, 32])) (E.bf (BF.str) (Es.cons (E.v 7) (Es.nil))))
                                (Es.nil))))
                          (E.ite
                            (E.cmp (CO.eq) (E.v 7) (E.c (D.int 1)))
                            (E.lst false (Es.cons (E.c (D.str [])) (Es.nil)))
                            (E.lst false (Es.nil))))
                        (Es.nil)))))
                (Ss.cons
                  (S.par
                    5
                    6
                    (E.bin (BO.add) (E.v 5) (E.lst false (Es.cons (E.bin (BO.add) (E.c (D.str [120])) (E.v 8)) (Es.nil))))
                    (E.bin (BO.sub) (E.v 6) (E.v 7)))
                  (Ss.nil)))))
          (Ss.cons
            (S.ite
              (E.or
                (E.cmp (CO.ne) (E.bf (BF.abs) (Es.cons (E.v 4) (Es.nil))) (E.c (D.int 1)))
                (E.or
                  (E.cmp (CO.eq) (E.v 5) (E.lst false (Es.nil)))
                  (E.cmp (CO.eq) (E.call 131 (Es.cons (E.v 0) (Es.cons (E.c (D.int 3)) (Es.nil)))) (E.c (D.int 0)))))
              (Ss.cons
                (S.asg
                  (T.n 9)
                  (E.call
                    131
                    (Es.cons
                      (E.v 0)
                      (Es.cons (E.bin (BO.add) (E.bf (BF.len) (Es.cons (E.v 5) (Es.nil))) (E.c (D.int 1))) (Es.nil)))))
                (Ss.cons
                  (S.asg
                    (T.n 5)
                    (E.bin
                      (BO.add)
                      (E.bin
                        (BO.add)
                        (E.slc (E.v 5) (Eo.none) (Eo.some (E.v 9)))
                        (E.lst
                          false
                          (Es.cons (E.bf (BF.str) (Es.cons (E.bf (BF.abs) (Es.cons (E.v 4) (Es.nil))) (Es.nil))) (Es.nil))))
                      (E.slc (E.v 5) (Eo.some (E.v 9)) (Eo.none))))
                  (Ss.nil)))
              (Ss.nil))
            (Ss.cons
              (S.asg
                (T.n 10)
                (E.ite
                  (E.cmp (CO.lt) (E.v 4) (E.c (D.int 0)))
                  (E.c (D.str [45]))
                  (E.ite (E.cmp (CO.ne) (E.v 2) (E.c (D.str []))) (E.c (D.str [43])) (E.c (D.str [])))))
              (Ss.cons
                (S.asg
                  (T.n 2)
                  (E.bin
                    (BO.add)
                    (E.bin
                      (BO.add)
                      (E.bin
                        (BO.add)
                        (E.v 2)
                        (E.call
                          132
                          (Es.cons
                            (E.v 0)
                            (Es.cons (E.lst false (Es.cons (E.c (D.str [])) (Es.cons (E.c (D.str [32])) (Es.nil)))) (Es.nil)))))
                      (E.v 10))
                    (E.call
                      132
                      (Es.cons
                        (E.v 0)
                        (Es.cons (E.lst false (Es.cons (E.c (D.str [])) (Es.cons (E.c (D.str [32])) (Es.nil)))) (Es.nil))))))
                (Ss.cons
                  (S.asg
                    (T.n 2)
                    (E.bin
                      (BO.add)
                      (E.v 2)
                      (E.mt
                        (MF.join)
                        (E.call
                          132
                          (Es.cons
                            (E.v 0)
                            (Es.cons
                              (E.lst false (Es.cons (E.c (D.str [42])) (Es.cons (E.c (D.str [32, 42, 32])) (Es.nil))))
                              (Es.nil))))
                        (Es.cons (E.v 5) (Es.nil)))))
                  (Ss.nil))))))))
    (Ss.cons (S.ret (E.v 2)) (Ss.nil)))⟩
/-- write_surface -/
def f55 : Fn := ⟨1, 3,
  Ss.cons
  (S.ex (E.call 108 (Es.cons (E.v 0) (Es.nil))))
  (Ss.cons
    (S.ret
      (E.call
        51
        (Es.cons
          (E.lc
            [1, 2]
            (T.t2 (T.n 1) (T.n 2))
            (I.of (E.v 0))
            (Eo.none)
            (E.tup (Es.cons (E.v 1) (Es.cons (E.tup (Es.cons (E.v 2) (Es.cons (E.c (D.int 1)) (Es.nil)))) (Es.nil)))))
          (Es.nil))))
    (Ss.nil))⟩
/-- read_surface -/
def f56 : Fn := ⟨1, 3,
  Ss.cons
  (S.ex (E.call 37 (Es.cons (E.v 0) (Es.nil))))
  (Ss.cons
    (S.asg (T.t2 (T.n 1) (T.n 2)) (E.call 47 (Es.cons (E.v 0) (Es.cons (E.c (D.int 0)) (Es.nil)))))
    (Ss.cons
      (S.ex (E.call 36 (Es.cons (E.v 0) (Es.cons (E.v 2) (Es.nil)))))
      (Ss.cons
        (S.ite
          (E.not (E.call 106 (Es.cons (E.v 1) (Es.nil))))
          (Ss.cons (S.rse 5 (E.c (D.str [110, 111, 116, 32, 97, 32, 115, 117, 114, 102, 97, 99, 101]))) (Ss.nil))
          (Ss.nil))
        (Ss.cons (S.ret (E.v 1)) (Ss.nil)))))⟩
/-- is_ascending -/
def f103 : Fn := ⟨1, 3,
  Ss.cons
  (S.ret
    (E.bf
      (BF.all)
      (Es.cons
        (E.lc
          [1, 2]
          (T.t2 (T.n 1) (T.n 2))
          (I.zip (E.v 0) (E.slc (E.v 0) (Eo.some (E.c (D.int 1))) (Eo.none)))
          (Eo.none)
          (E.cmp (CO.lt) (E.v 1) (E.v 2)))
        (Es.nil))))
  (Ss.nil)⟩
/-- fits_term -/
def f105 : Fn := ⟨1, 2,
  Ss.cons
  (S.ite
    (E.or
      (E.not (E.call 100 (Es.cons (E.v 0) (Es.cons (E.c (D.int 2)) (Es.cons (E.c (D.int 2)) (Es.nil))))))
      (E.not
        (E.call
          100
          (Es.cons (E.idx (E.v 0) (E.c (D.int 0))) (Es.cons (E.c (D.int 2)) (Es.cons (E.c (D.int 2)) (Es.nil)))))))
    (Ss.cons (S.ret (E.c (D.bl false))) (Ss.nil))
    (Ss.nil))
  (Ss.cons
    (S.ite
      (E.or
        (E.not
          (E.bf
            (BF.all)
            (Es.cons
              (E.lc
                [1]
                (T.n 1)
                (I.of (E.idx (E.v 0) (E.c (D.int 0))))
                (Eo.none)
                (E.call 102 (Es.cons (E.v 1) (Es.cons (E.c (D.int 0)) (Es.cons (E.c (D.int 4)) (Es.nil))))))
              (Es.nil))))
        (E.cmp
          (CO.gt)
          (E.bin
            (BO.add)
            (E.idx (E.idx (E.v 0) (E.c (D.int 0))) (E.c (D.int 0)))
            (E.idx (E.idx (E.v 0) (E.c (D.int 0))) (E.c (D.int 1))))
          (E.c (D.int 4))))
      (Ss.cons (S.ret (E.c (D.bl false))) (Ss.nil))
      (Ss.nil))
    (Ss.cons
      (S.ret
        (E.and
          (E.call
            102
            (Es.cons
              (E.idx (E.v 0) (E.c (D.int 1)))
              (Es.cons (E.neg (E.c (D.int 1000000))) (Es.cons (E.c (D.int 1000000)) (Es.nil)))))
          (E.cmp (CO.ne) (E.idx (E.v 0) (E.c (D.int 1))) (E.c (D.int 0)))))
      (Ss.nil)))⟩
/-- fits_surface -/
def f106 : Fn := ⟨1, 2,
  Ss.cons
  (S.ite
    (E.or
      (E.not (E.call 100 (Es.cons (E.v 0) (Es.cons (E.c (D.int 0)) (Es.cons (E.c (D.int 15)) (Es.nil))))))
      (E.not
        (E.bf
          (BF.all)
          (Es.cons (E.lc [1] (T.n 1) (I.of (E.v 0)) (Eo.none) (E.call 105 (Es.cons (E.v 1) (Es.nil)))) (Es.nil)))))
    (Ss.cons (S.ret (E.c (D.bl false))) (Ss.nil))
    (Ss.nil))
  (Ss.cons
    (S.ret
      (E.call
        103
        (Es.cons
          (E.bf
            (BF.tuple)
            (Es.cons (E.lc [1] (T.n 1) (I.of (E.v 0)) (Eo.none) (E.idx (E.v 1) (E.c (D.int 0)))) (Es.nil)))
          (Es.nil))))
    (Ss.nil))⟩
/-- need_surface -/
def f108 : Fn := ⟨1, 1,
  Ss.cons
  (S.ite
    (E.not (E.call 106 (Es.cons (E.v 0) (Es.nil))))
    (Ss.cons (S.rse 5 (E.c (D.str [110, 111, 116, 32, 97, 32, 115, 117, 114, 102, 97, 99, 101]))) (Ss.nil))
    (Ss.nil))
  (Ss.nil)⟩
/-- law -/
def f137a : Fn := ⟨1, 13,
  Ss.cons
  (S.asg (T.n 1) (E.call 130 (Es.cons (E.v 0) (Es.nil))))
  (Ss.cons
    (S.fr
      (T.n 2)
      (I.rng (E.c (D.int 4)))
      (Ss.cons
        (S.par 3 4 (E.lst false (Es.nil)) (E.rep true (E.lst false (Es.cons (E.c (D.int 0)) (Es.nil))) (E.c (D.int 9))))
        (Ss.cons
          (S.fr
            (T.n 5)
            (I.rng (E.bin (BO.add) (E.c (D.int 1)) (E.call 131 (Es.cons (E.v 1) (Es.cons (E.c (D.int 6)) (Es.nil))))))
            (Ss.cons
              (S.par
                6
                7
                (E.call 131 (Es.cons (E.v 1) (Es.cons (E.c (D.int 9)) (Es.nil))))
                (E.call
                  132
                  (Es.cons
                    (E.v 1)
                    (Es.cons
                      (E.lst
                        false
                        (Es.cons
                          (E.c (D.int 1))
                          (Es.cons
                            (E.neg (E.c (D.int 1)))
                            (Es.cons
                              (E.c (D.int 0))
                              (Es.cons
                                (E.bin
                                  (BO.sub)
                                  (E.call 131 (Es.cons (E.v 1) (Es.cons (E.c (D.int 200)) (Es.nil))))
                                  (E.c (D.int 100)))
                                (Es.cons (E.c (D.int 100000)) (Es.nil)))))))
                      (Es.nil)))))
              (Ss.cons
                (S.asg
                  (T.n 3)
                  (E.bin
                    (BO.add)
                    (E.v 3)
                    (E.lst false (Es.cons (E.tup (Es.cons (E.v 6) (Es.cons (E.v 7) (Es.nil)))) (Es.nil)))))
                (Ss.cons (S.sub (E.v 4) (E.v 6) (E.bin (BO.add) (E.idx (E.v 4) (E.v 6)) (E.v 7))) (Ss.nil)))))
          (Ss.cons
            (S.fz 4)
            (Ss.cons
              (S.wh
                (E.and
                  (E.cmp (CO.ne) (E.v 4) (E.lst false (Es.nil)))
                  (E.cmp (CO.eq) (E.idx (E.v 4) (E.neg (E.c (D.int 1)))) (E.c (D.int 0))))
                (Ss.cons (S.asg (T.n 4) (E.slc (E.v 4) (Eo.none) (Eo.some (E.neg (E.c (D.int 1)))))) (Ss.nil)))
              (Ss.cons
                (S.asg (T.n 8) (E.call 138 (Es.cons (E.v 1) (Es.cons (E.v 3) (Es.nil)))))
                (Ss.cons
                  (S.ite
                    (E.or
                      (E.cmp (CO.ne) (E.call 54 (Es.cons (E.v 8) (Es.nil))) (E.bf (BF.tuple) (Es.cons (E.v 4) (Es.nil))))
                      (E.cmp
                        (CO.isnot)
                        (E.call 96 (Es.cons (E.c (D.str [108, 105, 110, 101])) (Es.cons (E.v 8) (Es.nil))))
                        (E.c (D.non))))
                    (Ss.cons (S.ret (E.c (D.bl false))) (Ss.nil))
                    (Ss.nil))
                  (Ss.cons
                    (S.asg
                      (T.n 9)
                      (E.call
                        135
                        (Es.cons
                          (E.lc
                            [12, 7]
                            (T.t2 (T.n 12) (T.n 7))
                            (I.enum (E.v 4))
                            (Eo.some (E.cmp (CO.ne) (E.v 7) (E.c (D.int 0))))
                            (E.tup
                              (Es.cons
                                (E.tup (Es.cons (E.v 12) (Es.cons (E.c (D.int 0)) (Es.nil))))
                                (Es.cons (E.tup (Es.cons (E.v 7) (Es.cons (E.c (D.int 1)) (Es.nil)))) (Es.nil)))))
                          (Es.nil))))
                    (Ss.cons
                      (S.ite
                        (E.or
                          (E.cmp (CO.ne) (E.call 53 (Es.cons (E.bf (BF.tuple) (Es.cons (E.v 4) (Es.nil))) (Es.nil))) (E.v 9))
                          (E.cmp (CO.ne) (E.call 54 (Es.cons (E.v 9) (Es.nil))) (E.bf (BF.tuple) (Es.cons (E.v 4) (Es.nil)))))
                        (Ss.cons (S.ret (E.c (D.bl false))) (Ss.nil))
                        (Ss.nil))
                      (Ss.nil))))))))))
    (Ss.cons
      (S.asg
        (T.n 10)
        (E.lst
          true
          (Es.cons
            (E.tup (Es.cons (E.tup (Es.nil)) (Es.cons (E.c (D.str [48])) (Es.nil))))
            (Es.cons
              (E.tup (Es.cons (E.tup (Es.cons (E.c (D.int 5)) (Es.nil))) (Es.cons (E.c (D.str [53])) (Es.nil))))
              (Es.cons
                (E.tup
                  (Es.cons
                    (E.tup (Es.cons (E.neg (E.c (D.int 1))) (Es.cons (E.c (D.int 1)) (Es.nil))))
                    (Es.cons (E.c (D.str [120, 45, 49])) (Es.nil))))
                (Es.cons
                  (E.tup
                    (Es.cons
                      (E.tup (Es.cons (E.c (D.int 0)) (Es.cons (E.neg (E.c (D.int 1))) (Es.nil))))
                      (Es.cons (E.c (D.str [45, 120])) (Es.nil))))
                  (Es.cons
                    (E.tup
                      (Es.cons
                        (E.tup
                          (Es.cons (E.neg (E.c (D.int 2))) (Es.cons (E.c (D.int 0)) (Es.cons (E.c (D.int 1)) (Es.nil)))))
                        (Es.cons (E.c (D.str [120, 94, 50, 45, 50])) (Es.nil))))
                    (Es.cons
                      (E.tup
                        (Es.cons
                          (E.tup
                            (Es.cons
                              (E.c (D.int 0))
                              (Es.cons (E.c (D.int 0)) (Es.cons (E.c (D.int 0)) (Es.cons (E.c (D.int 12)) (Es.nil))))))
                          (Es.cons (E.c (D.str [49, 50, 42, 120, 94, 51])) (Es.nil))))
                      (Es.nil)))))))))
      (Ss.cons
        (S.ex
          (E.mt
            (MF.append)
            (E.v 10)
            (Es.cons
              (E.tup
                (Es.cons
                  (E.tup
                    (Es.cons
                      (E.c (D.int 1))
                      (Es.cons
                        (E.neg (E.c (D.int 7)))
                        (Es.cons (E.c (D.int 0)) (Es.cons (E.neg (E.c (D.int 1))) (Es.nil))))))
                  (Es.cons (E.c (D.str [45, 120, 94, 51, 45, 55, 42, 120, 43, 49])) (Es.nil))))
              (Es.nil))))
        (Ss.cons
          (S.fz 10)
          (Ss.cons
            (S.ite
              (E.cmp
                (CO.ne)
                (E.lc
                  [11]
                  (T.n 11)
                  (I.of (E.v 10))
                  (Eo.some
                    (E.or
                      (E.cmp
                        (CO.ne)
                        (E.call 53 (Es.cons (E.idx (E.v 11) (E.c (D.int 0))) (Es.nil)))
                        (E.idx (E.v 11) (E.c (D.int 1))))
                      (E.cmp
                        (CO.ne)
                        (E.call 54 (Es.cons (E.idx (E.v 11) (E.c (D.int 1))) (Es.nil)))
                        (E.idx (E.v 11) (E.c (D.int 0))))))
                  (E.v 11))
                (E.lst false (Es.nil)))
              (Ss.cons (S.ret (E.c (D.bl false))) (Ss.nil))
              (Ss.nil))
            (Ss.cons
              (S.asg
                (T.n 10)
                (E.lst
                  true
                  (Es.cons
                    (E.tup
                      (Es.cons
                        (E.c (D.str [120, 94, 56, 42, 120, 45, 120, 42, 120, 94, 56, 43, 51]))
                        (Es.cons (E.tup (Es.cons (E.c (D.int 3)) (Es.nil))) (Es.nil))))
                    (Es.cons
                      (E.tup
                        (Es.cons
                          (E.c (D.str [57, 48, 48, 48, 48, 48, 43, 57, 48, 48, 48, 48, 48, 45, 57, 48, 48, 48, 48, 48]))
                          (Es.cons (E.tup (Es.cons (E.c (D.int 900000)) (Es.nil))) (Es.nil))))
                      (Es.cons
                        (E.tup (Es.cons (E.c (D.str [48, 42, 120, 94, 56, 42, 120])) (Es.cons (E.tup (Es.nil)) (Es.nil))))
                        (Es.cons
                          (E.tup
                            (Es.cons
                              (E.c (D.str [49, 48, 48, 48, 48, 48, 48]))
                              (Es.cons (E.tup (Es.cons (E.c (D.int 1000000)) (Es.nil))) (Es.nil))))
                          (Es.cons
                            (E.tup
                              (Es.cons
                                (E.c (D.str [50, 42, 51, 42, 120, 42, 52]))
                                (Es.cons (E.tup (Es.cons (E.c (D.int 0)) (Es.cons (E.c (D.int 24)) (Es.nil)))) (Es.nil))))
                            (Es.nil))))))))
              (Ss.cons
                (S.fz 10)
                (Ss.cons
                  (S.ite
                    (E.cmp
                      (CO.ne)
                      (E.lc
                        [11]
                        (T.n 11)
                        (I.of (E.v 10))
                        (Eo.some
                          (E.cmp
                            (CO.ne)
                            (E.call 54 (Es.cons (E.idx (E.v 11) (E.c (D.int 0))) (Es.nil)))
                            (E.idx (E.v 11) (E.c (D.int 1)))))
                        (E.v 11))
                      (E.lst false (Es.nil)))
                    (Ss.cons (S.ret (E.c (D.bl false))) (Ss.nil))
                    (Ss.nil))
                  (Ss.cons
                    (S.ret
                      (E.and
                        (E.cmp
                          (CO.eq)
                          (E.call 54 (Es.cons (E.c (D.str [120, 42, 120, 32, 45, 32, 51, 32, 43, 32, 49])) (Es.nil)))
                          (E.tup
                            (Es.cons (E.neg (E.c (D.int 2))) (Es.cons (E.c (D.int 0)) (Es.cons (E.c (D.int 1)) (Es.nil))))))
                        (E.and
                          (E.cmp (CO.eq) (E.call 54 (Es.cons (E.c (D.str [48, 42, 120])) (Es.nil))) (E.tup (Es.nil)))
                          (E.cmp
                            (CO.eq)
                            (E.call 54 (Es.cons (E.c (D.str [45, 32, 50, 42, 51, 42, 120, 94, 48, 42, 120])) (Es.nil)))
                            (E.tup (Es.cons (E.c (D.int 0)) (Es.cons (E.neg (E.c (D.int 6))) (Es.nil))))))))
                    (Ss.nil))))))))))⟩
/-- law -/
def f137b : Fn := ⟨1, 14,
  Ss.cons
  (S.asg (T.n 1) (E.call 130 (Es.cons (E.v 0) (Es.nil))))
  (Ss.cons
    (S.fr
      (T.n 2)
      (I.rng (E.c (D.int 4)))
      (Ss.cons
        (S.asg (T.t2 (T.n 3) (T.n 4)) (E.tup (Es.cons (E.dnew true) (Es.cons (E.c (D.str [])) (Es.nil)))))
        (Ss.cons
          (S.fr
            (T.n 5)
            (I.rng (E.bin (BO.add) (E.c (D.int 1)) (E.call 131 (Es.cons (E.v 1) (Es.cons (E.c (D.int 7)) (Es.nil))))))
            (Ss.cons
              (S.asg (T.n 6) (E.call 131 (Es.cons (E.v 1) (Es.cons (E.c (D.int 5)) (Es.nil)))))
              (Ss.cons
                (S.par
                  7
                  8
                  (E.tup
                    (Es.cons
                      (E.v 6)
                      (Es.cons
                        (E.call 131 (Es.cons (E.v 1) (Es.cons (E.bin (BO.sub) (E.c (D.int 5)) (E.v 6)) (Es.nil))))
                        (Es.nil))))
                  (E.call
                    132
                    (Es.cons
                      (E.v 1)
                      (Es.cons
                        (E.lst
                          false
                          (Es.cons
                            (E.c (D.int 1))
                            (Es.cons
                              (E.neg (E.c (D.int 1)))
                              (Es.cons
                                (E.bin
                                  (BO.sub)
                                  (E.call 131 (Es.cons (E.v 1) (Es.cons (E.c (D.int 60)) (Es.nil))))
                                  (E.c (D.int 30)))
                                (Es.cons (E.c (D.int 99999)) (Es.nil))))))
                        (Es.nil)))))
                (Ss.cons
                  (S.sub
                    (E.v 3)
                    (E.v 7)
                    (E.bin (BO.add) (E.mt (MF.get2) (E.v 3) (Es.cons (E.v 7) (Es.cons (E.c (D.int 0)) (Es.nil)))) (E.v 8)))
                  (Ss.cons
                    (S.asg
                      (T.n 9)
                      (E.bin
                        (BO.add)
                        (E.bin
                          (BO.add)
                          (E.lst
                            false
                            (Es.cons (E.bf (BF.str) (Es.cons (E.bf (BF.abs) (Es.cons (E.v 8) (Es.nil))) (Es.nil))) (Es.nil)))
                          (E.rep false (E.lst false (Es.cons (E.c (D.str [120])) (Es.nil))) (E.idx (E.v 7) (E.c (D.int 0)))))
                        (E.ite
                          (E.cmp (CO.gt) (E.idx (E.v 7) (E.c (D.int 1))) (E.c (D.int 0)))
                          (E.lst
                            false
                            (Es.cons
                              (E.bin
                                (BO.add)
                                (E.c (D.str [121, 94]))
                                (E.bf (BF.str) (Es.cons (E.idx (E.v 7) (E.c (D.int 1))) (Es.nil))))
                              (Es.nil)))
                          (E.lst false (Es.nil)))))
                    (Ss.cons
                      (S.ite
                        (E.cmp (CO.eq) (E.call 131 (Es.cons (E.v 1) (Es.cons (E.c (D.int 2)) (Es.nil)))) (E.c (D.int 0)))
                        (Ss.cons (S.asg (T.n 9) (E.rev (E.v 9))) (Ss.nil))
                        (Ss.nil))
                      (Ss.cons
                        (S.asg
                          (T.n 10)
                          (E.ite
                            (E.cmp (CO.lt) (E.v 8) (E.c (D.int 0)))
                            (E.c (D.str [45]))
                            (E.ite (E.cmp (CO.ne) (E.v 4) (E.c (D.str []))) (E.c (D.str [43])) (E.c (D.str [])))))
                        (Ss.cons
                          (S.asg
                            (T.n 4)
                            (E.bin
                              (BO.add)
                              (E.bin
                                (BO.add)
                                (E.bin
                                  (BO.add)
                                  (E.bin (BO.add) (E.v 4) (E.v 10))
                                  (E.call
                                    132
                                    (Es.cons
                                      (E.v 1)
                                      (Es.cons
                                        (E.lst false (Es.cons (E.c (D.str [])) (Es.cons (E.c (D.str [32])) (Es.nil))))
                                        (Es.nil)))))
                                (E.mt (MF.join) (E.c (D.str [42])) (Es.cons (E.v 9) (Es.nil))))
                              (E.call
                                132
                                (Es.cons
                                  (E.v 1)
                                  (Es.cons
                                    (E.lst false (Es.cons (E.c (D.str [])) (Es.cons (E.c (D.str [32, 32])) (Es.nil))))
                                    (Es.nil))))))
                          (Ss.nil)))))))))
          (Ss.cons
            (S.fz 3)
            (Ss.cons
              (S.asg
                (T.n 11)
                (E.bf
                  (BF.tuple)
                  (Es.cons
                    (E.lc
                      [7]
                      (T.n 7)
                      (I.of (E.bf (BF.sorted) (Es.cons (E.v 3) (Es.nil))))
                      (Eo.some (E.cmp (CO.ne) (E.idx (E.v 3) (E.v 7)) (E.c (D.int 0))))
                      (E.tup (Es.cons (E.v 7) (Es.cons (E.idx (E.v 3) (E.v 7)) (Es.nil)))))
                    (Es.nil))))
              (Ss.cons
                (S.ite
                  (E.or
                    (E.cmp (CO.ne) (E.call 56 (Es.cons (E.v 4) (Es.nil))) (E.v 11))
                    (E.cmp
                      (CO.isnot)
                      (E.call 96 (Es.cons (E.c (D.str [115, 117, 114, 102, 97, 99, 101])) (Es.cons (E.v 4) (Es.nil))))
                      (E.c (D.non))))
                  (Ss.cons (S.ret (E.c (D.bl false))) (Ss.nil))
                  (Ss.nil))
                (Ss.cons
                  (S.asg
                    (T.n 12)
                    (E.call
                      135
                      (Es.cons
                        (E.lc
                          [7, 8]
                          (T.t2 (T.n 7) (T.n 8))
                          (I.of (E.v 11))
                          (Eo.none)
                          (E.tup
                            (Es.cons (E.v 7) (Es.cons (E.tup (Es.cons (E.v 8) (Es.cons (E.c (D.int 1)) (Es.nil)))) (Es.nil)))))
                        (Es.nil))))
                  (Ss.cons
                    (S.ite
                      (E.or
                        (E.cmp (CO.ne) (E.call 55 (Es.cons (E.v 11) (Es.nil))) (E.v 12))
                        (E.cmp (CO.ne) (E.call 56 (Es.cons (E.v 12) (Es.nil))) (E.v 11)))
                      (Ss.cons (S.ret (E.c (D.bl false))) (Ss.nil))
                      (Ss.nil))
                    (Ss.nil)))))))))
    (Ss.cons
      (S.asg
        (T.n 13)
        (E.lst
          false
          (Es.cons
            (E.tup (Es.cons (E.tup (Es.nil)) (Es.cons (E.c (D.str [48])) (Es.nil))))
            (Es.cons
              (E.tup
                (Es.cons
                  (E.tup
                    (Es.cons
                      (E.tup
                        (Es.cons
                          (E.tup (Es.cons (E.c (D.int 0)) (Es.cons (E.c (D.int 0)) (Es.nil))))
                          (Es.cons (E.neg (E.c (D.int 3))) (Es.nil))))
                      (Es.nil)))
                  (Es.cons (E.c (D.str [45, 51])) (Es.nil))))
              (Es.cons
                (E.tup
                  (Es.cons
                    (E.tup
                      (Es.cons
                        (E.tup
                          (Es.cons
                            (E.tup (Es.cons (E.c (D.int 0)) (Es.cons (E.c (D.int 2)) (Es.nil))))
                            (Es.cons (E.neg (E.c (D.int 1))) (Es.nil))))
                        (Es.cons
                          (E.tup
                            (Es.cons
                              (E.tup (Es.cons (E.c (D.int 1)) (Es.cons (E.c (D.int 1)) (Es.nil))))
                              (Es.cons (E.c (D.int 3)) (Es.nil))))
                          (Es.cons
                            (E.tup
                              (Es.cons
                                (E.tup (Es.cons (E.c (D.int 3)) (Es.cons (E.c (D.int 0)) (Es.nil))))
                                (Es.cons (E.c (D.int 1)) (Es.nil))))
                            (Es.nil)))))
                    (Es.cons (E.c (D.str [120, 94, 51, 43, 51, 42, 120, 42, 121, 45, 121, 94, 50])) (Es.nil))))
                (Es.nil))))))
      (Ss.cons
        (S.asg
          (T.n 13)
          (E.bin
            (BO.add)
            (E.v 13)
            (E.lst
              false
              (Es.cons
                (E.tup
                  (Es.cons
                    (E.tup
                      (Es.cons
                        (E.tup
                          (Es.cons
                            (E.tup (Es.cons (E.c (D.int 0)) (Es.cons (E.c (D.int 4)) (Es.nil))))
                            (Es.cons (E.c (D.int 1)) (Es.nil))))
                        (Es.cons
                          (E.tup
                            (Es.cons
                              (E.tup (Es.cons (E.c (D.int 2)) (Es.cons (E.c (D.int 2)) (Es.nil))))
                              (Es.cons (E.neg (E.c (D.int 5))) (Es.nil))))
                          (Es.cons
                            (E.tup
                              (Es.cons
                                (E.tup (Es.cons (E.c (D.int 4)) (Es.cons (E.c (D.int 0)) (Es.nil))))
                                (Es.cons (E.c (D.int 1)) (Es.nil))))
                            (Es.nil)))))
                    (Es.cons (E.c (D.str [120, 94, 52, 45, 53, 42, 120, 94, 50, 42, 121, 94, 50, 43, 121, 94, 52])) (Es.nil))))
                (Es.cons
                  (E.tup
                    (Es.cons
                      (E.tup
                        (Es.cons
                          (E.tup
                            (Es.cons
                              (E.tup (Es.cons (E.c (D.int 0)) (Es.cons (E.c (D.int 1)) (Es.nil))))
                              (Es.cons (E.c (D.int 1)) (Es.nil))))
                          (Es.cons
                            (E.tup
                              (Es.cons
                                (E.tup (Es.cons (E.c (D.int 1)) (Es.cons (E.c (D.int 0)) (Es.nil))))
                                (Es.cons (E.neg (E.c (D.int 1))) (Es.nil))))
                            (Es.nil))))
                      (Es.cons (E.c (D.str [45, 120, 43, 121])) (Es.nil))))
                  (Es.nil))))))
        (Ss.cons
          (S.ite
            (E.cmp
              (CO.ne)
              (E.lc
                [11]
                (T.n 11)
                (I.of (E.v 13))
                (Eo.some
                  (E.or
                    (E.cmp
                      (CO.ne)
                      (E.call 55 (Es.cons (E.idx (E.v 11) (E.c (D.int 0))) (Es.nil)))
                      (E.idx (E.v 11) (E.c (D.int 1))))
                    (E.cmp
                      (CO.ne)
                      (E.call 56 (Es.cons (E.idx (E.v 11) (E.c (D.int 1))) (Es.nil)))
                      (E.idx (E.v 11) (E.c (D.int 0))))))
                (E.v 11))
              (E.lst false (Es.nil)))
            (Ss.cons (S.ret (E.c (D.bl false))) (Ss.nil))
            (Ss.nil))
          (Ss.cons
            (S.asg
              (T.n 13)
              (E.lst
                false
                (Es.cons
                  (E.tup
                    (Es.cons
                      (E.c (D.str [50, 42, 51, 42, 120]))
                      (Es.cons
                        (E.tup
                          (Es.cons
                            (E.tup
                              (Es.cons
                                (E.tup (Es.cons (E.c (D.int 1)) (Es.cons (E.c (D.int 0)) (Es.nil))))
                                (Es.cons (E.c (D.int 6)) (Es.nil))))
                            (Es.nil)))
                        (Es.nil))))
                  (Es.cons
                    (E.tup
                      (Es.cons
                        (E.c (D.str [51, 42, 120, 94, 48, 42, 121, 94, 48]))
                        (Es.cons
                          (E.tup
                            (Es.cons
                              (E.tup
                                (Es.cons
                                  (E.tup (Es.cons (E.c (D.int 0)) (Es.cons (E.c (D.int 0)) (Es.nil))))
                                  (Es.cons (E.c (D.int 3)) (Es.nil))))
                              (Es.nil)))
                          (Es.nil))))
                    (Es.cons
                      (E.tup
                        (Es.cons
                          (E.c (D.str [121, 42, 121]))
                          (Es.cons
                            (E.tup
                              (Es.cons
                                (E.tup
                                  (Es.cons
                                    (E.tup (Es.cons (E.c (D.int 0)) (Es.cons (E.c (D.int 2)) (Es.nil))))
                                    (Es.cons (E.c (D.int 1)) (Es.nil))))
                                (Es.nil)))
                            (Es.nil))))
                      (Es.cons
                        (E.tup
                          (Es.cons
                            (E.c (D.str [120, 32, 42, 32, 121, 32, 94, 32, 50]))
                            (Es.cons
                              (E.tup
                                (Es.cons
                                  (E.tup
                                    (Es.cons
                                      (E.tup (Es.cons (E.c (D.int 1)) (Es.cons (E.c (D.int 2)) (Es.nil))))
                                      (Es.cons (E.c (D.int 1)) (Es.nil))))
                                  (Es.nil)))
                              (Es.nil))))
                        (Es.nil)))))))
            (Ss.cons
              (S.asg
                (T.n 13)
                (E.bin
                  (BO.add)
                  (E.v 13)
                  (E.lst
                    false
                    (Es.cons
                      (E.tup
                        (Es.cons
                          (E.c (D.str [120, 94, 52, 42, 121, 45, 121, 42, 120, 94, 52, 43, 49, 48, 48, 48, 48, 48, 48]))
                          (Es.cons
                            (E.tup
                              (Es.cons
                                (E.tup
                                  (Es.cons
                                    (E.tup (Es.cons (E.c (D.int 0)) (Es.cons (E.c (D.int 0)) (Es.nil))))
                                    (Es.cons (E.c (D.int 1000000)) (Es.nil))))
                                (Es.nil)))
                            (Es.nil))))
                      (Es.cons
                        (E.tup
                          (Es.cons
                            (E.c (D.str [121, 42, 50, 42, 121, 94, 50, 42, 120]))
                            (Es.cons
                              (E.tup
                                (Es.cons
                                  (E.tup
                                    (Es.cons
                                      (E.tup (Es.cons (E.c (D.int 1)) (Es.cons (E.c (D.int 3)) (Es.nil))))
                                      (Es.cons (E.c (D.int 2)) (Es.nil))))
                                  (Es.nil)))
                              (Es.nil))))
                        (Es.nil))))))
              (Ss.cons
                (S.ite
                  (E.cmp
                    (CO.ne)
                    (E.lc
                      [11]
                      (T.n 11)
                      (I.of (E.v 13))
                      (Eo.some
                        (E.cmp
                          (CO.ne)
                          (E.call 56 (Es.cons (E.idx (E.v 11) (E.c (D.int 0))) (Es.nil)))
                          (E.idx (E.v 11) (E.c (D.int 1)))))
                      (E.v 11))
                    (E.lst false (Es.nil)))
                  (Ss.cons (S.ret (E.c (D.bl false))) (Ss.nil))
                  (Ss.nil))
                (Ss.cons
                  (S.ret
                    (E.and
                      (E.cmp
                        (CO.eq)
                        (E.call
                          96
                          (Es.cons (E.c (D.str [115, 117, 114, 102, 97, 99, 101])) (Es.cons (E.c (D.str [120, 94, 53])) (Es.nil))))
                        (E.c (D.int 2)))
                      (E.and
                        (E.cmp
                          (CO.eq)
                          (E.call 96 (Es.cons (E.c (D.str [115, 117, 114, 102, 97, 99, 101])) (Es.cons (E.c (D.str [122])) (Es.nil))))
                          (E.c (D.int 0)))
                        (E.cmp
                          (CO.eq)
                          (E.call 96 (Es.cons (E.c (D.str [108, 105, 110, 101])) (Es.cons (E.c (D.str [120, 42, 121])) (Es.nil))))
                          (E.c (D.int 2))))))
                  (Ss.nil)))))))))⟩
end PVL
set_option Elab.async false
set_option linter.all false
set_option maxRecDepth 10000
/-! PL0: the evaluator's equations as rules of rewriting. -/
namespace PVL
open PV
/-- by a truth value -/
def onB {α : Type} (x : D) (a b c : α) : α := match x with
  | .bl true => a
  | .bl false => b
  | _ => c
@[simp] theorem onB_t {α : Type} (a b c : α) : onB (.bl true) a b c = a := rfl
@[simp] theorem onB_f {α : Type} (a b c : α) : onB (.bl false) a b c = b := rfl
theorem onB_b {α : Type} (x : Bool) (a b c : α) : onB (.bl x) a b c = if x = true then a else b := by cases x <;> rfl
@[simp] theorem onB_d {α : Type} (p : Prop) [Decidable p] (a b c : α) : onB (.bl (decide p)) a b c = if p then a else b := by
  by_cases h : p <;> simp [h]
section
variable {call : Nat → List D → Sto → R D} {room : Bool} {δ : Sl} {st : Sto} {t : Bool}
@[simp] theorem bind_ok {α β : Type} (a : α) (f : α → Sto → R β) : (R.ok a st).bind f = f a st := rfl
@[simp] theorem bind_exc {α β : Type} (c : Nat) (p : D) (f : α → Sto → R β) : (R.exc c p st).bind f = .exc c p st := rfl
@[simp] theorem bind_bad {α β : Type} (f : α → Sto → R β) : R.bad.bind f = .bad := rfl
theorem bind_ite {α β : Type} (p : Prop) [Decidable p] (a b : R α) (f : α → Sto → R β) : (if p then a else b).bind f = if p then a.bind f else b.bind f := by split <;> rfl
@[simp] theorem thn_ok {α : Type} (a : α) (f : α → Sto → RS) : (R.ok a st).thn δ f = f a st := rfl
@[simp] theorem thn_exc {α : Type} (c : Nat) (p : D) (f : α → Sto → RS) : (R.exc c p st).thn δ f = .exc c p δ st := rfl
@[simp] theorem thn_bad {α : Type} (f : α → Sto → RS) : R.bad.thn δ f = .bad := rfl
theorem thn_ite {α : Type} (p : Prop) [Decidable p] (a b : R α) (f : α → Sto → RS) : (if p then a else b).thn δ f = if p then a.thn δ f else b.thn δ f := by split <;> rfl
@[simp] theorem tst_f (r : R D) : tst false r = r := rfl
@[simp] theorem tst_t (r : R D) : tst true r = r.bind fun d st => okO (truth d) st := rfl
@[simp] theorem okO_s (b : Bool) : okO (some b) st = .ok (.bl b) st := rfl
@[simp] theorem okO_n : okO none st = .bad := rfl
@[simp] theorem okb_t (d : D) : okb true d st = .ok d st := rfl
@[simp] theorem okd_s (d : D) : okd (some d) st = .ok d st := rfl
@[simp] theorem truth_b (b : Bool) : truth (.bl b) = some b := rfl
@[simp] theorem ev_c (d : D) : ev call (.c d) t δ st = tst t (.ok d st) := rfl
theorem ev_v (i : Nat) : ev call (.v i) t δ st = tst t (match δ[i]? with
    | some (some d) => .ok d st
    | _ => .bad) := rfl
@[simp] theorem ev_v0 (d : D) (δ : Sl) : ev call (.v 0) t (some d :: δ) st = tst t (.ok d st) := rfl
@[simp] theorem ev_v1 (a : Option D) (d : D) (δ : Sl) : ev call (.v 1) t (a :: some d :: δ) st = tst t (.ok d st) := rfl
@[simp] theorem ev_v2 (a b : Option D) (d : D) (δ : Sl) : ev call (.v 2) t (a :: b :: some d :: δ) st = tst t (.ok d st) := rfl
@[simp] theorem ev_v3 (a b c : Option D) (d : D) (δ : Sl) : ev call (.v 3) t (a :: b :: c :: some d :: δ) st = tst t (.ok d st) := rfl
@[simp] theorem ev_v4 (a b c e : Option D) (d : D) (δ : Sl) : ev call (.v 4) t (a :: b :: c :: e :: some d :: δ) st = tst t (.ok d st) := rfl
@[simp] theorem ev_v5 (a b c e f : Option D) (d : D) (δ : Sl) : ev call (.v 5) t (a :: b :: c :: e :: f :: some d :: δ) st = tst t (.ok d st) := rfl
@[simp] theorem ev_v6 (a b c e f g : Option D) (d : D) (δ : Sl) : ev call (.v 6) t (a :: b :: c :: e :: f :: g :: some d :: δ) st = tst t (.ok d st) := rfl
@[simp] theorem ev_v7 (a b c e f g h : Option D) (d : D) (δ : Sl) : ev call (.v 7) t (a :: b :: c :: e :: f :: g :: h :: some d :: δ) st = tst t (.ok d st) := rfl
@[simp] theorem ev_v8 (a b c e f g h i : Option D) (d : D) (δ : Sl) : ev call (.v 8) t (a :: b :: c :: e :: f :: g :: h :: i :: some d :: δ) st = tst t (.ok d st) := rfl
@[simp] theorem ev_v9 (a b c e f g h i j : Option D) (d : D) (δ : Sl) : ev call (.v 9) t (a :: b :: c :: e :: f :: g :: h :: i :: j :: some d :: δ) st = tst t (.ok d st) := rfl
@[simp] theorem ev_v10 (a b c e f g h i j k : Option D) (d : D) (δ : Sl) : ev call (.v 10) t (a :: b :: c :: e :: f :: g :: h :: i :: j :: k :: some d :: δ) st = tst t (.ok d st) := rfl
@[simp] theorem ev_v11 (a b c e f g h i j k l : Option D) (d : D) (δ : Sl) : ev call (.v 11) t (a :: b :: c :: e :: f :: g :: h :: i :: j :: k :: l :: some d :: δ) st = tst t (.ok d st) := rfl
@[simp] theorem ev_v12 (a b c e f g h i j k l m : Option D) (d : D) (δ : Sl) : ev call (.v 12) t (a :: b :: c :: e :: f :: g :: h :: i :: j :: k :: l :: m :: some d :: δ) st = tst t (.ok d st) := rfl
@[simp] theorem ev_v13 (a b c e f g h i j k l m n : Option D) (d : D) (δ : Sl) : ev call (.v 13) t (a :: b :: c :: e :: f :: g :: h :: i :: j :: k :: l :: m :: n :: some d :: δ) st = tst t (.ok d st) := rfl
@[simp] theorem ev_bin (o : BO) (a b : E) : ev call (.bin o a b) t δ st = tst t ((ev call a false δ st).bind fun x st1 => (ev call b false δ st1).bind fun y st2 => binD o x y st2) := rfl
/-- the number below 0 -/
def negD (x : D) (st : Sto) : R D := match x with
  | .int i => .ok (.int (-i)) st
  | _ => .bad
@[simp] theorem negD_i (i : Int) : negD (.int i) st = .ok (.int (-i)) st := rfl
@[simp] theorem ev_neg (a : E) : ev call (.neg a) t δ st = tst t ((ev call a false δ st).bind fun x st1 => negD x st1) := rfl
@[simp] theorem ev_not (a : E) : ev call (.not a) t δ st = (ev call a t δ st).bind fun x st1 => onB x (.ok (.bl false) st1) (.ok (.bl true) st1) .bad := by
  show (ev call a t δ st).bind _ = _
  congr 1
  funext x st1
  cases x <;> first | rfl | skip
  rename_i b
  cases b <;> rfl
@[simp] theorem ev_and (a b : E) : ev call (.and a b) t δ st = (ev call a t δ st).bind fun x st1 => onB x (ev call b t δ st1) (.ok (.bl false) st1) .bad := rfl
@[simp] theorem ev_or (a b : E) : ev call (.or a b) t δ st = (ev call a t δ st).bind fun x st1 => onB x (.ok (.bl true) st1) (ev call b t δ st1) .bad := by
  show (ev call a t δ st).bind _ = _
  congr 1
  funext x st1
  cases x <;> first | rfl | skip
  rename_i b
  cases b <;> rfl
@[simp] theorem ev_cmp (o : CO) (a b : E) : ev call (.cmp o a b) t δ st = (ev call a false δ st).bind fun x st1 => (ev call b false δ st1).bind fun y st2 => okO (cmpD o x y) st2 := rfl
@[simp] theorem ev_cmp2 (o p : CO) (a b c : E) : ev call (.cmp2 o p a b c) t δ st = (ev call a false δ st).bind fun x st1 => (ev call b false δ st1).bind fun y st2 => (okO (cmpD o x y) st2).bind fun r st3 => onB r ((ev call c false δ st3).bind fun z st4 => okO (cmpD p y z) st4) (.ok (.bl false) st3) .bad := by
  show (ev call a false δ st).bind _ = _
  congr 1
  funext x st1
  congr 1
  funext y st2
  cases cmpD o x y with
  | none => rfl
  | some b => cases b <;> rfl
@[simp] theorem ev_ite (c a b : E) : ev call (.ite c a b) t δ st = tst t ((ev call c true δ st).bind fun x st1 => onB x (ev call a false δ st1) (ev call b false δ st1) .bad) := rfl
@[simp] theorem ev_call (f : Nat) (es : Es) : ev call (.call f es) t δ st = tst t ((evs call es δ st).bind fun ds st1 => call f ds st1) := rfl
@[simp] theorem ev_bf (f : BF) (es : Es) : ev call (.bf f es) t δ st = tst t ((evs call es δ st).bind fun ds st1 => bfD f ds st1) := rfl
theorem ev_mt (m : MF) (o : E) (es : Es) : ev call (.mt m o es) t δ st = tst t ((ev call o false δ st).bind fun x st1 => match mtTy m x st1 with
    | true => (evs call es δ st1).bind fun ds st2 => mtD m x ds st2
    | false => .bad) := rfl
@[simp] theorem ev_idx (a b : E) : ev call (.idx a b) t δ st = tst t ((ev call a false δ st).bind fun x st1 => (ev call b false δ st1).bind fun y st2 => idxD x y st2) := rfl
@[simp] theorem ev_slc (a : E) (lo hi : Eo) : ev call (.slc a lo hi) t δ st = tst t ((ev call a false δ st).bind fun x st1 => (evo call lo δ st1).bind fun l st2 => (evo call hi δ st2).bind fun h st3 => slcD x l h st3) := rfl
@[simp] theorem ev_tup (es : Es) : ev call (.tup es) t δ st = tst t ((evs call es δ st).bind fun ds st1 => okb (fits ds.length) (.tup false ds) st1) := rfl
@[simp] theorem ev_lst (es : Es) : ev call (.lst false es) t δ st = tst t ((evs call es δ st).bind fun ds st1 => okb (fits ds.length) (.lst ds) st1) := by
  show tst t ((evs call es δ st).bind _) = _
  congr 2
  funext ds st1
  cases fits ds.length <;> rfl
/-- a new object, if it fits -/
def allocB (c : Bool) (m : MO) (st : Sto) : R D := match c with
  | true => alloc m st
  | false => .bad
@[simp] theorem allocB_t (m : MO) : allocB true m st = alloc m st := rfl
@[simp] theorem ev_lstM (es : Es) : ev call (.lst true es) t δ st = tst t ((evs call es δ st).bind fun ds st1 => allocB (fits ds.length) (.lst ds) st1) := by
  show tst t ((evs call es δ st).bind _) = _
  congr 2
  funext ds st1
  cases fits ds.length <;> rfl
@[simp] theorem ev_dnew : ev call (.dnew false) t δ st = tst t (.ok (.dct [] []) st) := rfl
@[simp] theorem ev_dnewM : ev call (.dnew true) t δ st = tst t (alloc (.dct [] []) st) := rfl
@[simp] theorem ev_rep (m : Bool) (a b : E) : ev call (.rep m a b) t δ st = tst t ((ev call a false δ st).bind fun x st1 => (ev call b false δ st1).bind fun y st2 => repD m x y st2) := rfl
@[simp] theorem evs_nil : evs call .nil δ st = .ok [] st := rfl
@[simp] theorem evs_cons (e : E) (es : Es) : evs call (.cons e es) δ st = (ev call e false δ st).bind fun d st1 => (evs call es δ st1).bind fun ds st2 => .ok (d :: ds) st2 := rfl
/-- an index that is told -/
def evoK (d : D) (st : Sto) : R (Option Int) := match d with
  | .int i => .ok (some i) st
  | _ => .bad
@[simp] theorem evoK_i (i : Int) : evoK (.int i) st = .ok (some i) st := rfl
@[simp] theorem evo_none : evo call .none δ st = .ok none st := rfl
@[simp] theorem evo_some (e : E) : evo call (.some e) δ st = (ev call e false δ st).bind fun d st1 => evoK d st1 := rfl
@[simp] theorem evc_none : evc call .none δ st = .ok true st := rfl
@[simp] theorem evc_some (e : E) : evc call (.some e) δ st = (ev call e true δ st).bind fun d st1 => onB d (.ok true st1) (.ok false st1) .bad := by
  show (ev call e true δ st).bind _ = _
  congr 1
  funext x st1
  cases x <;> first | rfl | skip
  rename_i b
  cases b <;> rfl
def okL (o : Option (List D)) (st : Sto) : R (List D) := match o with
  | some ds => .ok ds st
  | none => .bad
@[simp] theorem okL_s (ds : List D) : okL (some ds) st = .ok ds st := rfl
@[simp] theorem evI_of (e : E) : evI call (.of e) δ st = (ev call e false δ st).bind fun d st1 => okL (seqOf d) st1 := by
  show (ev call e false δ st).bind _ = _
  congr 1
@[simp] theorem evI_enum (e : E) : evI call (.enum e) δ st = (ev call e false δ st).bind fun d st1 => okL ((seqE d).map (enumD 0)) st1 := by
  show (ev call e false δ st).bind _ = _
  congr 1
  funext x st1
  cases seqE x <;> rfl
@[simp] theorem evI_zip (a b : E) : evI call (.zip a b) δ st = (ev call a false δ st).bind fun x st1 => (ev call b false δ st1).bind fun y st2 => okL (zipS x y) st2 := by
  show (ev call a false δ st).bind _ = _
  congr 1
def rngD (d : D) (st : Sto) : R (List D) := match d with
  | .int j => match okR j with
    | true => .ok (rangeD 0 j.toNat) st
    | false => .bad
  | _ => .bad
@[simp] theorem evI_rng (e : E) : evI call (.rng e) δ st = (ev call e false δ st).bind fun d st1 => rngD d st1 := rfl
/-! ### statements -/
@[simp] theorem nxt_s (δ : Sl) : nxt (some δ) st = .ok (.nx δ) st := rfl
@[simp] theorem seq_nx (f : Sl → Sto → RS) : (RS.ok (.nx δ) st).seq f = f δ st := rfl
@[simp] theorem seq_rt (d : D) (f : Sl → Sto → RS) : (RS.ok (.rt d) st).seq f = .ok (.rt d) st := rfl
@[simp] theorem seq_bk (f : Sl → Sto → RS) : (RS.ok (.bk δ) st).seq f = .ok (.bk δ) st := rfl
@[simp] theorem seq_ct (f : Sl → Sto → RS) : (RS.ok (.ct δ) st).seq f = .ok (.ct δ) st := rfl
@[simp] theorem seq_exc (c : Nat) (p : D) (f : Sl → Sto → RS) : (RS.exc c p δ st).seq f = .exc c p δ st := rfl
@[simp] theorem seq_bad (f : Sl → Sto → RS) : RS.bad.seq f = .bad := rfl
theorem seq_ite (p : Prop) [Decidable p] (a b : RS) (f : Sl → Sto → RS) : (if p then a else b).seq f = if p then a.seq f else b.seq f := by split <;> rfl
@[simp] theorem evSs_nil : evSs call room .nil δ st = .ok (.nx δ) st := rfl
@[simp] theorem evSs_cons (s : S) (ss : Ss) : evSs call room (.cons s ss) δ st = (evS call room s δ st).seq fun δ1 st1 => evSs call room ss δ1 st1 := rfl
@[simp] theorem evS_asg (tg : T) (e : E) : evS call room (.asg tg e) δ st = (ev call e false δ st).thn δ fun d st1 => nxt (asgT tg d δ) st1 := rfl
/-- two names at once -/
def parS (i j : Nat) (x y : D) (δ : Sl) (st : Sto) : RS := match Nat.blt i δ.length, Nat.blt j δ.length with
  | true, true => .ok (.nx ((δ.set i (some x)).set j (some y))) st
  | _, _ => .bad
theorem blt_false {a b : Nat} (h : ¬ a < b) : Nat.blt a b = false := by
  cases q : Nat.blt a b with
  | false => rfl
  | true => exact absurd (Nat.le_of_ble_eq_true q) h
@[simp] theorem parS_eq (i j : Nat) (x y : D) (δ : Sl) (st : Sto) : parS i j x y δ st = if i < δ.length ∧ j < δ.length then .ok (.nx ((δ.set i (some x)).set j (some y))) st else .bad := by
  unfold parS
  by_cases h1 : i < δ.length
  · by_cases h2 : j < δ.length
    · rw [show Nat.blt i δ.length = true from Nat.ble_eq_true_of_le h1, show Nat.blt j δ.length = true from Nat.ble_eq_true_of_le h2, if_pos ⟨h1, h2⟩]
    · rw [show Nat.blt i δ.length = true from Nat.ble_eq_true_of_le h1, show Nat.blt j δ.length = false from blt_false h2, if_neg (fun z => h2 z.2)]
  · rw [show Nat.blt i δ.length = false from blt_false h1, if_neg (fun z => h1 z.1)]
@[simp] theorem evS_par (i j : Nat) (a b : E) : evS call room (.par i j a b) δ st = (ev call a false δ st).thn δ fun x st1 => (ev call b false δ st1).thn δ fun y st2 => parS i j x y δ st2 := rfl
@[simp] theorem evS_sub (o i e : E) : evS call room (.sub o i e) δ st = (ev call e false δ st).thn δ fun v st1 => (ev call o false δ st1).thn δ fun x st2 => (ev call i false δ st2).thn δ fun k st3 => (setD x k v st3).thn δ fun _ st4 => .ok (.nx δ) st4 := rfl
@[simp] theorem evS_ex (e : E) : evS call room (.ex e) δ st = (ev call e false δ st).thn δ fun _ st1 => .ok (.nx δ) st1 := rfl
@[simp] theorem evS_ret (e : E) : evS call room (.ret e) δ st = (ev call e false δ st).thn δ fun d st1 => .ok (.rt d) st1 := rfl
@[simp] theorem evS_retN : evS call room .retN δ st = .ok (.rt .non) st := rfl
@[simp] theorem evS_ite (e : E) (a b : Ss) : evS call room (.ite e a b) δ st = (ev call e true δ st).thn δ fun x st1 => onB x (evSs call room a δ st1) (evSs call room b δ st1) .bad := rfl
@[simp] theorem evS_fr (tg : T) (it : I) (b : Ss) : evS call room (.fr tg it b) δ st = (evI call it δ st).thn δ fun ds st1 => forR tg (fun δ st => evSs call room b δ st) ds δ st1 := rfl
@[simp] theorem evS_wh (e : E) (b : Ss) : evS call room (.wh e b) δ st = whR (fun δ st => ev call e true δ st) (fun δ st => evSs call room b δ st) turns δ st := rfl
/-- raised -/
def rseK (room : Bool) (c : Nat) (d : D) (δ : Sl) (st : Sto) : RS := match excOk c d with
  | true => .exc c d δ st
  | false => .bad
@[simp] theorem evS_rse (c : Nat) (e : E) : evS call true (.rse c e) δ st = (ev call e false δ st).thn δ fun d st1 => rseK true c d δ st1 := rfl
@[simp] theorem evS_pass : evS call room .pass δ st = .ok (.nx δ) st := rfl
@[simp] theorem evS_bk : evS call room .bk δ st = .ok (.bk δ) st := rfl
@[simp] theorem evS_ct : evS call room .ct δ st = .ok (.ct δ) st := rfl
@[simp] theorem outR_rt (d : D) : outR (.ok (.rt d) st) = .ok d st := rfl
@[simp] theorem outR_nx : outR (.ok (.nx δ) st) = .ok .non st := rfl
@[simp] theorem outR_exc (c : Nat) (p : D) : outR (.exc c p δ st) = .exc c p st := rfl
@[simp] theorem outR_bad : outR .bad = .bad := rfl
theorem outR_ite (p : Prop) [Decidable p] (a b : RS) : outR (if p then a else b) = if p then outR a else outR b := by split <;> rfl
end
/-! ### loops -/
section
variable {c : Sl → Sto → R D} {b : Sl → Sto → RS} {δ δ1 : Sl} {st st1 st2 : Sto} {n : Nat}
theorem wh_stop (h : c δ st = .ok (.bl false) st1) : whR c b (n + 1) δ st = .ok (.nx δ) st1 := by unfold whR; rw [h]; rfl
theorem wh_go (h : c δ st = .ok (.bl true) st1) (hb : b δ st1 = .ok (.nx δ1) st2) : whR c b (n + 1) δ st = whR c b n δ1 st2 := by
  conv => lhs; unfold whR
  rw [h]
  simp only [thn_ok, hb]
theorem wh_exc {x : Nat} {p : D} (h : c δ st = .ok (.bl true) st1) (hb : b δ st1 = .exc x p δ1 st2) : whR c b (n + 1) δ st = .exc x p δ1 st2 := by
  conv => lhs; unfold whR
  rw [h]
  simp only [thn_ok, hb]
theorem wh_rt {d : D} (h : c δ st = .ok (.bl true) st1) (hb : b δ st1 = .ok (.rt d) st2) : whR c b (n + 1) δ st = .ok (.rt d) st2 := by
  conv => lhs; unfold whR
  rw [h]
  simp only [thn_ok, hb]
end
/-! ### calls -/
theorem callF_def {F : Nat → Option Fn} {k f : Nat} {fn : Fn} {ds : List D} {st : Sto} (h : F f = some fn) (hl : ds.length = fn.np) : callF F (k + 1) f ds st = outR (evSs (callF F k) (Nat.blt 2 k) fn.body (start fn.nn ds) st) := by
  show (match F f with
    | some fn => match Nat.beq ds.length fn.np with
      | true => outR (evSs (callF F k) (Nat.blt 2 k) fn.body (start fn.nn ds) st)
      | false => .bad
    | none => .bad) = _
  rw [h]
  simp only [hl, Nat.beq_eq_true_eq, show Nat.beq fn.np fn.np = true from Nat.beq_refl _]
theorem callF_at {F : Nat → Option Fn} {k f : Nat} {fn : Fn} {ds : List D} {st : Sto} (δ : Sl) (h : F f = some fn) (hl : ds.length = fn.np) (hδ : start fn.nn ds = δ) : callF F (k + 1) f ds st = outR (evSs (callF F k) (Nat.blt 2 k) fn.body δ st) := by
  rw [callF_def h hl, hδ]
theorem blt_off (k : Nat) : Nat.blt 2 (k + 3) = true := Nat.ble_eq_true_of_le (by omega)
end PVL
set_option Elab.async false
set_option linter.all false
set_option maxRecDepth 10000
/-! PF: what is evaluated does not look at the store it starts from: references are shifted. -/
namespace PVL
open PV
mutual
def shD (n : Nat) : D → D
  | .tup k ds => .tup k (shDs n ds)
  | .lst ds => .lst (shDs n ds)
  | .dct ks vs => .dct ks (shDs n vs)
  | .ref i => .ref (n + i)
  | .exn c p => .exn c (shD n p)
  | .non => .non
  | .bl b => .bl b
  | .int i => .int i
  | .str s => .str s
  | .fn f => .fn f
  | .scr ns => .scr ns
def shDs (n : Nat) : List D → List D
  | [] => []
  | d :: ds => shD n d :: shDs n ds
end
mutual
/-- without references -/
def clD : D → Bool
  | .tup _ ds => clDs ds
  | .lst ds => clDs ds
  | .dct _ vs => clDs vs
  | .ref _ => false
  | .exn _ p => clD p
  | .non => true
  | .bl _ => true
  | .int _ => true
  | .str _ => true
  | .fn _ => true
  | .scr _ => true
def clDs : List D → Bool
  | [] => true
  | d :: ds => clD d && clDs ds
end
mutual
theorem sh_cl (n : Nat) : ∀ d : D, clD d = true → shD n d = d
  | .tup k ds, h => by simp only [clD] at h; simp only [shD, shs_cl n ds h]
  | .lst ds, h => by simp only [clD] at h; simp only [shD, shs_cl n ds h]
  | .dct ks vs, h => by simp only [clD] at h; simp only [shD, shs_cl n vs h]
  | .ref i, h => by simp [clD] at h
  | .exn c p, h => by simp only [clD] at h; simp only [shD, sh_cl n p h]
  | .non, _ => rfl
  | .bl _, _ => rfl
  | .int _, _ => rfl
  | .str _, _ => rfl
  | .fn _, _ => rfl
  | .scr _, _ => rfl
theorem shs_cl (n : Nat) : ∀ ds : List D, clDs ds = true → shDs n ds = ds
  | [], _ => rfl
  | d :: ds, h => by
    simp only [clDs, Bool.and_eq_true] at h
    simp only [shDs, sh_cl n d h.1, shs_cl n ds h.2]
end
theorem shs_map (n : Nat) : ∀ ds : List D, shDs n ds = ds.map (shD n)
  | [] => rfl
  | d :: ds => by simp only [shDs, List.map_cons, shs_map n ds]
@[simp] theorem sh_tup (n : Nat) (k : Bool) (ds : List D) : shD n (.tup k ds) = .tup k (ds.map (shD n)) := by simp only [shD, shs_map]
@[simp] theorem sh_lst (n : Nat) (ds : List D) : shD n (.lst ds) = .lst (ds.map (shD n)) := by simp only [shD, shs_map]
@[simp] theorem sh_dct (n : Nat) (ks : List (List Int)) (vs : List D) : shD n (.dct ks vs) = .dct ks (vs.map (shD n)) := by simp only [shD, shs_map]
@[simp] theorem sh_ref (n i : Nat) : shD n (.ref i) = .ref (n + i) := by simp only [shD]
@[simp] theorem sh_exn (n c : Nat) (p : D) : shD n (.exn c p) = .exn c (shD n p) := by simp only [shD]
@[simp] theorem sh_non (n : Nat) : shD n .non = .non := by simp only [shD]
@[simp] theorem sh_bl (n : Nat) (b : Bool) : shD n (.bl b) = .bl b := by simp only [shD]
@[simp] theorem sh_int (n : Nat) (b : Int) : shD n (.int b) = .int b := by simp only [shD]
@[simp] theorem sh_str (n : Nat) (b : List Nat) : shD n (.str b) = .str b := by simp only [shD]
@[simp] theorem sh_fn (n b : Nat) : shD n (.fn b) = .fn b := by simp only [shD]
@[simp] theorem sh_scr (n : Nat) (b : List Int) : shD n (.scr b) = .scr b := by simp only [shD]
def shM (n : Nat) : MO → MO
  | .lst ds => .lst (ds.map (shD n))
  | .dct ks vs => .dct ks (vs.map (shD n))
def shSl (n : Nat) (δ : Sl) : Sl := δ.map (Option.map (shD n))
/-- the store behind another one -/
def shS (s0 : Sto) (st : Sto) : Sto := s0 ++ st.map (Option.map (shM s0.length))
def shR {α : Type} (s0 : Sto) (g : α → α) : R α → R α
  | .ok a st => .ok (g a) (shS s0 st)
  | .exc c p st => .exc c (shD s0.length p) (shS s0 st)
  | .bad => .bad
def shF (n : Nat) : Fl → Fl
  | .nx δ => .nx (shSl n δ)
  | .rt d => .rt (shD n d)
  | .bk δ => .bk (shSl n δ)
  | .ct δ => .ct (shSl n δ)
def shRS (s0 : Sto) : RS → RS
  | .ok f st => .ok (shF s0.length f) (shS s0 st)
  | .exc c p δ st => .exc c (shD s0.length p) (shSl s0.length δ) (shS s0 st)
  | .bad => .bad
section
variable {s0 : Sto}
theorem bind_sh {α β : Type} {g : α → α} {h : β → β} {r r' : R α} {f f' : α → Sto → R β} (e : r' = shR s0 g r) (hf : ∀ a st, f' (g a) (shS s0 st) = shR s0 h (f a st)) : r'.bind f' = shR s0 h (r.bind f) := by
  subst e
  cases r with
  | ok a st => exact hf a st
  | exc c p st => rfl
  | bad => rfl
theorem noX_sh {α : Type} {g : α → α} {r r' : R α} (e : r' = shR s0 g r) : noX r' = shR s0 g (noX r) := by
  subst e
  cases r <;> rfl
theorem thn_sh {α : Type} {g : α → α} {r r' : R α} {δ : Sl} {f f' : α → Sto → RS} (e : r' = shR s0 g r) (hf : ∀ a st, f' (g a) (shS s0 st) = shRS s0 (f a st)) : r'.thn (shSl (List.length s0) δ) f' = shRS s0 (r.thn δ f) := by
  subst e
  cases r with
  | ok a st => exact hf a st
  | exc c p st => rfl
  | bad => rfl
theorem seq_sh {r r' : RS} {f f' : Sl → Sto → RS} (e : r' = shRS s0 r) (hf : ∀ δ st, f' (shSl (List.length s0) δ) (shS s0 st) = shRS s0 (f δ st)) : r'.seq f' = shRS s0 (r.seq f) := by
  subst e
  cases r with
  | ok a st => cases a <;> first | exact hf _ _ | rfl
  | exc c p δ st => rfl
  | bad => rfl
/-! ### data -/
theorem isE (n : Nat) (ds : List D) : (ds.map (shD n)).isEmpty = ds.isEmpty := by cases ds <;> rfl
theorem truth_sh (n : Nat) (d : D) : truth (shD n d) = truth d := by cases d <;> simp [truth, isE]
theorem flat_sh (n : Nat) (d : D) : D.flat (shD n d) = D.flat d := by cases d <;> simp [D.flat]
theorem all_map {α β : Type} (f : α → β) (p : β → Bool) (ds : List α) : (ds.map f).all p = ds.all fun d => p (f d) := by induction ds <;> simp_all
theorem any_map {α β : Type} (f : α → β) (p : β → Bool) (ds : List α) : (ds.map f).any p = ds.any fun d => p (f d) := by induction ds <;> simp_all
theorem data_sh (n : Nat) : ∀ (m : Nat) (d : D), D.data m (shD n d) = D.data m d
  | 0, d => by cases d <;> simp [D.data]
  | m + 1, d => by cases d <;> simp [D.data, all_map, data_sh n m, Function.comp_def]
mutual
theorem eqv_sh (n : Nat) : ∀ x y : D, D.eqv (shD n x) (shD n y) = D.eqv x y
  | .tup _ xs, y => by cases y <;> simp [D.eqv, eqvs_sh n xs]
  | .lst xs, y => by cases y <;> simp [D.eqv, eqvs_sh n xs]
  | .dct _ _, y => by cases y <;> simp [D.eqv]
  | .ref _, y => by cases y <;> simp [D.eqv]
  | .exn _ _, y => by cases y <;> simp [D.eqv]
  | .non, y => by cases y <;> simp [D.eqv]
  | .bl _, y => by cases y <;> simp [D.eqv]
  | .int _, y => by cases y <;> simp [D.eqv]
  | .str _, y => by cases y <;> simp [D.eqv]
  | .fn _, y => by cases y <;> simp [D.eqv]
  | .scr _, y => by cases y <;> simp [D.eqv]
theorem eqvs_sh (n : Nat) : ∀ xs ys : List D, D.eqvs (xs.map (shD n)) (ys.map (shD n)) = D.eqvs xs ys
  | [], ys => by cases ys <;> simp [D.eqvs]
  | x :: xs, ys => by cases ys <;> simp [D.eqvs, eqv_sh n x, eqvs_sh n xs]
end
mutual
theorem lt_sh (n : Nat) : ∀ x y : D, D.lt (shD n x) (shD n y) = D.lt x y
  | .tup _ xs, y => by cases y <;> simp [D.lt, lts_sh n xs]
  | .lst xs, y => by cases y <;> simp [D.lt]
  | .dct _ _, y => by cases y <;> simp [D.lt]
  | .ref _, y => by cases y <;> simp [D.lt]
  | .exn _ _, y => by cases y <;> simp [D.lt]
  | .non, y => by cases y <;> simp [D.lt]
  | .bl _, y => by cases y <;> simp [D.lt]
  | .int _, y => by cases y <;> simp [D.lt]
  | .str _, y => by cases y <;> simp [D.lt]
  | .fn _, y => by cases y <;> simp [D.lt]
  | .scr _, y => by cases y <;> simp [D.lt]
theorem lts_sh (n : Nat) : ∀ xs ys : List D, D.lts (xs.map (shD n)) (ys.map (shD n)) = D.lts xs ys
  | [], ys => by cases ys <;> simp [D.lts]
  | x :: xs, ys => by cases ys <;> simp [D.lts, eqv_sh n x, lt_sh n x, lts_sh n xs]
end
mutual
theorem alike_sh (n : Nat) : ∀ x y : D, D.alike (shD n x) (shD n y) = D.alike x y
  | .tup _ xs, y => by cases y <;> simp [D.alike, alikes_sh n xs]
  | .lst xs, y => by cases y <;> simp [D.alike]
  | .dct _ _, y => by cases y <;> simp [D.alike]
  | .ref _, y => by cases y <;> simp [D.alike]
  | .exn _ _, y => by cases y <;> simp [D.alike]
  | .non, y => by cases y <;> simp [D.alike]
  | .bl _, y => by cases y <;> simp [D.alike]
  | .int _, y => by cases y <;> simp [D.alike]
  | .str _, y => by cases y <;> simp [D.alike]
  | .fn _, y => by cases y <;> simp [D.alike]
  | .scr _, y => by cases y <;> simp [D.alike]
theorem alikes_sh (n : Nat) : ∀ xs ys : List D, D.alikes (xs.map (shD n)) (ys.map (shD n)) = D.alikes xs ys
  | [], ys => by cases ys <;> simp [D.alikes]
  | x :: xs, ys => by cases ys <;> simp [D.alikes, alike_sh n x, alikes_sh n xs]
end
theorem intsD_sh (n : Nat) : ∀ ds : List D, intsD (ds.map (shD n)) = intsD ds
  | [] => rfl
  | d :: ds => by cases d <;> simp [intsD, intsD_sh n ds]
theorem boolsD_sh (n : Nat) : ∀ ds : List D, boolsD (ds.map (shD n)) = boolsD ds
  | [] => rfl
  | d :: ds => by cases d <;> simp [boolsD, boolsD_sh n ds]
theorem strsD_sh (n : Nat) : ∀ ds : List D, strsD (ds.map (shD n)) = strsD ds
  | [] => rfl
  | d :: ds => by cases d <;> simp [strsD, strsD_sh n ds]
theorem keyOf_sh (n : Nat) (d : D) : keyOf (shD n d) = keyOf d := by
  cases d with
  | tup k ds => cases k <;> simp [keyOf, intsD_sh]
  | _ => simp [keyOf]
theorem lookK_sh (n : Nat) (k : List Int) : ∀ (ks : List (List Int)) (vs : List D), lookK k ks (vs.map (shD n)) = (lookK k ks vs).map (shD n)
  | [], vs => by cases vs <;> rfl
  | a :: ks, [] => rfl
  | a :: ks, v :: vs => by
    simp only [List.map_cons, lookK]
    split
    · rfl
    · exact lookK_sh n k ks vs
theorem putV_sh (n : Nat) (k : List Int) (x : D) : ∀ (ks : List (List Int)) (vs : List D), putV k (shD n x) ks (vs.map (shD n)) = (putV k x ks vs).map (shD n)
  | [], vs => by cases vs <;> rfl
  | a :: ks, [] => rfl
  | a :: ks, v :: vs => by
    simp only [List.map_cons, putV, putV_sh n k x ks vs]
    split <;> rfl
theorem putK_sh (n : Nat) (k : List Int) (x : D) (ks : List (List Int)) (vs : List D) : putK k (shD n x) ks (vs.map (shD n)) = ((putK k x ks vs).1, (putK k x ks vs).2.map (shD n)) := by
  unfold putK
  cases hasK k ks
  · simp
  · simp [putV_sh]
theorem okb_sh (c : Bool) (d d' : D) (st : Sto) (h : d' = shD (List.length s0) d) : okb c d' (shS s0 st) = shR s0 (shD (List.length s0)) (okb c d st) := by
  subst h
  cases c <;> rfl
theorem okO_sh (b : Option Bool) (st : Sto) : okO b (shS s0 st) = shR s0 (shD (List.length s0)) (okO b st) := by
  cases b with
  | none => rfl
  | some b => show R.ok (.bl b) _ = R.ok (shD (List.length s0) (.bl b)) _; rw [sh_bl]
theorem okd_sh (o o' : Option D) (st : Sto) (h : o' = o.map (shD (List.length s0))) : okd o' (shS s0 st) = shR s0 (shD (List.length s0)) (okd o st) := by
  subst h
  cases o <;> rfl
theorem ok_sh (d d' : D) (st : Sto) (h : d' = shD (List.length s0) d) : R.ok d' (shS s0 st) = shR s0 (shD (List.length s0)) (.ok d st) := by subst h; rfl
theorem binD_sh (o : BO) (x y : D) (st : Sto) : binD o (shD (List.length s0) x) (shD (List.length s0) y) (shS s0 st) = shR s0 (shD (List.length s0)) (binD o x y st) := by
  cases x with
  | int i => cases y with
    | int j => cases o <;> simp only [binD, sh_int] <;> first | exact ok_sh _ _ _ (by simp) | exact okb_sh _ _ _ _ (by simp)
    | _ => cases o <;> simp [binD, shR]
  | str i => cases y with
    | str j => cases o <;> simp only [binD, sh_str] <;> first | exact okb_sh _ _ _ _ (by simp) | rfl
    | _ => cases o <;> simp [binD, shR]
  | lst i => cases y with
    | lst j => cases o <;> simp only [binD, sh_lst, List.length_map] <;> first | exact okb_sh _ _ _ _ (by simp) | rfl
    | _ => cases o <;> simp [binD, shR]
  | tup b i => cases y with
    | tup c j => cases o <;> simp only [binD, sh_tup, List.length_map] <;> first | rfl | (refine okb_sh _ _ _ _ ?_; simp only [isE]; repeat' split
                                                                                          all_goals simp_all)
    | _ => cases o <;> simp [binD, shR]
  | _ => cases o <;> simp [binD, shR]
theorem isIn_sh (n : Nat) (x y : D) : isIn (shD n x) (shD n y) = isIn x y := by
  cases y with
  | tup k ds => simp only [sh_tup, isIn, flat_sh, all_map, any_map, eqv_sh]
  | lst ds => simp only [sh_lst, isIn, flat_sh, all_map, any_map, eqv_sh]
  | str s => cases x <;> simp [isIn]
  | _ => simp [isIn]
theorem isSame_sh (n : Nat) (x y : D) : isSame (shD n x) (shD n y) = isSame x y := by
  cases y with
  | non => cases x <;> simp [isSame]
  | _ => cases x <;> simp [isSame]
theorem cmpD_sh (n : Nat) (o : CO) (x y : D) : cmpD o (shD n x) (shD n y) = cmpD o x y := by
  cases o with
  | eq => simp only [cmpD, data_sh, eqv_sh]
  | ne => simp only [cmpD, data_sh, eqv_sh]
  | isin => simp only [cmpD, isIn_sh]
  | notin => simp only [cmpD, isIn_sh]
  | is_ => simp only [cmpD, isSame_sh]
  | isnot => simp only [cmpD, isSame_sh]
  | _ => cases x <;> cases y <;> simp [cmpD, intsD_sh]
theorem atI_sh (n : Nat) (ds : List D) (k : Int) : atI (ds.map (shD n)) k = (atI ds k).map (shD n) := by
  unfold atI
  rw [List.length_map]
  cases ixN ds.length k <;> simp
theorem getMO_sh (st : Sto) (j : Nat) : getMO (shS s0 st) ((List.length s0) + j) = (getMO st j).map (shM (List.length s0)) := by
  unfold getMO shS
  rw [List.getElem?_append_right (by omega), Nat.add_sub_cancel_left, List.getElem?_map]
  rcases st[j]? with _ | (_ | m) <;> rfl
theorem idxD_sh (x i : D) (st : Sto) : idxD (shD (List.length s0) x) (shD (List.length s0) i) (shS s0 st) = shR s0 (shD (List.length s0)) (idxD x i st) := by
  cases x with
  | tup k ds => cases i with
    | int j => simp only [sh_tup, sh_int, idxD, atI_sh]; exact okd_sh _ _ _ rfl
    | _ => simp [idxD, shR]
  | lst ds => cases i with
    | int j => simp only [sh_lst, sh_int, idxD, atI_sh]; exact okd_sh _ _ _ rfl
    | _ => simp [idxD, shR]
  | str s => cases i with
    | int j =>
      simp only [sh_str, sh_int, idxD]
      cases fits s.length <;> cases atI s j <;> simp [shR]
    | _ => simp [idxD, shR]
  | ref r => cases i with
    | int j =>
      simp only [sh_ref, sh_int, idxD, getMO_sh]
      cases getMO st r with
      | none => rfl
      | some m => cases m with
        | lst ds => simp only [Option.map_some, shM, atI_sh]; exact okd_sh _ _ _ rfl
        | dct ks vs => rfl
    | _ => simp [idxD, shR]
  | dct ks vs => cases i with
    | tup q t =>
      have := keyOf_sh (List.length s0) (.tup q t)
      simp only [sh_tup] at this
      simp only [sh_dct, sh_tup, idxD, this]
      cases keyOf (.tup q t) with
      | none => rfl
      | some k => simp only [lookK_sh]; exact okd_sh _ _ _ rfl
    | _ => simp [idxD, shR]
  | _ => simp [idxD, shR]
theorem cut_sh (n : Nat) (ds : List D) (lo hi : Option Int) : cut (ds.map (shD n)) lo hi = (cut ds lo hi).map (shD n) := by
  unfold cut
  rw [List.length_map, ← List.map_drop, ← List.map_take]
theorem slcD_sh (x : D) (lo hi : Option Int) (st : Sto) : slcD (shD (List.length s0) x) lo hi (shS s0 st) = shR s0 (shD (List.length s0)) (slcD x lo hi st) := by
  cases x with
  | str s => simp only [sh_str, slcD]; exact okb_sh _ _ _ _ (by simp)
  | lst ds => simp only [sh_lst, slcD, cut_sh]; exact ok_sh _ _ _ (by simp)
  | tup k ds => simp only [sh_tup, slcD, cut_sh, List.length_map]; refine ok_sh _ _ _ ?_; split <;> simp
  | _ => simp [slcD, shR]
theorem set_sh (st : Sto) (j : Nat) (m : Option MO) : (shS s0 st).set ((List.length s0) + j) (m.map (shM (List.length s0))) = shS s0 (st.set j m) := by
  unfold shS
  rw [List.set_append_right _ _ (by omega), Nat.add_sub_cancel_left, List.map_set]
theorem setD_sh (x i v : D) (st : Sto) : setD (shD (List.length s0) x) (shD (List.length s0) i) (shD (List.length s0) v) (shS s0 st) = shR s0 id (setD x i v st) := by
  cases x with
  | ref r => cases i with
    | int j =>
      simp only [sh_ref, sh_int, setD, getMO_sh]
      cases getMO st r with
      | none => rfl
      | some m => cases m with
        | dct ks vs => rfl
        | lst ds =>
          simp only [Option.map_some, shM, List.length_map]
          cases ixN ds.length j with
          | none => rfl
          | some q =>
            have := set_sh (s0 := s0) st r (some (.lst (ds.set q v)))
            simp only [Option.map_some, shM, List.map_set] at this
            simp only [shR, id, ← this]
    | tup q t =>
      have kk := keyOf_sh (List.length s0) (.tup q t)
      simp only [sh_tup] at kk
      simp only [sh_ref, sh_tup, setD, getMO_sh, kk]
      cases keyOf (.tup q t) with
      | none => rfl
      | some k => cases getMO st r with
        | none => rfl
        | some m => cases m with
          | lst ds => rfl
          | dct ks vs =>
            simp only [Option.map_some, shM]
            cases fits ks.length with
            | false => rfl
            | true =>
              have := set_sh (s0 := s0) st r (some (.dct (putK k v ks vs).1 (putK k v ks vs).2))
              simp only [Option.map_some, shM] at this
              simp only [shR, id, ← this, putK_sh]
    | _ => simp [setD, shR]
  | _ => simp [setD, shR]
theorem alloc_sh (m : MO) (st : Sto) : alloc (shM (List.length s0) m) (shS s0 st) = shR s0 (shD (List.length s0)) (alloc m st) := by
  unfold alloc shR shS
  simp
theorem insR_sh (lt : D → D → Bool) (n : Nat) (hl : ∀ a b, lt (shD n a) (shD n b) = lt a b) (x : D) : ∀ ys : List D, insR lt (shD n x) (ys.map (shD n)) = (insR lt x ys).map (shD n)
  | [] => rfl
  | y :: ys => by
    simp only [List.map_cons, insR, hl, insR_sh lt n hl x ys]
    split <;> rfl
theorem isort_sh (lt : D → D → Bool) (n : Nat) (hl : ∀ a b, lt (shD n a) (shD n b) = lt a b) : ∀ xs : List D, isort lt (xs.map (shD n)) = (isort lt xs).map (shD n)
  | [] => rfl
  | x :: xs => by simp only [List.map_cons, isort, isort_sh lt n hl xs, insR_sh lt n hl]
theorem firstOk_sh (n : Nat) (d : D) : firstOk (shD n d) = firstOk d := by
  cases d with
  | tup k ds => cases ds <;> simp [firstOk]
  | _ => simp [firstOk]
theorem sortable_sh (n : Nat) (ds : List D) : sortable (ds.map (shD n)) = sortable ds := by
  cases ds with
  | nil => rfl
  | cons d ds => simp [sortable, firstOk_sh, all_map, data_sh, alike_sh, Function.comp_def]
theorem isTy_sh (n : Nat) (t : Ty) (d : D) : isTy t (shD n d) = isTy t d := by cases t <;> cases d <;> simp [isTy]
theorem ofKey_cl (k : List Int) : clD (ofKey k) = true := by
  unfold ofKey
  simp only [clD]
  induction k with
  | nil => rfl
  | cons a k ih => simp [clDs, clD, ih]
theorem ofKey_sh (n : Nat) (k : List Int) : shD n (ofKey k) = ofKey k := sh_cl n _ (ofKey_cl k)
theorem ofKeys_sh (n : Nat) (ks : List (List Int)) : (ks.map ofKey).map (shD n) = ks.map ofKey := by
  rw [List.map_map]
  exact List.map_congr_left fun k _ => ofKey_sh n k
theorem map_ints (n : Nat) (ns : List Int) : (ns.map D.int).map (shD n) = ns.map D.int := by simp [Function.comp_def]
theorem map_chs (n : Nat) (s : List Nat) : (s.map fun c => D.str [c]).map (shD n) = s.map fun c => D.str [c] := by simp [Function.comp_def]
/-- one part -/
theorem bf1_sh (f : BF) (d : D) (st : Sto) : bfD f [shD (List.length s0) d] (shS s0 st) = shR s0 (shD (List.length s0)) (bfD f [d] st) := by
  cases f with
  | isinst t => simp only [bfD, isTy_sh]; exact okO_sh _ _
  | len => cases d <;> simp only [sh_str, sh_tup, sh_lst, sh_non, sh_bl, sh_int, sh_dct, sh_ref, sh_fn, sh_scr, sh_exn, bfD, List.length_map] <;> first | rfl | exact okb_sh _ _ _ _ (by simp) | exact ok_sh _ _ _ (by simp)
  | abs => cases d <;> simp only [sh_str, sh_tup, sh_lst, sh_non, sh_bl, sh_int, sh_dct, sh_ref, sh_fn, sh_scr, sh_exn, bfD] <;> first | rfl | exact ok_sh _ _ _ (by simp)
  | int => cases d <;> simp only [sh_str, sh_tup, sh_lst, sh_non, sh_bl, sh_int, sh_dct, sh_ref, sh_fn, sh_scr, sh_exn, bfD] <;> first | rfl | exact okb_sh _ _ _ _ (by simp) | exact ok_sh _ _ _ (by simp)
  | str => cases d <;> simp only [sh_str, sh_tup, sh_lst, sh_non, sh_bl, sh_int, sh_dct, sh_ref, sh_fn, sh_scr, sh_exn, bfD] <;> first | rfl | exact okb_sh _ _ _ _ (by simp)
  | maxl => cases d with
    | lst ds =>
      simp only [sh_lst, bfD, intsD_sh]
      cases intsD ds with
      | none => rfl
      | some is => cases h : maxL is <;> simp [h, shR]
    | _ => simp [bfD, shR]
  | sorted => cases d with
    | lst ds => simp only [sh_lst, bfD, sortable_sh, sortD, isort_sh D.lt (List.length s0) (lt_sh (List.length s0))]; exact okb_sh _ _ _ _ (by simp)
    | dct ks vs =>
      simp only [sh_dct, bfD]
      refine okb_sh _ _ _ _ ?_
      rw [sh_lst]
      unfold sortD
      rw [← isort_sh D.lt (List.length s0) (lt_sh (List.length s0)), ofKeys_sh]
    | _ => simp [bfD, shR]
  | tuple => cases d <;> simp only [sh_str, sh_tup, sh_lst, sh_non, sh_bl, sh_int, sh_dct, sh_ref, sh_fn, sh_scr, sh_exn, bfD] <;> first | rfl | exact ok_sh _ _ _ (by simp)
  | list => cases d <;> simp only [sh_str, sh_tup, sh_lst, sh_non, sh_bl, sh_int, sh_dct, sh_ref, sh_fn, sh_scr, sh_exn, bfD] <;> first | rfl | exact ok_sh _ _ _ (by simp [Function.comp_def]) | exact okb_sh _ _ _ _ (by simp [Function.comp_def])
  | any => cases d with
    | lst ds =>
      simp only [sh_lst, bfD, boolsD_sh]
      cases h : boolsD ds <;> simp [h, shR]
    | _ => simp [bfD, shR]
  | all => cases d with
    | lst ds =>
      simp only [sh_lst, bfD, boolsD_sh]
      cases h : boolsD ds <;> simp [h, shR]
    | _ => simp [bfD, shR]
  | _ => simp [bfD, shR]
theorem bfD_sh (f : BF) (ds : List D) (st : Sto) : bfD f (ds.map (shD (List.length s0))) (shS s0 st) = shR s0 (shD (List.length s0)) (bfD f ds st) := by
  match ds with
  | [] => cases f <;> rfl
  | [d] => exact bf1_sh f d st
  | [a, b] =>
    cases f with
    | max2 => cases a <;> cases b <;> simp [bfD, shR]
    | min2 => cases a <;> cases b <;> simp [bfD, shR]
    | gcd => cases a <;> cases b <;> simp [bfD, shR]
    | _ => simp [bfD, shR]
  | a :: b :: c :: r => cases f <;> simp [bfD, shR]
theorem mtTy_sh (m : MF) (o : D) (st : Sto) : mtTy m (shD (List.length s0) o) (shS s0 st) = mtTy m o st := by
  cases o with
  | ref r =>
    cases m <;> simp only [sh_ref, mtTy, getMO_sh]
    all_goals (cases getMO st r with
      | none => rfl
      | some q => cases q <;> rfl)
  | _ => cases m <;> simp [mtTy]
theorem mtD_sh (m : MF) (o : D) (ds : List D) (st : Sto) : mtD m (shD (List.length s0) o) (ds.map (shD (List.length s0))) (shS s0 st) = shR s0 (shD (List.length s0)) (mtD m o ds st) := by
  cases m with
  | index => cases o with
    | str s => match ds with
      | [] => rfl
      | [d] => cases d with
        | str c => match c with
          | [] => simp [mtD, shR]
          | [c] =>
            simp only [List.map_cons, List.map_nil, sh_str, mtD]
            cases fits s.length <;> cases findIx c s 0 <;> simp [shR]
          | a :: b :: c => simp [mtD, shR]
        | _ => simp [mtD, shR]
      | a :: b :: c => simp [mtD, shR]
    | _ => simp [mtD, shR]
  | get2 => cases o with
    | dct ks vs => match ds with
      | [a, d] => cases a with
        | tup q t =>
          have kk := keyOf_sh (List.length s0) (.tup q t)
          simp only [sh_tup] at kk
          simp only [List.map_cons, List.map_nil, sh_dct, sh_tup, mtD, kk]
          cases keyOf (.tup q t) with
          | none => rfl
          | some k =>
            simp only [lookK_sh]
            refine ok_sh _ _ _ ?_
            cases lookK k ks vs <;> rfl
        | _ => simp [mtD, shR]
      | [] => simp [mtD, shR]
      | [a] => simp [mtD, shR]
      | a :: b :: c :: r => simp [mtD, shR]
    | ref j => match ds with
      | [a, d] => cases a with
        | tup q t =>
          have kk := keyOf_sh (List.length s0) (.tup q t)
          simp only [sh_tup] at kk
          simp only [List.map_cons, List.map_nil, sh_ref, sh_tup, mtD, kk, getMO_sh]
          cases keyOf (.tup q t) with
          | none => rfl
          | some k => cases getMO st j with
            | none => rfl
            | some q => cases q with
              | lst ds => rfl
              | dct ks vs =>
                simp only [Option.map_some, shM, lookK_sh]
                refine ok_sh _ _ _ ?_
                cases lookK k ks vs <;> rfl
        | _ => simp [mtD, shR]
      | [] => simp [mtD, shR]
      | [a] => simp [mtD, shR]
      | a :: b :: c :: r => simp [mtD, shR]
    | _ => simp [mtD, shR]
  | join => cases o with
    | str s => match ds with
      | [] => rfl
      | [d] => cases d with
        | lst xs =>
          simp only [List.map_cons, List.map_nil, sh_str, sh_lst, mtD, strsD_sh]
          cases strsD xs with
          | none => rfl
          | some ys => exact okb_sh _ _ _ _ (by simp)
        | _ => simp [mtD, shR]
      | a :: b :: c => simp [mtD, shR]
    | _ => simp [mtD, shR]
  | append => cases o with
    | ref j => match ds with
      | [] => rfl
      | [d] =>
        simp only [List.map_cons, List.map_nil, sh_ref, mtD, getMO_sh]
        cases getMO st j with
        | none => rfl
        | some q => cases q with
          | dct ks vs => rfl
          | lst xs =>
            simp only [Option.map_some, shM, List.length_map]
            cases fits xs.length with
            | false => rfl
            | true =>
              have := set_sh (s0 := s0) st j (some (.lst (xs ++ [d])))
              simp only [Option.map_some, shM, List.map_append, List.map_cons, List.map_nil] at this
              simp only [shR, sh_non, ← this]
      | a :: b :: c => simp [mtD, shR]
    | _ => simp [mtD, shR]
  | _ => cases o with
    | str s => match ds with
      | [] => simp only [List.map_nil, sh_str, mtD]; exact okb_sh _ _ _ _ (by simp)
      | a :: b => simp [mtD, shR]
    | _ => simp [mtD, shR]
theorem repD_sh (m : Bool) (x y : D) (st : Sto) : repD m (shD (List.length s0) x) (shD (List.length s0) y) (shS s0 st) = shR s0 (shD (List.length s0)) (repD m x y st) := by
  have fl : ∀ (k : Nat) (ds : List D), (List.replicate k (ds.map (shD (List.length s0)))).flatten = (List.replicate k ds).flatten.map (shD (List.length s0)) := by
    intro k ds
    induction k with
    | zero => rfl
    | succ k ih => rw [List.replicate_succ, List.replicate_succ, List.flatten_cons, List.flatten_cons, ih, List.map_append]
  cases x with
  | lst ds => cases y with
    | int k =>
      have e : ∀ (x : List D) (st : Sto), repD m (.lst x) (.int k) st = match decide (k < 1000000) && decide (-1000000 < k) && fits (x.length * k.toNat), m with
        | true, false => .ok (.lst (List.replicate k.toNat x).flatten) st
        | true, true => alloc (.lst (List.replicate k.toNat x).flatten) st
        | false, _ => .bad := fun x st => by unfold repD; rfl
      simp only [sh_lst, sh_int]
      rw [e, e, List.length_map, fl]
      generalize (decide (k < 1000000) && decide (-1000000 < k) && fits (ds.length * k.toNat)) = c
      cases c with
      | false => cases m <;> rfl
      | true => cases m with
        | false => exact ok_sh _ _ _ (by simp)
        | true => exact alloc_sh (.lst (List.replicate k.toNat ds).flatten) st
    | _ => simp [repD, shR]
  | _ => simp [repD, shR]
/-! ### targets, sequences -/
theorem asgT_sh (n : Nat) : ∀ (tg : T) (d : D) (δ : Sl), asgT tg (shD n d) (shSl n δ) = (asgT tg d δ).map (shSl n)
  | .n i, d, δ => by
    unfold asgT
    rw [show (shSl n δ).length = δ.length from List.length_map _]
    split
    · simp [shSl, List.map_set]
    · rfl
  | .t2 a b, d, δ => by
    cases d with
    | tup k ds => match ds with
      | [] => simp [asgT]
      | [x] => simp [asgT]
      | [x, y] =>
        simp only [sh_tup, List.map_cons, List.map_nil, asgT, asgT_sh n a]
        cases asgT a x δ with
        | none => rfl
        | some δ1 => simp only [Option.map_some, Option.bind_some, asgT_sh n b]
      | x :: y :: z :: r => simp [asgT]
    | _ => simp [asgT]
  | .t3 a b c, d, δ => by
    cases d with
    | tup k ds => match ds with
      | [] => simp [asgT]
      | [x] => simp [asgT]
      | [x, y] => simp [asgT]
      | [x, y, z] =>
        simp only [sh_tup, List.map_cons, List.map_nil, asgT, asgT_sh n a]
        cases asgT a x δ with
        | none => rfl
        | some δ1 =>
          simp only [Option.map_some, Option.bind_some, asgT_sh n b]
          cases asgT b y δ1 with
          | none => rfl
          | some δ2 => simp only [Option.map_some, Option.bind_some, asgT_sh n c]
      | x :: y :: z :: w :: r => simp [asgT]
    | _ => simp [asgT]
theorem wipe_sh (n : Nat) (δ : Sl) : ∀ ws : List Nat, wipe (shSl n δ) ws = shSl n (wipe δ ws)
  | [] => rfl
  | w :: ws => by
    unfold wipe
    rw [wipe_sh n δ ws]
    simp [shSl, List.map_set]
theorem rangeD_sh (n : Nat) : ∀ (k : Nat) (lo : Int), (rangeD lo k).map (shD n) = rangeD lo k
  | 0, _ => rfl
  | k + 1, lo => by simp [rangeD, rangeD_sh n k]
theorem enumD_sh (n : Nat) : ∀ (ds : List D) (i : Int), enumD i (ds.map (shD n)) = (enumD i ds).map (shD n)
  | [], _ => rfl
  | d :: ds, i => by simp [enumD, enumD_sh n ds]
theorem zipD_sh (n : Nat) : ∀ (xs ys : List D), zipD (xs.map (shD n)) (ys.map (shD n)) = (zipD xs ys).map (shD n)
  | [], ys => by cases ys <;> rfl
  | x :: xs, [] => rfl
  | x :: xs, y :: ys => by simp [zipD, zipD_sh n xs]
theorem seqOf_sh (n : Nat) (d : D) : seqOf (shD n d) = (seqOf d).map (List.map (shD n)) := by
  cases d with
  | str s =>
    simp only [sh_str, seqOf]
    split <;> simp [Function.comp_def]
  | _ => simp [seqOf]
theorem seqE_sh (n : Nat) (d : D) : seqE (shD n d) = (seqE d).map (List.map (shD n)) := by
  cases d with
  | str s =>
    simp only [sh_str, seqE]
    split <;> simp [Function.comp_def]
  | _ => simp [seqE]
theorem zipS_sh (n : Nat) (x y : D) : zipS (shD n x) (shD n y) = (zipS x y).map (List.map (shD n)) := by
  cases x <;> cases y <;> simp [zipS, zipD_sh]
theorem mapR_sh {f f' : D → Sto → R (Option D)} (hf : ∀ d st, f' (shD (List.length s0) d) (shS s0 st) = shR s0 (Option.map (shD (List.length s0))) (f d st)) : ∀ (ds acc : List D) (st : Sto), mapR f' (ds.map (shD (List.length s0))) (acc.map (shD (List.length s0))) (shS s0 st) = shR s0 (List.map (shD (List.length s0))) (mapR f ds acc st)
  | [], acc, st => by simp [mapR, shR]
  | d :: ds, acc, st => by
    simp only [List.map_cons, mapR]
    refine bind_sh (hf d st) fun o st1 => ?_
    cases o with
    | none => exact mapR_sh hf ds acc st1
    | some y => exact mapR_sh hf ds (y :: acc) st1
theorem tst_sh {t : Bool} {r r' : R D} (e : r' = shR s0 (shD (List.length s0)) r) : tst t r' = shR s0 (shD (List.length s0)) (tst t r) := by
  cases t with
  | false => exact e
  | true => exact bind_sh e fun d st => by rw [truth_sh]; exact okO_sh _ _
end
end PVL
set_option Elab.async false
set_option linter.all false
set_option maxRecDepth 10000
/-! PF2: the frame rule of the evaluator. -/
namespace PVL
open PV
mutual
/-- constants without references -/
def clE : E → Bool
  | .c d => clD d
  | .v _ => true
  | .bin _ a b => clE a && clE b
  | .neg a => clE a
  | .not a => clE a
  | .and a b => clE a && clE b
  | .or a b => clE a && clE b
  | .cmp _ a b => clE a && clE b
  | .cmp2 _ _ a b c => clE a && clE b && clE c
  | .ite a b c => clE a && clE b && clE c
  | .call _ es => clEs es
  | .bf _ es => clEs es
  | .mt _ o es => clE o && clEs es
  | .idx a b => clE a && clE b
  | .slc a lo hi => clE a && clO lo && clO hi
  | .tup es => clEs es
  | .lst _ es => clEs es
  | .dnew _ => true
  | .dstar a k v => clE a && clE k && clE v
  | .srtS a => clE a
  | .rev a => clE a
  | .rep _ a n => clE a && clE n
  | .lc _ _ it c e => clI it && clO c && clE e
  | .lcK _ _ _ c e => clO c && clE e
  | .bad => true
def clEs : Es → Bool
  | .nil => true
  | .cons e es => clE e && clEs es
def clO : Eo → Bool
  | .none => true
  | .some e => clE e
def clI : I → Bool
  | .of e => clE e
  | .rng a => clE a
  | .rng2 a b => clE a && clE b
  | .enum e => clE e
  | .zip a b => clE a && clE b
end
mutual
def clS : S → Bool
  | .asg _ e => clE e
  | .par _ _ a b => clE a && clE b
  | .sub o i e => clE o && clE i && clE e
  | .ex e => clE e
  | .ret e => clE e
  | .retN => true
  | .ite t a b => clE t && clSs a && clSs b
  | .fr _ it b => clI it && clSs b
  | .wh t b => clE t && clSs b
  | .frK _ _ b => clSs b
  | .rse _ e => clE e
  | .tryPl _ _ b => clSs b
  | .fz _ => true
  | .pass => true
  | .bk => true
  | .ct => true
  | .bad => true
def clSs : Ss → Bool
  | .nil => true
  | .cons s ss => clS s && clSs ss
end
section
variable {s0 : Sto} {call : Nat → List D → Sto → R D}
theorem get_sh (n : Nat) (δ : Sl) (i : Nat) : (shSl n δ)[i]? = (δ[i]?).map (Option.map (shD n)) := by simp [shSl]
theorem evK_sh {r : R D} {r' : R D} {f f' : D → Sto → R D} {t : Bool} (e : r' = shR s0 (shD (List.length s0)) r) (hf : ∀ a st, f' (shD (List.length s0) a) (shS s0 st) = shR s0 (shD (List.length s0)) (f a st)) : tst t (r'.bind f') = shR s0 (shD (List.length s0)) (tst t (r.bind f)) :=
  tst_sh (bind_sh e hf)
theorem sh_bl_inv {n : Nat} {d : D} {b : Bool} (h : shD n d = .bl b) : d = .bl b := by cases d <;> simp_all
theorem comp_sh {δ : Sl} {ws : List Nat} {tg : T} {c c' : Sl → Sto → R Bool} {v v' : Sl → Sto → R D} (hc : ∀ δ st, c' (shSl (List.length s0) δ) (shS s0 st) = shR s0 id (c δ st)) (hv : ∀ δ st, v' (shSl (List.length s0) δ) (shS s0 st) = shR s0 (shD (List.length s0)) (v δ st)) (d : D) (st : Sto) :
    (match (tg.ix.all fun i => ws.contains i), asgT tg (shD (List.length s0) d) (wipe (shSl (List.length s0) δ) ws) with
        | true, some δ1 => (c' δ1 (shS s0 st)).bind fun b st2 => match b with
          | true => (v' δ1 st2).bind fun y st3 => .ok (some y) st3
          | false => .ok none st2
        | _, _ => .bad) = shR s0 (Option.map (shD (List.length s0))) (match (tg.ix.all fun i => ws.contains i), asgT tg d (wipe δ ws) with
        | true, some δ1 => (c δ1 st).bind fun b st2 => match b with
          | true => (v δ1 st2).bind fun y st3 => .ok (some y) st3
          | false => .ok none st2
        | _, _ => .bad) := by
  rw [wipe_sh, asgT_sh]
  cases (tg.ix.all fun i => ws.contains i) with
  | false => rfl
  | true => cases asgT tg d (wipe δ ws) with
    | none => rfl
    | some δ1 =>
      refine bind_sh (hc δ1 st) fun b st2 => ?_
      cases b with
      | false => rfl
      | true => exact bind_sh (hv δ1 st2) fun y st3 => rfl
/-- one item of a comprehension -/
def compK (tg : T) (ws : List Nat) (c : Sl → Sto → R Bool) (v : Sl → Sto → R D) (δ : Sl) : D → Sto → R (Option D) := fun d st => match (tg.ix.all fun i => ws.contains i), asgT tg d (wipe δ ws) with
        | true, some δ1 => (c δ1 st).bind fun b st2 => match b with
          | true => (v δ1 st2).bind fun y st3 => .ok (some y) st3
          | false => .ok none st2
        | _, _ => .bad
theorem mapC_sh {δ : Sl} {ws : List Nat} {tg : T} {c c' : Sl → Sto → R Bool} {v v' : Sl → Sto → R D} (hc : ∀ δ st, c' (shSl (List.length s0) δ) (shS s0 st) = shR s0 id (c δ st)) (hv : ∀ δ st, v' (shSl (List.length s0) δ) (shS s0 st) = shR s0 (shD (List.length s0)) (v δ st)) (ds : List D) (st : Sto) :
    mapR (compK tg ws c' v' (shSl (List.length s0) δ)) (ds.map (shD (List.length s0))) [] (shS s0 st) = shR s0 (List.map (shD (List.length s0))) (mapR (compK tg ws c v δ) ds [] st) :=
  mapR_sh (f := compK tg ws c v δ) (f' := compK tg ws c' v' (shSl (List.length s0) δ)) (fun d st => comp_sh hc hv d st) ds [] st
variable (hc : ∀ f ds st, call f (ds.map (shD s0.length)) (shS s0 st) = shR s0 (shD s0.length) (call f ds st))
include hc
mutual
theorem ev_sh : ∀ (e : E) (t : Bool) (δ : Sl) (st : Sto), clE e = true → ev call e t (shSl (List.length s0) δ) (shS s0 st) = shR s0 (shD (List.length s0)) (ev call e t δ st)
  | .c d, t, δ, st, h => by
    simp only [clE] at h
    exact tst_sh (ok_sh _ _ _ (sh_cl _ _ h).symm)
  | .v i, t, δ, st, h => by
    rw [ev_v, ev_v]
    refine tst_sh ?_
    rw [get_sh]
    rcases δ[i]? with _ | (_ | d) <;> rfl
  | .bin o a b, t, δ, st, h => by
    simp only [clE, Bool.and_eq_true] at h
    exact evK_sh (ev_sh a false δ st h.1) fun x st1 => bind_sh (ev_sh b false δ st1 h.2) fun y st2 => binD_sh o x y st2
  | .neg a, t, δ, st, h => by
    simp only [clE] at h
    refine evK_sh (ev_sh a false δ st h) fun x st1 => ?_
    cases x <;> simp [shR]
  | .not a, t, δ, st, h => by
    simp only [clE] at h
    refine bind_sh (ev_sh a t δ st h) fun x st1 => ?_
    cases x <;> simp [shR]
  | .and a b, t, δ, st, h => by
    simp only [clE, Bool.and_eq_true] at h
    refine bind_sh (ev_sh a t δ st h.1) fun x st1 => ?_
    cases x with
    | bl b' => cases b' <;> simp only [sh_bl] <;> first | exact ev_sh b t δ st1 h.2 | exact ok_sh _ _ _ (by simp)
    | _ => simp [shR]
  | .or a b, t, δ, st, h => by
    simp only [clE, Bool.and_eq_true] at h
    refine bind_sh (ev_sh a t δ st h.1) fun x st1 => ?_
    cases x with
    | bl b' => cases b' <;> simp only [sh_bl] <;> first | exact ev_sh b t δ st1 h.2 | exact ok_sh _ _ _ (by simp)
    | _ => simp [shR]
  | .cmp o a b, t, δ, st, h => by
    simp only [clE, Bool.and_eq_true] at h
    refine bind_sh (ev_sh a false δ st h.1) fun x st1 => bind_sh (ev_sh b false δ st1 h.2) fun y st2 => ?_
    rw [cmpD_sh]
    exact okO_sh _ _
  | .cmp2 o p a b c, t, δ, st, h => by
    simp only [clE, Bool.and_eq_true] at h
    refine bind_sh (ev_sh a false δ st h.1.1) fun x st1 => bind_sh (ev_sh b false δ st1 h.1.2) fun y st2 => ?_
    rw [cmpD_sh]
    cases cmpD o x y with
    | none => rfl
    | some b' => cases b' with
      | false => exact ok_sh _ _ _ (by simp)
      | true => exact bind_sh (ev_sh c false δ st2 h.2) fun z st3 => by rw [cmpD_sh]; exact okO_sh _ _
  | .ite c a b, t, δ, st, h => by
    simp only [clE, Bool.and_eq_true] at h
    refine evK_sh (ev_sh c true δ st h.1.1) fun x st1 => ?_
    cases x with
    | bl b' => cases b' <;> simp only [sh_bl] <;> first | exact ev_sh a false δ st1 h.1.2 | exact ev_sh b false δ st1 h.2
    | _ => simp [shR]
  | .call f es, t, δ, st, h => by
    simp only [clE] at h
    exact tst_sh (bind_sh (evs_sh es δ st h) fun ds st1 => hc f ds st1)
  | .bf f es, t, δ, st, h => by
    simp only [clE] at h
    exact tst_sh (bind_sh (evs_sh es δ st h) fun ds st1 => bfD_sh f ds st1)
  | .mt m o es, t, δ, st, h => by
    simp only [clE, Bool.and_eq_true] at h
    refine evK_sh (ev_sh o false δ st h.1) fun x st1 => ?_
    rw [mtTy_sh]
    cases mtTy m x st1 with
    | false => rfl
    | true => exact bind_sh (evs_sh es δ st1 h.2) fun ds st2 => mtD_sh m x ds st2
  | .idx a b, t, δ, st, h => by
    simp only [clE, Bool.and_eq_true] at h
    exact evK_sh (ev_sh a false δ st h.1) fun x st1 => bind_sh (ev_sh b false δ st1 h.2) fun y st2 => idxD_sh x y st2
  | .slc a lo hi, t, δ, st, h => by
    simp only [clE, Bool.and_eq_true] at h
    exact evK_sh (ev_sh a false δ st h.1.1) fun x st1 => bind_sh (evo_sh lo δ st1 h.1.2) fun l st2 => bind_sh (evo_sh hi δ st2 h.2) fun r st3 => slcD_sh x l r st3
  | .tup es, t, δ, st, h => by
    simp only [clE] at h
    refine tst_sh (bind_sh (evs_sh es δ st h) fun ds st1 => ?_)
    rw [List.length_map]
    exact okb_sh _ _ _ _ (by simp)
  | .lst m es, t, δ, st, h => by
    simp only [clE] at h
    refine tst_sh (bind_sh (evs_sh es δ st h) fun ds st1 => ?_)
    rw [List.length_map]
    cases fits ds.length with
    | false => cases m <;> rfl
    | true => cases m with
      | false => exact ok_sh _ _ _ (by simp)
      | true => exact alloc_sh (.lst ds) st1
  | .dnew m, t, δ, st, h => by
    cases m with
    | false => exact tst_sh (ok_sh _ _ _ (by simp))
    | true => exact tst_sh (alloc_sh (.dct [] []) st)
  | .srtS a, t, δ, st, h => by
    simp only [clE] at h
    refine evK_sh (ev_sh a false δ st h) fun x st1 => ?_
    cases x with
    | lst ds =>
      have kf : ∀ d : D, kfS (shD (List.length s0) d) = kfS d ∧ kgS (shD (List.length s0) d) = kgS d ∧ okS (shD (List.length s0) d) = okS d := fun d => by
        cases d with
        | tup k ds => match ds with
          | [] => simp [kfS, kgS, okS]
          | e :: r => cases e with
            | tup k2 es => match es with
              | [] => simp [kfS, kgS, okS]
              | [i] => cases i <;> simp [kfS, kgS, okS]
              | [i, j] => cases i <;> cases j <;> simp [kfS, kgS, okS]
              | i :: j :: l :: r => cases i <;> cases j <;> simp [kfS, kgS, okS]
            | _ => simp [kfS, kgS, okS]
        | _ => simp [kfS, kgS, okS]
      have lt : ∀ a b, ltS (shD (List.length s0) a) (shD (List.length s0) b) = ltS a b := fun a b => by simp only [ltS, (kf a).1, (kf a).2.1, (kf b).1, (kf b).2.1]
      simp only [sh_lst, srtSD, isort_sh ltS (List.length s0) lt, all_map, (kf _).2.2]
      exact okb_sh _ _ _ _ (by simp)
    | _ => simp [shR]
  | .rev a, t, δ, st, h => by
    simp only [clE] at h
    refine evK_sh (ev_sh a false δ st h) fun x st1 => ?_
    cases x <;> simp [shR]
  | .dstar a k v, t, δ, st, h => by
    simp only [clE, Bool.and_eq_true] at h
    refine tst_sh (bind_sh (noX_sh (ev_sh a false δ st h.1.1)) fun x st1 => ?_)
    cases x with
    | dct ks vs =>
      simp only [sh_dct]
      cases ks.all keyOk && fits ks.length with
      | false => rfl
      | true =>
        refine bind_sh (noX_sh (ev_sh k false δ st1 h.1.2)) fun y st2 => bind_sh (noX_sh (ev_sh v false δ st2 h.2)) fun z st3 => ?_
        rw [keyOf_sh]
        cases keyOf y with
        | none => rfl
        | some k => exact ok_sh _ _ _ (by simp [putK_sh])
    | _ => simp [shR]
  | .rep m a n, t, δ, st, h => by
    simp only [clE, Bool.and_eq_true] at h
    exact evK_sh (ev_sh a false δ st h.1) fun x st1 => bind_sh (ev_sh n false δ st1 h.2) fun y st2 => repD_sh m x y st2
  | .lc ws tg it cond e, t, δ, st, h => by
    simp only [clE, Bool.and_eq_true] at h
    refine tst_sh (bind_sh (evI_sh it δ st h.1.1) fun ds st1 => bind_sh (noX_sh (mapC_sh (fun δ st => evc_sh cond δ st h.1.2) (fun δ st => ev_sh e false δ st h.2) ds st1)) fun ys st2 => ?_)
    rw [List.length_map]
    exact okb_sh _ _ _ _ (by simp)
  | .lcK ws tg i cond e, t, δ, st, h => by
    simp only [clE, Bool.and_eq_true] at h
    refine tst_sh (s0 := s0) ?_
    rw [get_sh]
    rcases δ[i]? with _ | (_ | d)
    · rfl
    · rfl
    · cases d with
      | dct ks vs =>
        simp only [Option.map_some, sh_dct]
        have m := mapC_sh (s0 := s0) (δ := δ) (ws := ws) (tg := tg) (fun δ st => evc_sh cond δ st h.1) (fun δ st => ev_sh e false δ st h.2) (ks.map ofKey) st
        rw [ofKeys_sh] at m
        exact bind_sh (noX_sh m) fun ys st2 => okb_sh _ _ _ _ (by simp)
      | _ => simp [shR]
  | .bad, t, δ, st, h => rfl
theorem evs_sh : ∀ (es : Es) (δ : Sl) (st : Sto), clEs es = true → evs call es (shSl (List.length s0) δ) (shS s0 st) = shR s0 (List.map (shD (List.length s0))) (evs call es δ st)
  | .nil, δ, st, h => rfl
  | .cons e es, δ, st, h => by
    simp only [clEs, Bool.and_eq_true] at h
    exact bind_sh (ev_sh e false δ st h.1) fun d st1 => bind_sh (evs_sh es δ st1 h.2) fun ds st2 => rfl
theorem evo_sh : ∀ (e : Eo) (δ : Sl) (st : Sto), clO e = true → evo call e (shSl (List.length s0) δ) (shS s0 st) = shR s0 id (evo call e δ st)
  | .none, δ, st, h => rfl
  | .some e, δ, st, h => by
    simp only [clO] at h
    refine bind_sh (ev_sh e false δ st h) fun d st1 => ?_
    cases d <;> simp [shR]
theorem evc_sh : ∀ (e : Eo) (δ : Sl) (st : Sto), clO e = true → evc call e (shSl (List.length s0) δ) (shS s0 st) = shR s0 id (evc call e δ st)
  | .none, δ, st, h => rfl
  | .some e, δ, st, h => by
    simp only [clO] at h
    refine bind_sh (ev_sh e true δ st h) fun d st1 => ?_
    cases d <;> simp [shR]
theorem evI_sh : ∀ (it : I) (δ : Sl) (st : Sto), clI it = true → evI call it (shSl (List.length s0) δ) (shS s0 st) = shR s0 (List.map (shD (List.length s0))) (evI call it δ st)
  | .of e, δ, st, h => by
    simp only [clI] at h
    refine bind_sh (ev_sh e false δ st h) fun d st1 => ?_
    rw [seqOf_sh]
    cases seqOf d <;> rfl
  | .rng a, δ, st, h => by
    simp only [clI] at h
    refine bind_sh (ev_sh a false δ st h) fun d st1 => ?_
    cases d with
    | int j => simp only [sh_int]; cases okR j <;> simp [shR, rangeD_sh]
    | _ => simp [shR]
  | .rng2 a b, δ, st, h => by
    simp only [clI, Bool.and_eq_true] at h
    refine bind_sh (ev_sh a false δ st h.1) fun d st1 => bind_sh (ev_sh b false δ st1 h.2) fun e st2 => ?_
    cases d with
    | int i => cases e with
      | int j => simp only [sh_int]; cases okR i && okR j <;> simp [shR, rangeD_sh]
      | _ => simp [shR]
    | _ => simp [shR]
  | .enum e, δ, st, h => by
    simp only [clI] at h
    refine bind_sh (ev_sh e false δ st h) fun d st1 => ?_
    rw [seqE_sh]
    cases seqE d with
    | none => rfl
    | some ds => simp [shR, enumD_sh]
  | .zip a b, δ, st, h => by
    simp only [clI, Bool.and_eq_true] at h
    refine bind_sh (ev_sh a false δ st h.1) fun x st1 => bind_sh (ev_sh b false δ st1 h.2) fun y st2 => ?_
    rw [zipS_sh]
    cases zipS x y <;> rfl
end
omit hc in
theorem nxt_sh (o : Option Sl) (st : Sto) : nxt (o.map (shSl (List.length s0))) (shS s0 st) = shRS s0 (nxt o st) := by cases o <;> rfl
omit hc in
theorem forR_sh {tg : T} {b b' : Sl → Sto → RS} (hb : ∀ δ st, b' (shSl (List.length s0) δ) (shS s0 st) = shRS s0 (b δ st)) : ∀ (ds : List D) (δ : Sl) (st : Sto), forR tg b' (ds.map (shD (List.length s0))) (shSl (List.length s0) δ) (shS s0 st) = shRS s0 (forR tg b ds δ st)
  | [], δ, st => rfl
  | d :: ds, δ, st => by
    simp only [List.map_cons, forR]
    rw [asgT_sh]
    cases asgT tg d δ with
    | none => rfl
    | some δ1 =>
      simp only [Option.map_some]
      rw [hb]
      cases b δ1 st with
      | ok f st2 => cases f <;> first | exact forR_sh hb ds _ _ | rfl
      | exc c p δ2 st2 => rfl
      | bad => rfl
omit hc in
theorem whR_sh {c c' : Sl → Sto → R D} {b b' : Sl → Sto → RS} (hcc : ∀ δ st, c' (shSl (List.length s0) δ) (shS s0 st) = shR s0 (shD (List.length s0)) (c δ st)) (hb : ∀ δ st, b' (shSl (List.length s0) δ) (shS s0 st) = shRS s0 (b δ st)) : ∀ (n : Nat) (δ : Sl) (st : Sto), whR c' b' n (shSl (List.length s0) δ) (shS s0 st) = shRS s0 (whR c b n δ st)
  | 0, δ, st => rfl
  | n + 1, δ, st => by
    unfold whR
    refine thn_sh (hcc δ st) fun x st1 => ?_
    cases x with
    | bl q => cases q with
      | false => simp only [sh_bl]; rfl
      | true =>
        simp only [sh_bl]
        rw [hb]
        cases b δ st1 with
        | ok f st2 => cases f <;> first | exact whR_sh hcc hb n _ _ | rfl
        | exc c p δ2 st2 => rfl
        | bad => rfl
    | _ => simp [shRS]
omit hc in
theorem excOk_sh (n c : Nat) (d : D) : excOk c (shD n d) = excOk c d := by cases c <;> cases d <;> simp [excOk]
variable (room : Bool)
mutual
theorem evS_sh : ∀ (s : S) (δ : Sl) (st : Sto), clS s = true → evS call room s (shSl (List.length s0) δ) (shS s0 st) = shRS s0 (evS call room s δ st)
  | .asg tg e, δ, st, h => by
    simp only [clS] at h
    refine thn_sh (ev_sh hc e false δ st h) fun d st1 => ?_
    rw [asgT_sh]
    exact nxt_sh _ _
  | .par i j a b, δ, st, h => by
    simp only [clS, Bool.and_eq_true] at h
    refine thn_sh (ev_sh hc a false δ st h.1) fun x st1 => thn_sh (ev_sh hc b false δ st1 h.2) fun y st2 => ?_
    rw [show (shSl (List.length s0) δ).length = δ.length from List.length_map _]
    cases Nat.blt i δ.length with
    | false => rfl
    | true => cases Nat.blt j δ.length with
      | false => rfl
      | true => simp [shRS, shF, shSl, List.map_set]
  | .sub o i e, δ, st, h => by
    simp only [clS, Bool.and_eq_true] at h
    exact thn_sh (ev_sh hc e false δ st h.2) fun v st1 => thn_sh (ev_sh hc o false δ st1 h.1.1) fun x st2 => thn_sh (ev_sh hc i false δ st2 h.1.2) fun k st3 => thn_sh (setD_sh x k v st3) fun _ st4 => rfl
  | .ex e, δ, st, h => by
    simp only [clS] at h
    exact thn_sh (ev_sh hc e false δ st h) fun d st1 => rfl
  | .ret e, δ, st, h => by
    simp only [clS] at h
    exact thn_sh (ev_sh hc e false δ st h) fun d st1 => rfl
  | .retN, δ, st, h => by
    show RS.ok (.rt .non) _ = RS.ok (.rt (shD (List.length s0) .non)) _
    rw [sh_non]
  | .ite t a b, δ, st, h => by
    simp only [clS, Bool.and_eq_true] at h
    refine thn_sh (ev_sh hc t true δ st h.1.1) fun x st1 => ?_
    cases x with
    | bl q => cases q <;> simp only [sh_bl] <;> first | exact evSs_sh a δ st1 h.1.2 | exact evSs_sh b δ st1 h.2
    | _ => simp [shRS]
  | .fr tg it b, δ, st, h => by
    simp only [clS, Bool.and_eq_true] at h
    exact thn_sh (evI_sh hc it δ st h.1) fun ds st1 => forR_sh (fun δ st => evSs_sh b δ st h.2) ds δ st1
  | .wh t b, δ, st, h => by
    simp only [clS, Bool.and_eq_true] at h
    exact whR_sh (fun δ st => ev_sh hc t true δ st h.1) (fun δ st => evSs_sh b δ st h.2) turns δ st
  | .frK tg i b, δ, st, h => by
    simp only [clS] at h
    show (match (shSl (List.length s0) δ)[i]? with
      | some (some (.dct ks _)) => noXS (forR tg (fun δ st => evSs call room b δ st) (ks.map ofKey) (shSl (List.length s0) δ) (shS s0 st))
      | _ => .bad) = shRS s0 (match δ[i]? with
      | some (some (.dct ks _)) => noXS (forR tg (fun δ st => evSs call room b δ st) (ks.map ofKey) δ st)
      | _ => .bad)
    rw [get_sh]
    rcases δ[i]? with _ | (_ | d)
    · rfl
    · rfl
    · cases d with
      | dct ks vs =>
        simp only [Option.map_some, sh_dct]
        have m := forR_sh (tg := tg) (fun δ st => evSs_sh b δ st h) (ks.map ofKey) δ st
        rw [ofKeys_sh] at m
        rw [m]
        cases forR tg (fun δ st => evSs call room b δ st) (ks.map ofKey) δ st <;> rfl
      | _ => simp [shRS]
  | .rse c e, δ, st, h => by
    simp only [clS] at h
    cases room with
    | false => rfl
    | true =>
      refine thn_sh (ev_sh hc e false δ st h) fun d st1 => ?_
      rw [excOk_sh]
      cases excOk c d <;> rfl
  | .tryPl c i b, δ, st, h => by
    simp only [clS] at h
    have m := evSs_sh b δ st h
    show (match evSs call room b (shSl (List.length s0) δ) (shS s0 st) with
      | .exc c' p δ1 st1 => match Nat.beq c 0 && Nat.beq c' 0 && Nat.blt i δ1.length with
        | true => RS.ok (.rt p) st1
        | false => .bad
      | r => r) = shRS s0 (match evSs call room b δ st with
      | .exc c' p δ1 st1 => match Nat.beq c 0 && Nat.beq c' 0 && Nat.blt i δ1.length with
        | true => RS.ok (.rt p) st1
        | false => .bad
      | r => r)
    rw [m]
    cases evSs call room b δ st with
    | ok f st1 => rfl
    | bad => rfl
    | exc c' p δ1 st1 =>
      simp only [shRS]
      rw [show (shSl (List.length s0) δ1).length = δ1.length from List.length_map _]
      cases Nat.beq c 0 && Nat.beq c' 0 && Nat.blt i δ1.length <;> rfl
  | .fz i, δ, st, h => by
    show (match (shSl (List.length s0) δ)[i]? with
      | some (some (.ref j)) => match getMO (shS s0 st) j with
        | some (.lst ds) => RS.ok (.nx ((shSl (List.length s0) δ).set i (some (.lst ds)))) ((shS s0 st).set j none)
        | some (.dct ks vs) => .ok (.nx ((shSl (List.length s0) δ).set i (some (.dct ks vs)))) ((shS s0 st).set j none)
        | none => .bad
      | _ => .bad) = shRS s0 (match δ[i]? with
      | some (some (.ref j)) => match getMO st j with
        | some (.lst ds) => RS.ok (.nx (δ.set i (some (.lst ds)))) (st.set j none)
        | some (.dct ks vs) => .ok (.nx (δ.set i (some (.dct ks vs)))) (st.set j none)
        | none => .bad
      | _ => .bad)
    rw [get_sh]
    rcases δ[i]? with _ | (_ | d)
    · rfl
    · rfl
    · cases d with
      | ref j =>
        simp only [Option.map_some, sh_ref, getMO_sh]
        have sn := set_sh (s0 := s0) st j none
        simp only [Option.map_none] at sn
        cases getMO st j with
        | none => rfl
        | some m => cases m <;> simp [shM, shRS, shF, sn, shSl, List.map_set]
      | _ => simp [shRS]
  | .pass, δ, st, h => rfl
  | .bk, δ, st, h => rfl
  | .ct, δ, st, h => rfl
  | .bad, δ, st, h => rfl
theorem evSs_sh : ∀ (s : Ss) (δ : Sl) (st : Sto), clSs s = true → evSs call room s (shSl (List.length s0) δ) (shS s0 st) = shRS s0 (evSs call room s δ st)
  | .nil, δ, st, h => rfl
  | .cons s ss, δ, st, h => by
    simp only [clSs, Bool.and_eq_true] at h
    exact seq_sh (evS_sh s δ st h.1) fun δ1 st1 => evSs_sh ss δ1 st1 h.2
end
end
theorem outR_sh {s0 : Sto} (r : RS) : outR (shRS s0 r) = shR s0 (shD s0.length) (outR r) := by
  cases r with
  | ok f st => cases f <;> first | rfl | (show R.ok D.non _ = R.ok (shD _ .non) _; rw [sh_non])
  | exc c p δ st => rfl
  | bad => rfl
/-- all defs of a table without references -/
def ClF (F : Nat → Option Fn) : Prop := ∀ f fn, F f = some fn → clSs fn.body = true
theorem callF_sh {F : Nat → Option Fn} (hF : ClF F) {s0 : Sto} : ∀ (k f : Nat) (ds : List D) (st : Sto), callF F k f (ds.map (shD s0.length)) (shS s0 st) = shR s0 (shD s0.length) (callF F k f ds st)
  | 0, f, ds, st => rfl
  | k + 1, f, ds, st => by
    show (match F f with
      | some fn => match Nat.beq (ds.map (shD s0.length)).length fn.np with
        | true => outR (evSs (callF F k) (Nat.blt 2 k) fn.body (start fn.nn (ds.map (shD s0.length))) (shS s0 st))
        | false => R.bad
      | none => .bad) = shR s0 (shD s0.length) (match F f with
      | some fn => match Nat.beq ds.length fn.np with
        | true => outR (evSs (callF F k) (Nat.blt 2 k) fn.body (start fn.nn ds) st)
        | false => .bad
      | none => .bad)
    rw [List.length_map]
    cases e : F f with
    | none => rfl
    | some fn =>
      dsimp only
      cases Nat.beq ds.length fn.np with
      | false => rfl
      | true =>
        dsimp only
        have s : start fn.nn (ds.map (shD s0.length)) = shSl s0.length (start fn.nn ds) := by simp [start, shSl, Function.comp_def]
        rw [s, evSs_sh (fun f ds st => callF_sh hF k f ds st) (Nat.blt 2 k) fn.body _ st (hF f fn e), outR_sh]
/-- a call whose parts are without references, from any store -/
theorem callF_frame {F : Nat → Option Fn} (hF : ClF F) {k f : Nat} {ds : List D} {d : D} {z : Sto} (hd : clDs ds = true) (hr : clD d = true) (h : callF F k f ds [] = .ok d z) (st : Sto) : ∃ z', callF F k f ds st = .ok d (st ++ z') := by
  have := callF_sh hF (s0 := st) k f ds []
  rw [← shs_map, shs_cl _ _ hd, h] at this
  refine ⟨z.map (Option.map (shM st.length)), ?_⟩
  simp only [shS, List.map_nil, List.append_nil, shR, sh_cl _ _ hr] at this
  exact this
/-- statements from any store -/
theorem evSs_frame {F : Nat → Option Fn} (hF : ClF F) {k : Nat} {room : Bool} {ss : Ss} {δ : Sl} {d : D} {z : Sto} (hs : clSs ss = true) (hδ : δ.all (fun o => match o with | some d => clD d | none => true) = true) (hr : clD d = true) (h : evSs (callF F k) room ss δ [] = .ok (.rt d) z) (st : Sto) : ∃ z', evSs (callF F k) room ss δ st = .ok (.rt d) (st ++ z') := by
  have := evSs_sh (s0 := st) (fun f ds st => callF_sh hF k f ds st) room ss δ [] hs
  have e : shSl st.length δ = δ := by
    unfold shSl
    clear this h
    induction δ with
    | nil => rfl
    | cons o δ ih =>
      simp only [List.all_cons, Bool.and_eq_true] at hδ
      rw [List.map_cons, ih hδ.2]
      cases o with
      | none => rfl
      | some d => rw [Option.map_some, sh_cl _ _ hδ.1]
  rw [e, h] at this
  refine ⟨z.map (Option.map (shM st.length)), ?_⟩
  simp only [shS, List.map_nil, List.append_nil, shRS, shF, sh_cl _ _ hr] at this
  exact this
end PVL
set_option Elab.async false
set_option linter.all false
set_option maxRecDepth 10000
/-! PF3: what is evaluated without looking at a slot does not depend on it. -/
namespace PVL
open PV
/-- as much or more is known -/
def SlLe (δ δ' : Sl) : Prop := δ'.length = δ.length ∧ ∀ (i : Nat) (d : D), δ[i]? = some (some d) → δ'[i]? = some (some d)
theorem SlLe.rfl {δ : Sl} : SlLe δ δ := ⟨Eq.refl _, fun _ _ h => h⟩
theorem SlLe.set {δ δ' : Sl} (h : SlLe δ δ') (i : Nat) (o : Option D) : SlLe (δ.set i o) (δ'.set i o) := by
  refine ⟨by simp [h.1], fun j d e => ?_⟩
  rw [List.getElem?_set] at e ⊢
  by_cases q : i = j
  · subst q
    rw [if_pos (Eq.refl _)] at e ⊢
    rw [h.1]
    exact e
  · rw [if_neg q] at e ⊢
    exact h.2 j d e
theorem SlLe.none (δ : Sl) : SlLe (List.replicate δ.length none) δ := by
  refine ⟨by simp, fun i d e => ?_⟩
  rw [List.getElem?_replicate] at e
  split at e <;> simp at e
def RLe {α : Type} (r r' : R α) : Prop := r = .bad ∨ r' = r
theorem RLe.rfl {α : Type} {r : R α} : RLe r r := .inr (Eq.refl _)
theorem bind_le {α β : Type} {r r' : R α} {f f' : α → Sto → R β} (h : RLe r r') (hf : ∀ a st, RLe (f a st) (f' a st)) : RLe (r.bind f) (r'.bind f') := by
  rcases h with h | h
  · subst h; exact .inl (Eq.refl _)
  · subst h
    cases r' with
    | ok a st => exact hf a st
    | exc c p st => exact .inr (Eq.refl _)
    | bad => exact .inl (Eq.refl _)
theorem noX_le {α : Type} {r r' : R α} (h : RLe r r') : RLe (noX r) (noX r') := by
  rcases h with h | h
  · subst h; exact .inl (Eq.refl _)
  · subst h; exact .rfl
theorem tst_le {t : Bool} {r r' : R D} (h : RLe r r') : RLe (tst t r) (tst t r') := by
  cases t with
  | false => exact h
  | true => exact bind_le h fun _ _ => .rfl
theorem evK_le {r r' : R D} {f f' : D → Sto → R D} {t : Bool} (h : RLe r r') (hf : ∀ a st, RLe (f a st) (f' a st)) : RLe (tst t (r.bind f)) (tst t (r'.bind f')) := tst_le (bind_le h hf)
def OLe (o o' : Option Sl) : Prop := match o with
  | none => True
  | some δ => ∃ δ', o' = some δ' ∧ SlLe δ δ'
theorem asgT_le : ∀ (tg : T) (d : D) {δ δ' : Sl}, SlLe δ δ' → OLe (asgT tg d δ) (asgT tg d δ')
  | .n i, d, δ, δ', h => by
    unfold asgT
    rw [h.1]
    split
    · exact ⟨_, rfl, h.set i _⟩
    · trivial
  | .t2 a b, d, δ, δ', h => by
    cases d with
    | tup k ds => match ds with
      | [] => trivial
      | [x] => trivial
      | [x, y] =>
        have h1 := asgT_le a x h
        show OLe ((asgT a x δ).bind fun δ1 => asgT b y δ1) ((asgT a x δ').bind fun δ1 => asgT b y δ1)
        cases e : asgT a x δ with
        | none => trivial
        | some δ1 =>
          rw [e] at h1
          obtain ⟨δ2, e2, h2⟩ := h1
          rw [e2]
          exact asgT_le b y h2
      | x :: y :: z :: r => trivial
    | _ => trivial
  | .t3 a b c, d, δ, δ', h => by
    cases d with
    | tup k ds => match ds with
      | [] => trivial
      | [x] => trivial
      | [x, y] => trivial
      | [x, y, z] =>
        have h1 := asgT_le a x h
        show OLe ((asgT a x δ).bind fun δ1 => (asgT b y δ1).bind fun δ2 => asgT c z δ2) ((asgT a x δ').bind fun δ1 => (asgT b y δ1).bind fun δ2 => asgT c z δ2)
        cases e : asgT a x δ with
        | none => trivial
        | some δ1 =>
          rw [e] at h1
          obtain ⟨δ2, e2, h2⟩ := h1
          rw [e2]
          simp only [Option.bind_some]
          have h3 := asgT_le b y h2
          cases e3 : asgT b y δ1 with
          | none => trivial
          | some δ3 =>
            rw [e3] at h3
            obtain ⟨δ4, e4, h4⟩ := h3
            rw [e4]
            exact asgT_le c z h4
      | x :: y :: z :: w :: r => trivial
    | _ => trivial
theorem wipe_le {δ δ' : Sl} (h : SlLe δ δ') : ∀ ws : List Nat, SlLe (wipe δ ws) (wipe δ' ws)
  | [] => h
  | w :: ws => (wipe_le h ws).set w none
theorem mapR_le {f f' : D → Sto → R (Option D)} (hf : ∀ d st, RLe (f d st) (f' d st)) : ∀ (ds acc : List D) (st : Sto), RLe (mapR f ds acc st) (mapR f' ds acc st)
  | [], acc, st => .rfl
  | d :: ds, acc, st => by
    unfold mapR
    refine bind_le (hf d st) fun o st1 => ?_
    cases o with
    | none => exact mapR_le hf ds acc st1
    | some y => exact mapR_le hf ds (y :: acc) st1
theorem mapC_le {δ δ' : Sl} (h : SlLe δ δ') {ws : List Nat} {tg : T} {c : Sl → Sto → R Bool} {v : Sl → Sto → R D} (hc : ∀ {δ δ' : Sl} (_ : SlLe δ δ') st, RLe (c δ st) (c δ' st)) (hv : ∀ {δ δ' : Sl} (_ : SlLe δ δ') st, RLe (v δ st) (v δ' st)) (ds : List D) (st : Sto) :
    RLe (mapR (compK tg ws c v δ) ds [] st) (mapR (compK tg ws c v δ') ds [] st) := by
  refine mapR_le (fun d st => ?_) ds [] st
  unfold compK
  cases (tg.ix.all fun i => ws.contains i) with
  | false => exact .inl rfl
  | true =>
    have h1 := asgT_le tg d (wipe_le h ws)
    cases e : asgT tg d (wipe δ ws) with
    | none => exact .inl rfl
    | some δ1 =>
      rw [e] at h1
      obtain ⟨δ2, e2, h2⟩ := h1
      rw [e2]
      refine bind_le (hc h2 st) fun b st2 => ?_
      cases b with
      | false => exact .rfl
      | true => exact bind_le (hv h2 st2) fun _ _ => .rfl
section
variable {call : Nat → List D → Sto → R D}
mutual
theorem ev_le : ∀ (e : E) (t : Bool) {δ δ' : Sl} (h : SlLe δ δ') (st : Sto), RLe (ev call e t δ st) (ev call e t δ' st)
  | .c d, t, δ, δ', h, st => .rfl
  | .v i, t, δ, δ', h, st => by
    rw [ev_v, ev_v]
    refine tst_le ?_
    cases e : δ[i]? with
    | none => exact .inl rfl
    | some o => cases o with
      | none => exact .inl rfl
      | some d => rw [h.2 i d e]; exact .rfl
  | .bin o a b, t, δ, δ', h, st => evK_le (ev_le a false h st) fun x st1 => bind_le (ev_le b false h st1) fun y st2 => .rfl
  | .neg a, t, δ, δ', h, st => evK_le (ev_le a false h st) fun x st1 => .rfl
  | .not a, t, δ, δ', h, st => bind_le (ev_le a t h st) fun x st1 => .rfl
  | .and a b, t, δ, δ', h, st => by
    refine bind_le (ev_le a t h st) fun x st1 => ?_
    cases x with
    | bl b' => cases b' <;> first | exact ev_le b t h st1 | exact .rfl
    | _ => exact .rfl
  | .or a b, t, δ, δ', h, st => by
    refine bind_le (ev_le a t h st) fun x st1 => ?_
    cases x with
    | bl b' => cases b' <;> first | exact ev_le b t h st1 | exact .rfl
    | _ => exact .rfl
  | .cmp o a b, t, δ, δ', h, st => bind_le (ev_le a false h st) fun x st1 => bind_le (ev_le b false h st1) fun y st2 => .rfl
  | .cmp2 o p a b c, t, δ, δ', h, st => by
    refine bind_le (ev_le a false h st) fun x st1 => bind_le (ev_le b false h st1) fun y st2 => ?_
    cases cmpD o x y with
    | none => exact .rfl
    | some b' => cases b' with
      | false => exact .rfl
      | true => exact bind_le (ev_le c false h st2) fun z st3 => .rfl
  | .ite c a b, t, δ, δ', h, st => by
    refine evK_le (ev_le c true h st) fun x st1 => ?_
    cases x with
    | bl b' => cases b' <;> first | exact ev_le a false h st1 | exact ev_le b false h st1
    | _ => exact .rfl
  | .call f es, t, δ, δ', h, st => tst_le (bind_le (evs_le es h st) fun ds st1 => .rfl)
  | .bf f es, t, δ, δ', h, st => tst_le (bind_le (evs_le es h st) fun ds st1 => .rfl)
  | .mt m o es, t, δ, δ', h, st => by
    refine evK_le (ev_le o false h st) fun x st1 => ?_
    cases mtTy m x st1 with
    | false => exact .rfl
    | true => exact bind_le (evs_le es h st1) fun ds st2 => .rfl
  | .idx a b, t, δ, δ', h, st => evK_le (ev_le a false h st) fun x st1 => bind_le (ev_le b false h st1) fun y st2 => .rfl
  | .slc a lo hi, t, δ, δ', h, st => evK_le (ev_le a false h st) fun x st1 => bind_le (evo_le lo h st1) fun l st2 => bind_le (evo_le hi h st2) fun r st3 => .rfl
  | .tup es, t, δ, δ', h, st => tst_le (bind_le (evs_le es h st) fun ds st1 => .rfl)
  | .lst m es, t, δ, δ', h, st => tst_le (bind_le (evs_le es h st) fun ds st1 => .rfl)
  | .dnew m, t, δ, δ', h, st => .rfl
  | .srtS a, t, δ, δ', h, st => evK_le (ev_le a false h st) fun x st1 => .rfl
  | .rev a, t, δ, δ', h, st => evK_le (ev_le a false h st) fun x st1 => .rfl
  | .dstar a k v, t, δ, δ', h, st => by
    refine tst_le (bind_le (noX_le (ev_le a false h st)) fun x st1 => ?_)
    cases x with
    | dct ks vs =>
      dsimp only
      cases ks.all keyOk && fits ks.length with
      | false => exact .rfl
      | true => exact bind_le (noX_le (ev_le k false h st1)) fun y st2 => bind_le (noX_le (ev_le v false h st2)) fun z st3 => .rfl
    | _ => exact .rfl
  | .rep m a n, t, δ, δ', h, st => evK_le (ev_le a false h st) fun x st1 => bind_le (ev_le n false h st1) fun y st2 => .rfl
  | .lc ws tg it cond e, t, δ, δ', h, st => tst_le (bind_le (evI_le it h st) fun ds st1 => bind_le (noX_le (mapC_le h (fun h st => evc_le cond h st) (fun h st => ev_le e false h st) ds st1)) fun ys st2 => .rfl)
  | .lcK ws tg i cond e, t, δ, δ', h, st => by
    refine tst_le ?_
    cases q : δ[i]? with
    | none => exact .inl rfl
    | some o => cases o with
      | none => exact .inl rfl
      | some d =>
        rw [h.2 i d q]
        cases d with
        | dct ks vs => exact bind_le (noX_le (mapC_le h (fun h st => evc_le cond h st) (fun h st => ev_le e false h st) _ st)) fun ys st2 => .rfl
        | _ => exact .rfl
  | .bad, t, δ, δ', h, st => .rfl
theorem evs_le : ∀ (es : Es) {δ δ' : Sl} (h : SlLe δ δ') (st : Sto), RLe (evs call es δ st) (evs call es δ' st)
  | .nil, δ, δ', h, st => .rfl
  | .cons e es, δ, δ', h, st => bind_le (ev_le e false h st) fun d st1 => bind_le (evs_le es h st1) fun ds st2 => .rfl
theorem evo_le : ∀ (e : Eo) {δ δ' : Sl} (h : SlLe δ δ') (st : Sto), RLe (evo call e δ st) (evo call e δ' st)
  | .none, δ, δ', h, st => .rfl
  | .some e, δ, δ', h, st => bind_le (ev_le e false h st) fun d st1 => .rfl
theorem evc_le : ∀ (e : Eo) {δ δ' : Sl} (h : SlLe δ δ') (st : Sto), RLe (evc call e δ st) (evc call e δ' st)
  | .none, δ, δ', h, st => .rfl
  | .some e, δ, δ', h, st => bind_le (ev_le e true h st) fun d st1 => .rfl
theorem evI_le : ∀ (it : I) {δ δ' : Sl} (h : SlLe δ δ') (st : Sto), RLe (evI call it δ st) (evI call it δ' st)
  | .of e, δ, δ', h, st => bind_le (ev_le e false h st) fun d st1 => .rfl
  | .rng a, δ, δ', h, st => bind_le (ev_le a false h st) fun d st1 => .rfl
  | .rng2 a b, δ, δ', h, st => bind_le (ev_le a false h st) fun d st1 => bind_le (ev_le b false h st1) fun e st2 => .rfl
  | .enum e, δ, δ', h, st => bind_le (ev_le e false h st) fun d st1 => .rfl
  | .zip a b, δ, δ', h, st => bind_le (ev_le a false h st) fun x st1 => bind_le (ev_le b false h st1) fun y st2 => .rfl
end
def FlLe : Fl → Fl → Prop
  | .nx δ, f => ∃ δ', f = .nx δ' ∧ SlLe δ δ'
  | .bk δ, f => ∃ δ', f = .bk δ' ∧ SlLe δ δ'
  | .ct δ, f => ∃ δ', f = .ct δ' ∧ SlLe δ δ'
  | .rt d, f => f = .rt d
def RSLe : RS → RS → Prop
  | .bad, _ => True
  | .ok f st, r => ∃ f', r = .ok f' st ∧ FlLe f f'
  | .exc c p δ st, r => ∃ δ', r = .exc c p δ' st ∧ SlLe δ δ'
theorem thn_le {α : Type} {r r' : R α} {δ δ' : Sl} {f f' : α → Sto → RS} (hδ : SlLe δ δ') (h : RLe r r') (hf : ∀ a st, RSLe (f a st) (f' a st)) : RSLe (r.thn δ f) (r'.thn δ' f') := by
  rcases h with h | h
  · subst h; trivial
  · subst h
    cases r' with
    | ok a st => exact hf a st
    | exc c p st => exact ⟨δ', rfl, hδ⟩
    | bad => trivial
theorem nxt_le {o o' : Option Sl} (h : OLe o o') (st : Sto) : RSLe (nxt o st) (nxt o' st) := by
  cases o with
  | none => trivial
  | some δ =>
    obtain ⟨δ', e, h⟩ := h
    rw [e]
    exact ⟨_, rfl, _, rfl, h⟩
theorem seq_le {r r' : RS} {f f' : Sl → Sto → RS} (h : RSLe r r') (hf : ∀ {δ δ' : Sl} (_ : SlLe δ δ') st, RSLe (f δ st) (f' δ' st)) : RSLe (r.seq f) (r'.seq f') := by
  cases r with
  | bad => trivial
  | exc c p δ st =>
    obtain ⟨δ', rfl, h⟩ := h
    exact ⟨δ', rfl, h⟩
  | ok a st =>
    obtain ⟨a', rfl, h⟩ := h
    cases a with
    | nx δ => obtain ⟨δ', rfl, h⟩ := h; exact hf h st
    | bk δ => obtain ⟨δ', rfl, h⟩ := h; exact ⟨_, rfl, δ', rfl, h⟩
    | ct δ => obtain ⟨δ', rfl, h⟩ := h; exact ⟨_, rfl, δ', rfl, h⟩
    | rt d => have h : a' = .rt d := h; subst h; exact ⟨_, rfl, rfl⟩
theorem forR_le {tg : T} {b : Sl → Sto → RS} (hb : ∀ {δ δ' : Sl} (_ : SlLe δ δ') st, RSLe (b δ st) (b δ' st)) : ∀ (ds : List D) {δ δ' : Sl} (h : SlLe δ δ') (st : Sto), RSLe (forR tg b ds δ st) (forR tg b ds δ' st)
  | [], δ, δ', h, st => ⟨_, rfl, _, rfl, h⟩
  | d :: ds, δ, δ', h, st => by
    unfold forR
    have h1 := asgT_le tg d h
    cases e : asgT tg d δ with
    | none => trivial
    | some δ1 =>
      rw [e] at h1
      obtain ⟨δ2, e2, h2⟩ := h1
      rw [e2]
      dsimp only
      have h3 := hb h2 st
      cases e3 : b δ1 st with
      | bad => trivial
      | exc c p δ3 st3 =>
        rw [e3] at h3
        obtain ⟨δ4, e4, h4⟩ := h3
        rw [e4]
        exact ⟨_, rfl, h4⟩
      | ok f st3 =>
        rw [e3] at h3
        obtain ⟨f', e4, h4⟩ := h3
        rw [e4]
        cases f with
        | nx δ3 => obtain ⟨δ4, rfl, h4⟩ := h4; exact forR_le hb ds h4 st3
        | ct δ3 => obtain ⟨δ4, rfl, h4⟩ := h4; exact forR_le hb ds h4 st3
        | bk δ3 => obtain ⟨δ4, rfl, h4⟩ := h4; exact ⟨_, rfl, _, rfl, h4⟩
        | rt d => have h4 : f' = .rt d := h4; subst h4; exact ⟨_, rfl, rfl⟩
theorem whR_le {c : Sl → Sto → R D} {b : Sl → Sto → RS} (hc : ∀ {δ δ' : Sl} (_ : SlLe δ δ') st, RLe (c δ st) (c δ' st)) (hb : ∀ {δ δ' : Sl} (_ : SlLe δ δ') st, RSLe (b δ st) (b δ' st)) : ∀ (n : Nat) {δ δ' : Sl} (h : SlLe δ δ') (st : Sto), RSLe (whR c b n δ st) (whR c b n δ' st)
  | 0, δ, δ', h, st => trivial
  | n + 1, δ, δ', h, st => by
    unfold whR
    refine thn_le h (hc h st) fun x st1 => ?_
    cases x with
    | bl q => cases q with
      | false => exact ⟨_, rfl, _, rfl, h⟩
      | true =>
        dsimp only
        have h3 := hb h st1
        cases e3 : b δ st1 with
        | bad => trivial
        | exc c p δ3 st3 =>
          rw [e3] at h3
          obtain ⟨δ4, e4, h4⟩ := h3
          rw [e4]
          exact ⟨_, rfl, h4⟩
        | ok f st3 =>
          rw [e3] at h3
          obtain ⟨f', e4, h4⟩ := h3
          rw [e4]
          cases f with
          | nx δ3 => obtain ⟨δ4, rfl, h4⟩ := h4; exact whR_le hc hb n h4 st3
          | ct δ3 => obtain ⟨δ4, rfl, h4⟩ := h4; exact whR_le hc hb n h4 st3
          | bk δ3 => obtain ⟨δ4, rfl, h4⟩ := h4; exact ⟨_, rfl, _, rfl, h4⟩
          | rt d => have h4 : f' = .rt d := h4; subst h4; exact ⟨_, rfl, rfl⟩
    | _ => trivial
variable (room : Bool)
mutual
theorem evS_le : ∀ (s : S) {δ δ' : Sl} (h : SlLe δ δ') (st : Sto), RSLe (evS call room s δ st) (evS call room s δ' st)
  | .asg tg e, δ, δ', h, st => thn_le h (ev_le e false h st) fun d st1 => nxt_le (asgT_le tg d h) st1
  | .par i j a b, δ, δ', h, st => by
    refine thn_le h (ev_le a false h st) fun x st1 => thn_le h (ev_le b false h st1) fun y st2 => ?_
    rw [h.1]
    cases Nat.blt i δ.length with
    | false => trivial
    | true => cases Nat.blt j δ.length with
      | false => trivial
      | true => exact ⟨_, rfl, _, rfl, (h.set i _).set j _⟩
  | .sub o i e, δ, δ', h, st => thn_le h (ev_le e false h st) fun v st1 => thn_le h (ev_le o false h st1) fun x st2 => thn_le h (ev_le i false h st2) fun k st3 => thn_le h .rfl fun _ st4 => ⟨_, rfl, _, rfl, h⟩
  | .ex e, δ, δ', h, st => thn_le h (ev_le e false h st) fun d st1 => ⟨_, rfl, _, rfl, h⟩
  | .ret e, δ, δ', h, st => thn_le h (ev_le e false h st) fun d st1 => ⟨_, rfl, rfl⟩
  | .retN, δ, δ', h, st => ⟨_, rfl, rfl⟩
  | .ite t a b, δ, δ', h, st => by
    refine thn_le h (ev_le t true h st) fun x st1 => ?_
    cases x with
    | bl q => cases q <;> first | exact evSs_le a h st1 | exact evSs_le b h st1
    | _ => trivial
  | .fr tg it b, δ, δ', h, st => thn_le h (evI_le it h st) fun ds st1 => forR_le (fun h st => evSs_le b h st) ds h st1
  | .wh t b, δ, δ', h, st => whR_le (fun h st => ev_le t true h st) (fun h st => evSs_le b h st) turns h st
  | .frK tg i b, δ, δ', h, st => by
    show RSLe (match δ[i]? with
      | some (some (.dct ks _)) => noXS (forR tg (fun δ st => evSs call room b δ st) (ks.map ofKey) δ st)
      | _ => .bad) (match δ'[i]? with
      | some (some (.dct ks _)) => noXS (forR tg (fun δ st => evSs call room b δ st) (ks.map ofKey) δ' st)
      | _ => .bad)
    cases q : δ[i]? with
    | none => trivial
    | some o => cases o with
      | none => trivial
      | some d =>
        rw [h.2 i d q]
        cases d with
        | dct ks vs =>
          have h3 := forR_le (tg := tg) (fun h st => evSs_le b h st) (ks.map ofKey) h st
          dsimp only
          cases e3 : forR tg (fun δ st => evSs call room b δ st) (ks.map ofKey) δ st with
          | bad => trivial
          | exc c p δ3 st3 => trivial
          | ok f st3 =>
            rw [e3] at h3
            obtain ⟨f', e4, h4⟩ := h3
            rw [e4]
            exact ⟨f', rfl, h4⟩
        | _ => trivial
  | .rse c e, δ, δ', h, st => by
    cases room with
    | false => trivial
    | true =>
      refine thn_le h (ev_le e false h st) fun d st1 => ?_
      cases excOk c d with
      | false => trivial
      | true => exact ⟨_, rfl, h⟩
  | .tryPl c i b, δ, δ', h, st => by
    have h3 := evSs_le b h st
    show RSLe (match evSs call room b δ st with
      | .exc c' p δ1 st1 => match Nat.beq c 0 && Nat.beq c' 0 && Nat.blt i δ1.length with
        | true => RS.ok (.rt p) st1
        | false => .bad
      | r => r) (match evSs call room b δ' st with
      | .exc c' p δ1 st1 => match Nat.beq c 0 && Nat.beq c' 0 && Nat.blt i δ1.length with
        | true => RS.ok (.rt p) st1
        | false => .bad
      | r => r)
    cases e3 : evSs call room b δ st with
    | bad => trivial
    | exc c' p δ3 st3 =>
      rw [e3] at h3
      obtain ⟨δ4, e4, h4⟩ := h3
      rw [e4]
      dsimp only
      rw [h4.1]
      cases Nat.beq c 0 && Nat.beq c' 0 && Nat.blt i δ3.length with
      | false => trivial
      | true => exact ⟨_, rfl, rfl⟩
    | ok f st3 =>
      rw [e3] at h3
      obtain ⟨f', e4, h4⟩ := h3
      rw [e4]
      exact ⟨f', rfl, h4⟩
  | .fz i, δ, δ', h, st => by
    show RSLe (match δ[i]? with
      | some (some (.ref j)) => match getMO st j with
        | some (.lst ds) => RS.ok (.nx (δ.set i (some (.lst ds)))) (st.set j none)
        | some (.dct ks vs) => .ok (.nx (δ.set i (some (.dct ks vs)))) (st.set j none)
        | none => .bad
      | _ => .bad) (match δ'[i]? with
      | some (some (.ref j)) => match getMO st j with
        | some (.lst ds) => RS.ok (.nx (δ'.set i (some (.lst ds)))) (st.set j none)
        | some (.dct ks vs) => .ok (.nx (δ'.set i (some (.dct ks vs)))) (st.set j none)
        | none => .bad
      | _ => .bad)
    cases q : δ[i]? with
    | none => trivial
    | some o => cases o with
      | none => trivial
      | some d =>
        rw [h.2 i d q]
        cases d with
        | ref j =>
          dsimp only
          cases getMO st j with
          | none => trivial
          | some m => cases m <;> exact ⟨_, rfl, _, rfl, h.set i _⟩
        | _ => trivial
  | .pass, δ, δ', h, st => ⟨_, rfl, _, rfl, h⟩
  | .bk, δ, δ', h, st => ⟨_, rfl, _, rfl, h⟩
  | .ct, δ, δ', h, st => ⟨_, rfl, _, rfl, h⟩
  | .bad, δ, δ', h, st => trivial
theorem evSs_le : ∀ (s : Ss) {δ δ' : Sl} (h : SlLe δ δ') (st : Sto), RSLe (evSs call room s δ st) (evSs call room s δ' st)
  | .nil, δ, δ', h, st => ⟨_, rfl, _, rfl, h⟩
  | .cons s ss, δ, δ', h, st => seq_le (evS_le s h st) fun h st => evSs_le ss h st
end
end
/-- whether it ends with this answer -/
def endB (r : RS) (p : D → Bool) : Bool := match r with
  | .ok (.rt d) _ => p d
  | _ => false
def isT : D → Bool
  | .bl b => b
  | _ => false
theorem isT_eq {d : D} (h : isT d = true) : d = .bl true := by
  cases d with
  | bl b => cases b <;> simp_all [isT]
  | _ => simp [isT] at h
theorem endB_ok {r : RS} (h : endB r isT = true) : ∃ z, r = .ok (.rt (.bl true)) z := by
  cases r with
  | ok f st => cases f with
    | rt d => exact ⟨st, by rw [isT_eq h]⟩
    | _ => simp [endB] at h
  | _ => simp [endB] at h
/-- statements that were run by the kernel from nothing: from any slots, from any store -/
theorem tail_run {F : Nat → Option Fn} (hF : ClF F) {k : Nat} {room : Bool} {ss : Ss} (hs : clSs ss = true) {n : Nat} (h : endB (evSs (callF F k) room ss (List.replicate n none) []) isT = true) {δ : Sl} (hδ : δ.length = n) (st : Sto) : ∃ z, evSs (callF F k) room ss δ st = .ok (.rt (.bl true)) (st ++ z) := by
  obtain ⟨z, e⟩ := endB_ok h
  obtain ⟨z', e2⟩ := evSs_frame hF hs (by rw [List.all_replicate]; simp) rfl e st
  subst hδ
  have := evSs_le (call := callF F k) room ss (SlLe.none δ) st
  rw [e2] at this
  obtain ⟨f, e3, e4⟩ := this
  have e4 : f = .rt (.bl true) := e4
  subst e4
  exact ⟨z', e3⟩
end PVL
set_option Elab.async false
set_option linter.all false
set_option maxRecDepth 10000
/-! PL1: signs of texts: what the defs tell. -/
namespace PVL
open PV
/-! ### signs -/
def asc (s : List Nat) : Bool := s.all fun c => Nat.blt c 128
@[simp] theorem asc_nil : asc [] = true := rfl
@[simp] theorem asc_cons (c : Nat) (s : List Nat) : asc (c :: s) = (Nat.blt c 128 && asc s) := rfl
theorem asc_data {s : List Nat} (h : asc s = true) : D.data 20 (.str s) = true := by
  unfold asc at h
  simp only [D.data, List.all_eq_true, Nat.blt_eq] at h ⊢
  intro c hc
  have := h c hc
  omega
theorem asc_append {a b : List Nat} (ha : asc a = true) (hb : asc b = true) : asc (a ++ b) = true := by
  unfold asc at *
  simp only [List.all_append, ha, hb, Bool.and_self]
/-- a text that can be read -/
def Ok (s : List Nat) : Prop := s.length ≤ 4000 ∧ asc s = true
theorem Ok.fits {s : List Nat} (h : Ok s) : fits s.length = true := by unfold PV.fits; exact Nat.ble_eq_true_of_le (by have := h.1; omega)
theorem Ok.get {s : List Nat} (h : Ok s) {i c : Nat} (e : s[i]? = some c) : c < 128 := by
  have := h.2
  unfold asc at this
  simp only [List.all_eq_true, Nat.blt_eq] at this
  exact this c (List.mem_of_getElem? e)
theorem eq_str {x y : List Nat} (hx : asc x = true) (hy : asc y = true) : cmpD .eq (.str x) (.str y) = some (decide (x = y)) := by
  simp only [cmpD, asc_data hx, asc_data hy, Bool.and_self, if_true, D.eqv]
  by_cases q : x = y
  · subst q; simp
  · simp [q]
theorem ne_str {x y : List Nat} (hx : asc x = true) (hy : asc y = true) : cmpD .ne (.str x) (.str y) = some (decide (x ≠ y)) := by
  simp only [cmpD, asc_data hx, asc_data hy, Bool.and_self, if_true, D.eqv]
  by_cases q : x = y
  · subst q; simp
  · simp [q]
theorem eq_chr {c d : Nat} (hc : c < 128) (hd : d < 128) : cmpD .eq (.str [c]) (.str [d]) = some (decide (c = d)) := by
  rw [eq_str (by simp; omega) (by simp; omega)]; simp
theorem ne_chr {c d : Nat} (hc : c < 128) (hd : d < 128) : cmpD .ne (.str [c]) (.str [d]) = some (decide (c ≠ d)) := by
  rw [ne_str (by simp; omega) (by simp; omega)]; simp
@[simp] theorem lt_int (i j : Int) : cmpD .lt (.int i) (.int j) = some (decide (i < j)) := rfl
@[simp] theorem le_int (i j : Int) : cmpD .le (.int i) (.int j) = some (decide (i ≤ j)) := rfl
@[simp] theorem gt_int (i j : Int) : cmpD .gt (.int i) (.int j) = some (decide (j < i)) := rfl
@[simp] theorem ge_int (i j : Int) : cmpD .ge (.int i) (.int j) = some (decide (j ≤ i)) := rfl
@[simp] theorem eq_int (i j : Int) : cmpD .eq (.int i) (.int j) = some (decide (i = j)) := rfl
@[simp] theorem ne_int (i j : Int) : cmpD .ne (.int i) (.int j) = some (decide (i ≠ j)) := by
  show some (!decide (i = j)) = _
  by_cases h : i = j <;> simp [h]
@[simp] theorem add_int (i j : Int) (st : Sto) : binD .add (.int i) (.int j) st = .ok (.int (i + j)) st := rfl
@[simp] theorem sub_int (i j : Int) (st : Sto) : binD .sub (.int i) (.int j) st = .ok (.int (i - j)) st := rfl
theorem mul_int {i j : Int} (h : okMul i j = true) (st : Sto) : binD .mul (.int i) (.int j) st = .ok (.int (i * j)) st := by simp [binD, h]
theorem len_str {s : List Nat} (h : fits s.length = true) (st : Sto) : bfD .len [.str s] st = .ok (.int s.length) st := by simp [bfD, h]
theorem atI_nat {α : Type} (s : List α) (i : Nat) : atI s (i : Int) = s[i]? := by
  unfold atI ixN
  rw [if_pos (by omega)]
  by_cases h : i < s.length
  · rw [if_pos (by omega)]; rfl
  · rw [if_neg (by omega)]
    rw [List.getElem?_eq_none (by omega)]; rfl
theorem idx_str {s : List Nat} (h : fits s.length = true) {i c : Nat} (e : s[i]? = some c) (st : Sto) : idxD (.str s) (.int i) st = .ok (.str [c]) st := by
  simp only [idxD, h, atI_nat, e]
theorem rse_nat {i : Nat} (h : i < 1000000000) (δ : Sl) (st : Sto) : rseK true 0 (.int i) δ st = .exc 0 (.int i) δ st := by
  show (match (decide (0 ≤ (i : Int)) && Nat.blt (i : Int).natAbs 1000000000) with | true => RS.exc 0 (.int i) δ st | false => .bad) = _
  have : (decide (0 ≤ (i : Int)) && Nat.blt (i : Int).natAbs 1000000000) = true := by
    simp only [Bool.and_eq_true, decide_eq_true_eq, Nat.blt_eq]; omega
  rw [this]
theorem drop_some {s : List Nat} {i c : Nat} (e : s[i]? = some c) : s.drop i = c :: s.drop (i + 1) := by
  obtain ⟨h, e⟩ := List.getElem?_eq_some_iff.mp e
  rw [List.drop_eq_getElem_cons h, e]
theorem drop_none {s : List Nat} {i : Nat} (e : s[i]? = none) : s.drop i = [] := List.drop_eq_nil_iff.mpr (List.getElem?_eq_none_iff.mp e)
theorem lt_of_get {α : Type} {s : List α} {i : Nat} {c : α} (e : s[i]? = some c) : i < s.length := (List.getElem?_eq_some_iff.mp e).1
theorem ge_of_get {α : Type} {s : List α} {i : Nat} (e : s[i]? = none) : s.length ≤ i := List.getElem?_eq_none_iff.mp e
theorem lt_int_of {α : Type} {s : List α} {i : Nat} {c : α} (e : s[i]? = some c) : ((i : Int) < (s.length : Int)) = True := by
  have := lt_of_get e
  simp only [eq_iff_iff, iff_true]; omega
theorem nlt_int_of {α : Type} {s : List α} {i : Nat} (e : s[i]? = none) : ((i : Int) < (s.length : Int)) = False := by
  have := ge_of_get e
  simp only [eq_iff_iff, iff_false]; omega
theorem nge_int_of {α : Type} {s : List α} {i : Nat} {c : α} (e : s[i]? = some c) : ((s.length : Int) ≤ (i : Int)) = False := by
  have := lt_of_get e
  simp only [eq_iff_iff, iff_false]; omega
theorem ge_int_of {α : Type} {s : List α} {i : Nat} (e : s[i]? = none) : ((s.length : Int) ≤ (i : Int)) = True := by
  have := ge_of_get e
  simp only [eq_iff_iff, iff_true]; omega
def FIG : List Nat := [48, 49, 50, 51, 52, 53, 54, 55, 56, 57]
theorem isIn_fig (c : Nat) : cmpD .isin (.str [c]) (.str [48, 49, 50, 51, 52, 53, 54, 55, 56, 57]) = some (isDig c) := by
  show some _ = some _
  congr 1
  rw [Bool.eq_iff_iff]
  simp [isDig]
  omega
theorem notIn_fig (c : Nat) : cmpD .notin (.str [c]) (.str [48, 49, 50, 51, 52, 53, 54, 55, 56, 57]) = some (!isDig c) := by
  have := isIn_fig c
  simp only [cmpD] at this ⊢
  rw [this]; rfl
theorem dig_cases {c : Nat} (h : isDig c = true) : 48 ≤ c ∧ c ≤ 57 := by simpa [isDig] using h
theorem index_fig {c : Nat} (h : isDig c = true) (st : Sto) : mtD .index (.str [48, 49, 50, 51, 52, 53, 54, 55, 56, 57]) [.str [c]] st = .ok (.int ((c - 48 : Nat) : Int)) st := by
  obtain ⟨h1, h2⟩ := dig_cases h
  have : c = 48 ∨ c = 49 ∨ c = 50 ∨ c = 51 ∨ c = 52 ∨ c = 53 ∨ c = 54 ∨ c = 55 ∨ c = 56 ∨ c = 57 := by omega
  rcases this with q | q | q | q | q | q | q | q | q | q <;> subst q <;> rfl
@[simp] theorem mtTy_index (s : List Nat) (st : Sto) : mtTy .index (.str s) st = true := rfl
@[simp] theorem mtTy_join (s : List Nat) (st : Sto) : mtTy .join (.str s) st = true := rfl
@[simp] theorem mtTy_isdigit (s : List Nat) (st : Sto) : mtTy .isdigit (.str s) st = true := rfl
@[simp] theorem mtTy_isalpha (s : List Nat) (st : Sto) : mtTy .isalpha (.str s) st = true := rfl
@[simp] theorem mtTy_isalnum (s : List Nat) (st : Sto) : mtTy .isalnum (.str s) st = true := rfl
@[simp] theorem mtTy_get (ks : List (List Int)) (vs : List D) (st : Sto) : mtTy .get2 (.dct ks vs) st = true := rfl
def mtK (b : Bool) (r : R D) : R D := match b with
  | true => r
  | false => .bad
@[simp] theorem mtK_t (r : R D) : mtK true r = r := rfl
@[simp] theorem ev_mtK {call : Nat → List D → Sto → R D} {t : Bool} {δ : Sl} {st : Sto} (m : MF) (o : E) (es : Es) : ev call (.mt m o es) t δ st = tst t ((ev call o false δ st).bind fun x st1 => mtK (mtTy m x st1) ((evs call es δ st1).bind fun ds st2 => mtD m x ds st2)) := rfl
/-! ### blanks -/
def blanks : List Nat → Nat
  | [] => 0
  | c :: r => if c = 32 then blanks r + 1 else 0
def sk (s : List Nat) (i : Nat) : Nat := i + blanks (s.drop i)
def sgn (s : List Nat) (i : Nat) : List Nat := match s[sk s i]? with
  | some c => [c]
  | none => []
theorem sk_none {s : List Nat} {i : Nat} (e : s[i]? = none) : sk s i = i := by simp [sk, drop_none e, blanks]
theorem sk_blank {s : List Nat} {i : Nat} (e : s[i]? = some 32) : sk s i = sk s (i + 1) := by simp [sk, drop_some e, blanks]; omega
theorem sk_some {s : List Nat} {i c : Nat} (e : s[i]? = some c) (h : c ≠ 32) : sk s i = i := by simp [sk, drop_some e, blanks, h]
theorem blanks_le (s : List Nat) : blanks s ≤ s.length := by
  induction s with
  | nil => exact Nat.le_refl _
  | cons c r ih => unfold blanks; split <;> simp <;> omega
theorem sk_le {s : List Nat} {i : Nat} (h : i ≤ s.length) : sk s i ≤ s.length := by
  unfold sk
  have := blanks_le (s.drop i)
  rw [List.length_drop] at this
  omega
theorem sk_ge (s : List Nat) (i : Nat) : i ≤ sk s i := by unfold sk; omega
theorem sgn_asc {s : List Nat} (h : Ok s) (i : Nat) : asc (sgn s i) = true := by
  unfold sgn
  split
  · rename_i c e
    have := h.get e
    simp; omega
  · rfl
section
variable {F : Nat → Option Fn}
theorem skip_loop {c : Sl → Sto → R D} {b : Sl → Sto → RS} {s : List Nat} {st : Sto} (hc : ∀ i : Nat, c [some (.str s), some (.int i)] st = .ok (.bl (decide (s[i]? = some 32))) st)
    (hb : ∀ i : Nat, b [some (.str s), some (.int i)] st = .ok (.nx [some (.str s), some (.int ((i + 1 : Nat) : Int))]) st) : ∀ (m i n : Nat), s.length - i ≤ m → m < n →
    whR c b n [some (.str s), some (.int i)] st = .ok (.nx [some (.str s), some (.int (sk s i))]) st
  | 0, i, n + 1, hm, hn => by
    have e : s[i]? = none := List.getElem?_eq_none (by omega)
    rw [wh_stop (by rw [hc, e]; rfl), sk_none e]
  | m + 1, i, n + 1, hm, hn => by
    cases e : s[i]? with
    | none => rw [wh_stop (by rw [hc, e]; rfl), sk_none e]
    | some d =>
      by_cases q : d = 32
      · subst q
        have := lt_of_get e
        rw [wh_go (by rw [hc, e]; rfl) (hb i), skip_loop hc hb m (i + 1) n (by omega) (by omega), sk_blank e]
      · rw [wh_stop (by rw [hc, e]; simp [q]; rfl), sk_some e q]
theorem turns_big : 4000 < turns := by decide
theorem skipped_ok (h30 : F 30 = some f30) {s : List Nat} (h : Ok s) (k i : Nat) (st : Sto) : callF F (k + 1) 30 [.str s, .int i] st = .ok (.int (sk s i)) st := by
  rw [callF_at [some (.str s), some (.int i)] h30 rfl rfl]
  simp only [f30, evSs_cons, evS_wh]
  rw [skip_loop (s := s) (fun j => ?_) (fun j => ?_) s.length i turns (by omega) (by have := h.1; have := turns_big; omega)]
  · simp
  · cases e : s[j]? with
    | none => simp [len_str h.fits, nlt_int_of e]
    | some c => simp [len_str h.fits, lt_int_of e, idx_str h.fits e, eq_chr (h.get e) (show 32 < 128 by decide)]
  · simp [asgT]
theorem sign_ok (h30 : F 30 = some f30) (h31 : F 31 = some f31) {s : List Nat} (h : Ok s) (k i : Nat) (st : Sto) : callF F (k + 2) 31 [.str s, .int i] st = .ok (.str (sgn s i)) st := by
  rw [callF_at [some (.str s), some (.int i)] h31 rfl rfl]
  simp only [f31]
  simp [skipped_ok h30 h, asgT]
  cases e : s[sk s i]? with
  | none => simp [len_str h.fits, nlt_int_of e, sgn, e]
  | some c => simp [len_str h.fits, lt_int_of e, idx_str h.fits e, sgn, e]
theorem passed_ok (h30 : F 30 = some f30) (h32 : F 32 = some f32) {s : List Nat} (h : Ok s) (k i c : Nat) (hi : i ≤ s.length) (hc : c < 128) (st : Sto) : callF F (k + 4) 32 [.str s, .int i, .str [c]] st = if s[sk s i]? = some c then .ok (.int ((sk s i + 1 : Nat) : Int)) st else .exc 0 (.int (sk s i)) st := by
  rw [callF_at [some (.str s), some (.int i), some (.str [c])] h32 rfl rfl, blt_off]
  simp only [f32]
  simp [skipped_ok h30 h, asgT]
  have hb : sk s i < 1000000000 := by have := sk_le hi; have := h.1; omega
  cases e : s[sk s i]? with
  | none => simp [len_str h.fits, ge_int_of e, rse_nat hb]
  | some d =>
    simp [len_str h.fits, nge_int_of e, idx_str h.fits e, ne_chr (h.get e) hc]
    by_cases q : d = c <;> simp [q, rse_nat hb]
theorem ended_ok (h30 : F 30 = some f30) (h36 : F 36 = some f36) {s : List Nat} (h : Ok s) (k i : Nat) (hi : i ≤ s.length) (st : Sto) : callF F (k + 4) 36 [.str s, .int i] st = if s[sk s i]? = none then .ok .non st else .exc 0 (.int (sk s i)) st := by
  rw [callF_at [some (.str s), some (.int i)] h36 rfl rfl, blt_off]
  simp only [f36]
  simp [skipped_ok h30 h, asgT]
  have hb : sk s i < 1000000000 := by have := sk_le hi; have := h.1; omega
  cases e : s[sk s i]? with
  | none => simp [len_str h.fits, nlt_int_of e, ge_of_get e]
  | some d => simp [len_str h.fits, lt_int_of e, rse_nat hb, lt_of_get e]
theorem need_ok (h37 : F 37 = some f37) {s : List Nat} (h : Ok s) (k : Nat) (st : Sto) : callF F (k + 4) 37 [.str s] st = .ok .non st := by
  rw [callF_at [some (.str s)] h37 rfl rfl, blt_off]
  simp only [f37]
  have := h.1
  have e : ¬ ((4000 : Int) < (s.length : Int)) := by omega
  simp [bfD, isTy, h.fits, e]
end
end PVL
set_option Elab.async false
set_option linter.all false
set_option maxRecDepth 10000
/-! PL2: figures, words of one sign. -/
namespace PVL
open PV
/-- what is read: something and the place behind, or the place at which it is refused -/
inductive P (α : Type) where
  | ok (a : α) (i : Nat)
  | err (i : Nat)
def P.r {α : Type} (f : α → Nat → D) (st : Sto) : P α → R D
  | .ok a i => .ok (f a i) st
  | .err i => .exc 0 (.int i) st
@[simp] theorem P.r_ok {α : Type} (f : α → Nat → D) (st : Sto) (a : α) (i : Nat) : (P.ok a i).r f st = .ok (f a i) st := rfl
@[simp] theorem P.r_err {α : Type} (f : α → Nat → D) (st : Sto) (i : Nat) : (P.err i : P α).r f st = .exc 0 (.int i) st := rfl
/-- figures that go on -/
def dgs (most f i : Nat) : List Nat → P Nat
  | [] => .ok f i
  | c :: r => if isDig c = true then (if f = 0 ∨ most < 10 * f + (c - 48) then .err i else dgs most (10 * f + (c - 48)) (i + 1) r) else .ok f i
def whole (s : List Nat) (i least most : Nat) : P Nat := match s[i]? with
  | none => .err i
  | some c => if isDig c = false ∨ (0 < least ∧ c = 48) then .err i else if most < c - 48 then .err i else dgs most (c - 48) (i + 1) (s.drop (i + 1))
def natAt (a i : Nat) : D := .tup false [.int a, .int i]
theorem fits2 : fits 2 = true := rfl
theorem fits3 : fits 3 = true := rfl
section
variable {F : Nat → Option Fn}
theorem dgs_loop {c : Sl → Sto → R D} {b : Sl → Sto → RS} {s : List Nat} {st : Sto} {least most : Nat} {K : Sl → Sto → RS}
    (hc : ∀ (i f : Nat) (l : Option D), c [some (.str s), some (.int i), some (.int least), some (.int most), some (.int f), l] st = .ok (.bl (match s[i]? with | some d => isDig d | none => false)) st)
    (hb1 : ∀ (i f d : Nat) (l : Option D), s[i]? = some d → isDig d = true → (f = 0 ∨ most < 10 * f + (d - 48)) → ∃ δ1, b [some (.str s), some (.int i), some (.int least), some (.int most), some (.int f), l] st = .exc 0 (.int i) δ1 st)
    (hb2 : ∀ (i f d : Nat) (l : Option D), s[i]? = some d → isDig d = true → ¬ (f = 0 ∨ most < 10 * f + (d - 48)) → ∃ l1, b [some (.str s), some (.int i), some (.int least), some (.int most), some (.int f), l] st = .ok (.nx [some (.str s), some (.int ((i + 1 : Nat) : Int)), some (.int least), some (.int most), some (.int ((10 * f + (d - 48) : Nat) : Int)), l1]) st)
    (hK : ∀ (i f : Nat) (l : Option D), outR (K [some (.str s), some (.int i), some (.int least), some (.int most), some (.int f), l] st) = .ok (natAt f i) st) : ∀ (m i n f : Nat) (l : Option D), s.length - i ≤ m → m < n →
    outR ((whR c b n [some (.str s), some (.int i), some (.int least), some (.int most), some (.int f), l] st).seq K) = (dgs most f i (s.drop i)).r natAt st
  | 0, i, n + 1, f, l, hm, hn => by
    have e : s[i]? = none := List.getElem?_eq_none (by omega)
    rw [wh_stop (by rw [hc, e]), drop_none e, seq_nx, hK]; rfl
  | m + 1, i, n + 1, f, l, hm, hn => by
    cases e : s[i]? with
    | none => rw [wh_stop (by rw [hc, e]), drop_none e, seq_nx, hK]; rfl
    | some d =>
      rw [drop_some e, dgs]
      by_cases q : isDig d = true
      · have hl := lt_of_get e
        rw [if_pos q]
        by_cases z : f = 0 ∨ most < 10 * f + (d - 48)
        · obtain ⟨δ1, h1⟩ := hb1 i f d l e q z
          rw [if_pos z, wh_exc (by rw [hc, e]; simp only [q]; try rfl) h1]
          rfl
        · obtain ⟨l1, h1⟩ := hb2 i f d l e q z
          rw [if_neg z, wh_go (by rw [hc, e]; simp only [q]; try rfl) h1, dgs_loop hc hb1 hb2 hK m (i + 1) n _ l1 (by omega) (by omega)]
      · have q2 : isDig d = false := by simpa using q
        rw [if_neg q, wh_stop (by rw [hc, e]; simp only [q2]; try rfl), seq_nx, hK]; rfl
theorem dec_not (p : Prop) [Decidable p] (h : ¬ p) : decide p = false := by simp [h]
theorem mul10 (i : Int) (st : Sto) : binD .mul (.int 10) (.int i) st = .ok (.int (10 * i)) st :=
  mul_int (by unfold okMul; rw [show small 10 = true from by decide +kernel]; simp) st
theorem whole_ok (h34 : F 34 = some f34) {s : List Nat} (h : Ok s) (k i least most : Nat) (hi : i ≤ s.length) (st : Sto) : callF F (k + 4) 34 [.str s, .int i, .int least, .int most] st = (whole s i least most).r natAt st := by
  rw [callF_at [some (.str s), some (.int i), some (.int least), some (.int most), none, none] h34 rfl rfl, blt_off]
  simp only [f34]
  have hb : i < 1000000000 := by have := h.1; omega
  cases e : s[i]? with
  | none => simp [len_str h.fits, ge_int_of e, rse_nat hb, whole, e, ge_of_get e]
  | some c =>
    have hl := lt_of_get e
    have hn : ¬ s.length ≤ i := by omega
    cases q : isDig c with
    | false => simp [len_str h.fits, nge_int_of e, rse_nat hb, whole, e, hn, idx_str h.fits e, notIn_fig, q]
    | true =>
      by_cases z : 0 < least ∧ c = 48
      · obtain ⟨z1, z2⟩ := z
        subst z2
        simp [len_str h.fits, nge_int_of e, rse_nat hb, whole, e, hn, idx_str h.fits e, notIn_fig, q, z1, eq_chr (show 48 < 128 by decide) (show 48 < 128 by decide)]
      · by_cases y : most < c - 48
        · have y2 : (most : Int) < ((c - 48 : Nat) : Int) := by omega
          by_cases z1 : 0 < least
          · have z2 : c ≠ 48 := fun x => z ⟨z1, x⟩
            simp [len_str h.fits, nge_int_of e, rse_nat hb, whole, e, hn, idx_str h.fits e, notIn_fig, q, z1, z2, eq_chr (h.get e) (show 48 < 128 by decide), index_fig q, y2, y]
          · simp [len_str h.fits, nge_int_of e, rse_nat hb, whole, e, hn, idx_str h.fits e, notIn_fig, q, z1, index_fig q, y2, y]
        · have y2 : ¬ (most : Int) < ((c - 48 : Nat) : Int) := by omega
          have rest : ∀ δ : Sl, δ = [some (.str s), some (.int ((i + 1 : Nat) : Int)), some (.int least), some (.int most), some (.int ((c - 48 : Nat) : Int)), none] → outR ((evS (callF F (k + 3)) true
            (S.wh (E.and (E.cmp (CO.lt) (E.v 1) (E.bf (BF.len) (Es.cons (E.v 0) (Es.nil)))) (E.cmp (CO.isin) (E.idx (E.v 0) (E.v 1)) (E.c (D.str [48, 49, 50, 51, 52, 53, 54, 55, 56, 57]))))
              (Ss.cons (S.asg (T.n 5) (E.bin (BO.add) (E.bin (BO.mul) (E.c (D.int 10)) (E.v 4)) (E.mt (MF.index) (E.c (D.str [48, 49, 50, 51, 52, 53, 54, 55, 56, 57])) (Es.cons (E.idx (E.v 0) (E.v 1)) (Es.nil)))))
                (Ss.cons (S.ite (E.or (E.cmp (CO.eq) (E.v 4) (E.c (D.int 0))) (E.cmp (CO.gt) (E.v 5) (E.v 3))) (Ss.cons (S.rse 0 (E.v 1)) (Ss.nil)) (Ss.nil))
                  (Ss.cons (S.par 4 1 (E.v 5) (E.bin (BO.add) (E.v 1) (E.c (D.int 1)))) (Ss.nil))))) δ st).seq fun δ1 st1 =>
              evSs (callF F (k + 3)) true (Ss.cons (S.ret (E.tup (Es.cons (E.v 4) (Es.cons (E.v 1) (Es.nil))))) (Ss.nil)) δ1 st1) = (dgs most (c - 48) (i + 1) (s.drop (i + 1))).r natAt st := by
            intro δ hδ
            subst hδ
            rw [evS_wh]
            refine dgs_loop (s := s) (fun j f l => ?_) (fun j f d l e1 e2 e3 => ?_) (fun j f d l e1 e2 e3 => ?_) (fun j f l => ?_) s.length (i + 1) turns (c - 48) none (by omega) (by have := h.1; have := turns_big; omega)
            · cases e1 : s[j]? with
              | none => simp [len_str h.fits, nlt_int_of e1, ge_of_get e1]
              | some d => simp [len_str h.fits, lt_int_of e1, lt_of_get e1, idx_str h.fits e1, isIn_fig]
            · have hj := lt_of_get e1
              have hs := h.1
              by_cases e4 : f = 0
              · subst e4
                refine ⟨[some (.str s), some (.int j), some (.int least), some (.int most), some (.int (0 : Nat)), some (.int ((d - 48 : Nat) : Int))], ?_⟩
                simp [idx_str h.fits e1, index_fig e2, mul10, asgT, rse_nat (show j < 1000000000 by omega)]
              · have e5 : (most : Int) < ((10 * f : Nat) : Int) + ((d - 48 : Nat) : Int) := by omega
                refine ⟨[some (.str s), some (.int j), some (.int least), some (.int most), some (.int f), some (.int (10 * (f : Int) + ((d - 48 : Nat) : Int)))], ?_⟩
                simp [idx_str h.fits e1, index_fig e2, mul10, asgT, rse_nat (show j < 1000000000 by omega), e4, show (most : Int) < 10 * (f : Int) + ((d - 48 : Nat) : Int) by omega]
            · have e4 : ¬ f = 0 := fun x => e3 (.inl x)
              refine ⟨some (.int (10 * (f : Int) + ((d - 48 : Nat) : Int))), ?_⟩
              simp [idx_str h.fits e1, index_fig e2, mul10, asgT, e4, show ¬ (most : Int) < 10 * (f : Int) + ((d - 48 : Nat) : Int) by omega]
            · simp [fits2, natAt]
          have y3 : whole s i least most = dgs most (c - 48) (i + 1) (s.drop (i + 1)) := by
            simp [whole, e, q, z, y]
          rw [y3, ← rest _ rfl]
          by_cases z1 : 0 < least
          · have z2 : c ≠ 48 := fun x => z ⟨z1, x⟩
            simp only [evSs_cons, evS_ite]
            simp [len_str h.fits, nge_int_of e, hn, idx_str h.fits e, notIn_fig, q, z1, z2, eq_chr (h.get e) (show 48 < 128 by decide), index_fig q, y2]
          · simp [len_str h.fits, nge_int_of e, hn, idx_str h.fits e, notIn_fig, q, z1, index_fig q, y2]
end
end PVL
set_option Elab.async false
set_option linter.all false
set_option maxRecDepth 10000
/-! PL3: fractions. -/
namespace PVL
open PV
abbrev Fr := Int × Int
/-- in lowest terms -/
def mk (a b : Int) : Fr := (a.fdiv (Int.gcd a b), b.fdiv (Int.gcd a b))
def times (x y : Fr) : Fr := mk (x.1 * y.1) (x.2 * y.2)
def plus (x y : Fr) : Fr := mk (x.1 * y.2 + y.1 * x.2) (x.2 * y.2)
/-- of at most so many bits, the second one above 0 -/
def Bd (n : Nat) (x : Fr) : Prop := x.1.natAbs < 2 ^ n ∧ 0 < x.2 ∧ x.2.natAbs < 2 ^ n
theorem Bd.mono {n m : Nat} {x : Fr} (h : Bd n x) (q : n ≤ m) : Bd m x := by
  have := Nat.pow_le_pow_right (n := 2) (by decide) q
  exact ⟨Nat.lt_of_lt_of_le h.1 this, h.2.1, Nat.lt_of_lt_of_le h.2.2 this⟩
def frD (k : Bool) (x : Fr) : D := .tup k [.int x.1, .int x.2]
theorem fdiv_gcd (a b : Int) (hb : 0 < b) : ∃ a' b' : Int, a = Int.gcd a b * a' ∧ b = Int.gcd a b * b' ∧ mk a b = (a', b') ∧ 0 < (Int.gcd a b : Int) ∧ 0 < b' := by
  obtain ⟨a', ha⟩ := Int.gcd_dvd_left (a := a) (b := b)
  obtain ⟨b', hb'⟩ := Int.gcd_dvd_right (a := a) (b := b)
  have hg : 0 < (Int.gcd a b : Int) := by
    have : Int.gcd a b ≠ 0 := fun z => by rw [Int.gcd_eq_zero_iff] at z; omega
    omega
  refine ⟨a', b', ha, hb', ?_, hg, ?_⟩
  · unfold mk
    generalize hG : (Int.gcd a b : Int) = g at *
    subst ha hb'
    rw [Int.mul_fdiv_cancel_left _ (by omega), Int.mul_fdiv_cancel_left _ (by omega)]
  · rw [hb'] at hb
    exact Int.pos_of_mul_pos_right hb hg |> fun h => h
theorem bd_mk {n : Nat} {a b : Int} (ha : a.natAbs < 2 ^ n) (hb : 0 < b) (hb2 : b.natAbs < 2 ^ n) : Bd n (mk a b) := by
  obtain ⟨a', b', h1, h2, h3, h4, h5⟩ := fdiv_gcd a b hb
  rw [h3]
  have g1 : 1 ≤ Int.gcd a b := by omega
  have e1 : a.natAbs = Int.gcd a b * a'.natAbs := by
    have := congrArg Int.natAbs h1
    rw [Int.natAbs_mul] at this
    simpa using this
  have e2 : b.natAbs = Int.gcd a b * b'.natAbs := by
    have := congrArg Int.natAbs h2
    rw [Int.natAbs_mul] at this
    simpa using this
  refine ⟨?_, h5, ?_⟩
  · have : a'.natAbs ≤ Int.gcd a b * a'.natAbs := Nat.le_mul_of_pos_left _ g1
    show a'.natAbs < _
    omega
  · have : b'.natAbs ≤ Int.gcd a b * b'.natAbs := Nat.le_mul_of_pos_left _ g1
    show b'.natAbs < _
    omega
theorem natAbs_mul_lt {a b : Int} {n m : Nat} (ha : a.natAbs < 2 ^ n) (hb : b.natAbs < 2 ^ m) : (a * b).natAbs < 2 ^ (n + m) := by
  rw [Int.natAbs_mul, Nat.pow_add]
  exact Nat.mul_lt_mul'' ha hb
theorem bd_times {n m : Nat} {x y : Fr} (hx : Bd n x) (hy : Bd m y) : Bd (n + m) (times x y) :=
  bd_mk (natAbs_mul_lt hx.1 hy.1) (Int.mul_pos hx.2.1 hy.2.1) (natAbs_mul_lt hx.2.2 hy.2.2)
theorem bd_plus {n m : Nat} {x y : Fr} (hx : Bd n x) (hy : Bd m y) : Bd (n + m + 1) (plus x y) := by
  have h1 := natAbs_mul_lt hx.1 hy.2.2
  have h2 := natAbs_mul_lt hy.1 hx.2.2
  have h3 := natAbs_mul_lt hx.2.2 hy.2.2
  rw [Nat.add_comm m n] at h2
  have h4 : 2 ^ (n + m + 1) = 2 * 2 ^ (n + m) := by rw [Nat.pow_succ]; omega
  have h5 := Int.natAbs_add_le (x.1 * y.2) (y.1 * x.2)
  refine bd_mk ?_ (Int.mul_pos hx.2.1 hy.2.1) ?_
  · rw [h4]; omega
  · rw [h4]; omega
theorem wide_of {i : Int} {n : Nat} (h : i.natAbs < 2 ^ n) (q : n ≤ 8000) : wide i = true := by
  unfold wide
  exact Nat.ble_eq_true_of_le (Nat.lt_of_lt_of_le h (Nat.pow_le_pow_right (by decide) q))
theorem okMul_of {i j : Int} {n m : Nat} (hi : i.natAbs < 2 ^ n) (hj : j.natAbs < 2 ^ m) (qn : n ≤ 8000) (qm : m ≤ 8000) : okMul i j = true := by
  unfold okMul
  rw [wide_of hi qn, wide_of hj qm]
  simp
theorem okDiv_of {i j : Int} {n m : Nat} (hi : i.natAbs < 2 ^ n) (hj : j.natAbs < 2 ^ m) (h0 : 0 < j) (qn : n ≤ 8000) (qm : m ≤ 8000) : okDiv i j = true := by
  unfold okDiv
  rw [wide_of hi qn, wide_of hj qm]
  simp [h0]
section
variable {F : Nat → Option Fn}
@[simp] theorem gcd_int (a b : Int) (st : Sto) : bfD .gcd [.int a, .int b] st = .ok (.int (Int.gcd a b)) st := rfl
theorem fdiv_int {i j : Int} (h : okDiv i j = true) (st : Sto) : binD .fdiv (.int i) (.int j) st = .ok (.int (i.fdiv j)) st := by simp [binD, h]
theorem made_ok (h10 : F 10 = some f10) (k : Nat) {n : Nat} {a b : Int} (ha : a.natAbs < 2 ^ n) (hb : 0 < b) (hb2 : b.natAbs < 2 ^ n) (hn : n ≤ 8000) (st : Sto) : callF F (k + 1) 10 [.int a, .int b] st = .ok (frD false (mk a b)) st := by
  rw [callF_at [some (.int a), some (.int b), none] h10 rfl rfl]
  simp only [f10]
  obtain ⟨a', b', h1, h2, h3, h4, h5⟩ := fdiv_gcd a b hb
  have g2 : (Int.gcd a b : Int).natAbs < 2 ^ n := by
    have : Int.gcd a b ≤ b.natAbs := by
      have e2 : b.natAbs = Int.gcd a b * b'.natAbs := by
        have := congrArg Int.natAbs h2
        rw [Int.natAbs_mul] at this
        simpa using this
      rw [e2]
      exact Nat.le_mul_of_pos_right _ (by omega)
    simp; omega
  have d1 := okDiv_of ha g2 h4 hn hn
  have d2 := okDiv_of hb2 g2 h4 hn hn
  simp [asgT, hb, fdiv_int d1, fdiv_int d2, fits2, frD, mk]
@[simp] theorem idx_tup0 (k : Bool) (a : D) (ds : List D) (st : Sto) : idxD (.tup k (a :: ds)) (.int 0) st = .ok a st := by
  simp [idxD, atI, ixN]
@[simp] theorem idx_tup1 (k : Bool) (a b : D) (ds : List D) (st : Sto) : idxD (.tup k (a :: b :: ds)) (.int 1) st = .ok b st := by
  simp [idxD, atI, ixN]
  rw [if_pos (by omega)]
  rfl
theorem times_ok (h10 : F 10 = some f10) (h12 : F 12 = some f12) (k : Nat) {n m : Nat} {x y : Fr} {p q : Bool} (hx : Bd n x) (hy : Bd m y) (hn : n + m ≤ 8000) (st : Sto) : callF F (k + 2) 12 [frD p x, frD q y] st = .ok (frD false (times x y)) st := by
  rw [callF_at [some (frD p x), some (frD q y)] h12 rfl rfl]
  simp only [f12, frD]
  have m1 := okMul_of hx.1 hy.1 (by omega) (by omega)
  have m2 := okMul_of hx.2.2 hy.2.2 (by omega) (by omega)
  have := made_ok h10 k (natAbs_mul_lt hx.1 hy.1) (Int.mul_pos hx.2.1 hy.2.1) (natAbs_mul_lt hx.2.2 hy.2.2) hn st
  simp [mul_int m1, mul_int m2, this, frD, times]
theorem plus_ok (h10 : F 10 = some f10) (h11 : F 11 = some f11) (k : Nat) {n m : Nat} {x y : Fr} {p q : Bool} (hx : Bd n x) (hy : Bd m y) (hn : n + m + 1 ≤ 8000) (st : Sto) : callF F (k + 2) 11 [frD p x, frD q y] st = .ok (frD false (plus x y)) st := by
  rw [callF_at [some (frD p x), some (frD q y)] h11 rfl rfl]
  simp only [f11, frD]
  have m1 := okMul_of hx.1 hy.2.2 (by omega) (by omega)
  have m3 := okMul_of hy.1 hx.2.2 (by omega) (by omega)
  have m2 := okMul_of hx.2.2 hy.2.2 (by omega) (by omega)
  have a1 := natAbs_mul_lt hx.1 hy.2.2
  have a2 := natAbs_mul_lt hy.1 hx.2.2
  have a3 := natAbs_mul_lt hx.2.2 hy.2.2
  rw [Nat.add_comm m n] at a2
  have h4 : 2 ^ (n + m + 1) = 2 * 2 ^ (n + m) := by rw [Nat.pow_succ]; omega
  have h5 := Int.natAbs_add_le (x.1 * y.2) (y.1 * x.2)
  have := made_ok h10 k (n := n + m + 1) (a := x.1 * y.2 + y.1 * x.2) (b := x.2 * y.2) (by rw [h4]; omega) (Int.mul_pos hx.2.1 hy.2.1) (by rw [h4]; omega) hn st
  simp [mul_int m1, mul_int m2, mul_int m3, this, frD, plus]
end
/-! ### comprehensions -/
theorem mapR_ok {f : D → Sto → R (Option D)} {st : Sto} (p : D → Bool) (g : D → D) : ∀ (ds acc : List D), (∀ d ∈ ds, f d st = .ok (if p d = true then some (g d) else none) st) → mapR f ds acc st = .ok (acc.reverse ++ (ds.filter p).map g) st
  | [], acc, _ => by simp [mapR]
  | d :: ds, acc, h => by
    have h1 := h d List.mem_cons_self
    have ih := fun acc => mapR_ok p g ds acc fun e he => h e (List.mem_cons_of_mem _ he)
    unfold mapR
    rw [h1, bind_ok]
    by_cases q : p d = true
    · simp only [q, if_true]
      rw [ih]
      simp [List.filter_cons, q]
    · simp only [q, if_false]
      rw [ih]
      simp [List.filter_cons, q]
theorem lc_ok {call : Nat → List D → Sto → R D} {t : Bool} {δ : Sl} {st st1 : Sto} {ws : List Nat} {tg : T} {it : I} {cond : Eo} {e : E} {ds : List D} (p : D → Bool) (g : D → D) (hI : evI call it δ st = .ok ds st1) (hix : (tg.ix.all fun i => ws.contains i) = true)
    (hs : ∀ d ∈ ds, ∃ δ1, asgT tg d (wipe δ ws) = some δ1 ∧ evc call cond δ1 st1 = .ok (p d) st1 ∧ (p d = true → ev call e false δ1 st1 = .ok (g d) st1)) (hf : fits ds.length = true) :
    ev call (.lc ws tg it cond e) t δ st = tst t (.ok (.lst ((ds.filter p).map g)) st1) := by
  show tst t ((evI call it δ st).bind _) = _
  rw [hI, bind_ok]
  congr 1
  rw [mapR_ok p g ds [] fun d hd => ?_]
  · simp [noX, hf]
  · obtain ⟨δ1, h1, h2, h3⟩ := hs d hd
    simp only [hix, h1, h2, bind_ok]
    cases q : p d with
    | false => rfl
    | true => simp only [h3 q, bind_ok, if_true]
end PVL
set_option Elab.async false
set_option linter.all false
set_option maxRecDepth 10000
/-! PL4: words of one sign, powers, factors. -/
namespace PVL
open PV
def P.bind {α β : Type} (p : P α) (f : α → Nat → P β) : P β := match p with
  | .ok a i => f a i
  | .err i => .err i
@[simp] theorem P.bind_ok {α β : Type} (a : α) (i : Nat) (f : α → Nat → P β) : (P.ok a i).bind f = f a i := rfl
@[simp] theorem P.bind_err {α β : Type} (i : Nat) (f : α → Nat → P β) : (P.err i : P α).bind f = .err i := rfl
def wordP (U s : List Nat) (i : Nat) : P Nat := match s[sk s i]? with
  | some c => if c ∈ U then .ok c (sk s i + 1) else .err (sk s i)
  | none => .err (sk s i)
def powP (most : Nat) (s : List Nat) (i : Nat) : P Nat := if sgn s i = [94] then whole s (sk s (sk s i + 1)) 0 most else .ok 1 i
def fracP (s : List Nat) (i most : Nat) : P (Nat × Nat) := (whole s i 0 most).bind fun a j => if s[j]? = some 58 then (whole s (j + 1) 1 most).bind fun b l => .ok (a, b) l else .ok (a, 1) j
def FAR : Nat := 1000000000000000000000000000000000000000000000000000000000000
abbrev FV := (Nat × Nat) × Fr × Bool
def dgAt (s : List Nat) (i : Nat) : Bool := match s[i]? with
  | some c => isDig c
  | none => false
def factP (U : List Nat) (most : Nat) (fr : Bool) (s : List Nat) (i : Nat) : P FV :=
  if dgAt s (sk s i) = true then
    (if fr = true then (fracP s (sk s i) FAR).bind fun a j => .ok ((0, 0), mk a.1 a.2, false) j else (whole s (sk s i) 0 1000000).bind fun a j => .ok ((0, 0), (a, 1), false) j)
  else (wordP U s (sk s i)).bind fun w j => (powP most s j).bind fun p l => .ok (if w = 120 then (p, 0) else (0, p), (1, 1), true) l
def pwD (p : Nat × Nat) : D := .tup false [.int p.1, .int p.2]
def fvD (v : FV) (j : Nat) : D := .tup false [.tup false [pwD v.1, frD v.2.2 v.2.1], .int j]
def chD (c : Nat) : D := .str [c]
def wdD (c i : Nat) : D := .tup false [chD c, .int i]
def sortD' (U : List Nat) (most : Nat) (fr : Bool) : D := .tup false [.tup false (U.map chD), .int most, .bl fr]
/-! ### where they end -/
theorem dgs_end {most : Nat} : ∀ {r : List Nat} {f i a j : Nat}, dgs most f i r = .ok a j → i ≤ j ∧ j ≤ i + r.length
  | [], f, i, a, j, h => by
    simp only [dgs, P.ok.injEq] at h
    simp; omega
  | c :: r, f, i, a, j, h => by
    unfold dgs at h
    split at h
    · split at h
      · cases h
      · have := dgs_end h
        simp; omega
    · simp only [P.ok.injEq] at h
      simp; omega
theorem whole_end {s : List Nat} {i least most a j : Nat} (h : whole s i least most = .ok a j) : i < j ∧ j ≤ s.length := by
  unfold whole at h
  split at h
  · cases h
  · rename_i c e
    have := lt_of_get e
    split at h
    · cases h
    · split at h
      · cases h
      · have := dgs_end h
        rw [List.length_drop] at this
        omega
theorem dgs_le {most : Nat} : ∀ {r : List Nat} {f i a j : Nat}, f ≤ most → dgs most f i r = .ok a j → a ≤ most
  | [], f, i, a, j, hf, h => by
    simp only [dgs, P.ok.injEq] at h
    omega
  | c :: r, f, i, a, j, hf, h => by
    unfold dgs at h
    split at h
    · split at h
      · cases h
      · exact dgs_le (by omega) h
    · simp only [P.ok.injEq] at h
      omega
theorem whole_le {s : List Nat} {i least most a j : Nat} (h : whole s i least most = .ok a j) : a ≤ most := by
  unfold whole at h
  split at h
  · cases h
  · split at h
    · cases h
    · split at h
      · cases h
      · exact dgs_le (by omega) h
theorem wordP_end {U s : List Nat} {i a j : Nat} (h : wordP U s i = .ok a j) : i < j ∧ j ≤ s.length := by
  unfold wordP at h
  split at h
  · rename_i c e
    have := lt_of_get e
    have := sk_ge s i
    split at h
    · injection h with h1 h2; omega
    · cases h
  · cases h
theorem sgn_eq {s : List Nat} {i c : Nat} : sgn s i = [c] ↔ s[sk s i]? = some c := by
  unfold sgn
  cases s[sk s i]? <;> simp
theorem powP_end {most : Nat} {s : List Nat} {i a j : Nat} (hi : i ≤ s.length) (h : powP most s i = .ok a j) : i ≤ j ∧ j ≤ s.length := by
  unfold powP at h
  split at h
  · rename_i q
    have := lt_of_get (sgn_eq.mp q)
    have := sk_ge s i
    have := sk_ge s (sk s i + 1)
    have := whole_end h
    omega
  · injection h with h1 h2; omega
theorem fracP_end {s : List Nat} {i most : Nat} {a : Nat × Nat} {j : Nat} (h : fracP s i most = .ok a j) : i < j ∧ j ≤ s.length := by
  unfold fracP at h
  cases e : whole s i 0 most with
  | err j => rw [e] at h; cases h
  | ok b l =>
    rw [e, P.bind_ok] at h
    have := whole_end e
    split at h
    · cases e2 : whole s (l + 1) 1 most with
      | err j => rw [e2] at h; cases h
      | ok b2 l2 =>
        rw [e2, P.bind_ok] at h
        have := whole_end e2
        injection h with h1 h2; omega
    · injection h with h1 h2; omega
theorem factP_end {U : List Nat} {most : Nat} {fr : Bool} {s : List Nat} {i : Nat} {v : FV} {j : Nat} (h : factP U most fr s i = .ok v j) : i < j ∧ j ≤ s.length := by
  have := sk_ge s i
  unfold factP at h
  split at h
  · split at h
    · cases e : fracP s (sk s i) FAR with
      | err j => rw [e] at h; cases h
      | ok b l =>
        rw [e, P.bind_ok] at h
        have := fracP_end e
        injection h with h1 h2; omega
    · cases e : whole s (sk s i) 0 1000000 with
      | err j => rw [e] at h; cases h
      | ok b l =>
        rw [e, P.bind_ok] at h
        have := whole_end e
        injection h with h1 h2; omega
  · cases e : wordP U s (sk s i) with
    | err j => rw [e] at h; cases h
    | ok b l =>
      rw [e, P.bind_ok] at h
      have h1 := wordP_end e
      cases e2 : powP most s l with
      | err j => rw [e2] at h; cases h
      | ok b2 l2 =>
        rw [e2, P.bind_ok] at h
        have := powP_end h1.2 e2
        injection h with h1 h2; omega
/-! ### the defs -/
section
variable {F : Nat → Option Fn}
theorem isIn_tup {x : D} {k : Bool} {ds : List D} (hx : x.flat = true) (hd : ds.all D.flat = true) : isIn x (.tup k ds) = some (ds.any fun y => D.eqv y x) := by
  show (if (x.flat && ds.all D.flat) = true then _ else _) = _
  rw [hx, hd]; rfl
theorem flat_ch (U : List Nat) : (U.map chD).all D.flat = true := by
  induction U with
  | nil => rfl
  | cons c U ih => simpa [chD, D.flat] using ih
theorem any_ch (U : List Nat) (c : Nat) : ((U.map chD).any fun y => D.eqv y (.str [c])) = decide (c ∈ U) := by
  induction U with
  | nil => rfl
  | cons a U ih =>
    rw [List.map_cons, List.any_cons, ih]
    show (([a] : List Nat) == [c] || decide (c ∈ U)) = _
    by_cases q : c = a
    · subst q; simp
    · have : ¬ a = c := fun z => q z.symm
      simp [q, this]
theorem any_ch0 (U : List Nat) : ((U.map chD).any fun y => D.eqv y (.str [])) = false := by
  induction U with
  | nil => rfl
  | cons a U ih => rw [List.map_cons, List.any_cons, ih]; rfl
theorem boolsD_map {α : Type} (f : α → Bool) : ∀ l : List α, boolsD (l.map fun a => D.bl (f a)) = some (l.map f)
  | [] => rfl
  | a :: l => by simp [boolsD, boolsD_map f l]
theorem sk_sk (s : List Nat) (i : Nat) : sk s (sk s i) = sk s i := by
  unfold sk
  have key : ∀ r : List Nat, blanks (r.drop (blanks r)) = 0 := by
    intro r
    induction r with
    | nil => rfl
    | cons c r ih =>
      have e : blanks (c :: r) = if c = 32 then blanks r + 1 else 0 := rfl
      by_cases q : c = 32
      · rw [e, if_pos q, List.drop_succ_cons]; exact ih
      · rw [e, if_neg q, List.drop_zero, e, if_neg q]
  rw [← List.drop_drop, key]; omega
/-- the test whether a word begins so -/
theorem any_words {call : Nat → List D → Sto → R D} {t : Bool} {s : List Nat} {i : Nat} {U : List Nat} {k : Bool} {x : D} {o : Option D} {c : Nat} (hU : asc U = true) (hUl : U.length ≤ 1000) (hc : c < 128) (st : Sto) :
    ev call (E.bf (BF.any) (Es.cons (E.lc [5] (T.n 5) (I.of (E.v 2)) (Eo.none) (E.cmp (CO.eq) (E.slc (E.v 5) (Eo.none) (Eo.some (E.bf (BF.len) (Es.cons (E.v 4) (Es.nil))))) (E.v 4))) (Es.nil))) t
      [some (.str s), some (.int i), some (.tup k (U.map chD)), some x, some (.str [c]), o] st = .ok (.bl (decide (c ∈ U))) st := by
  have h1 := lc_ok (call := call) (t := false) (δ := [some (.str s), some (.int i), some (.tup k (U.map chD)), some x, some (.str [c]), o]) (st := st) (st1 := st) (ws := [5]) (tg := T.n 5) (it := I.of (E.v 2)) (cond := Eo.none)
    (e := E.cmp (CO.eq) (E.slc (E.v 5) (Eo.none) (Eo.some (E.bf (BF.len) (Es.cons (E.v 4) (Es.nil))))) (E.v 4)) (ds := U.map chD) (fun _ => true) (fun d => .bl (D.eqv d (.str [c]))) (by simp [seqOf]) (by decide) (fun d hd => by
      obtain ⟨u, hu, rfl⟩ := List.mem_map.mp hd
      have hu2 : u < 128 := by
        unfold asc at hU
        simp only [List.all_eq_true, Nat.blt_eq] at hU
        exact hU u hu
      refine ⟨[some (.str s), some (.int i), some (.tup k (U.map chD)), some x, some (.str [c]), some (chD u)], rfl, rfl, fun _ => ?_⟩
      have e1 : slcD (chD u) none (some 1) st = .ok (.str [u]) st := rfl
      have e2 : bfD .len [.str [c]] st = .ok (.int 1) st := rfl
      simp [e1, e2, eq_chr hu2 hc]
      show _ = (([u] : List Nat) == [c])
      by_cases q : u = c <;> simp [q]) (by rw [List.length_map]; exact Nat.ble_eq_true_of_le (by omega))
  simp only [ev_bf, evs_cons, evs_nil]
  rw [h1]
  simp only [tst_f, bind_ok]
  have h2 : boolsD (((U.map chD).filter fun _ => true).map fun d => D.bl (D.eqv d (.str [c]))) = some ((U.map chD).map fun d => D.eqv d (.str [c])) := by
    rw [show (U.map chD).filter (fun _ => true) = U.map chD from by simp, boolsD_map]
  simp only [bfD, h2]
  have h3 : ((U.map chD).map fun d => D.eqv d (.str [c])).any id = decide (c ∈ U) := by
    rw [List.any_map, ← any_ch]
    rfl
  rw [h3]
  cases t <;> simp
theorem word_ok (h30 : F 30 = some f30) (h33 : F 33 = some f33) {s : List Nat} (h : Ok s) (k i : Nat) {U : List Nat} {b : Bool} (hi : i ≤ s.length) (hU : asc U = true) (hUl : U.length ≤ 1000) (h32 : 32 ∉ U) (st : Sto) : callF F (k + 4) 33 [.str s, .int i, .tup b (U.map chD)] st = (wordP U s i).r wdD st := by
  rw [callF_at [some (.str s), some (.int i), some (.tup b (U.map chD)), none, none, none] h33 rfl rfl, blt_off]
  simp only [f33, evSs_cons, evSs_nil, evS_par, evS_wh]
  have hb : sk s i < 1000000000 := by have := sk_le hi; have := h.1; omega
  have c0 : isIn (.str []) (.tup b (U.map chD)) = some false := by rw [isIn_tup rfl (flat_ch U), any_ch0]
  have c1 : ∀ c, isIn (.str [c]) (.tup b (U.map chD)) = some (decide (c ∈ U)) := fun c => by rw [isIn_tup rfl (flat_ch U), any_ch]
  have f1 : ∀ c, binD .add (.str []) (.str [c]) st = .ok (.str [c]) st := fun c => rfl
  simp only [skipped_ok h30 h, ev_c, ev_v0, ev_v1, evs_cons, evs_nil, ev_call, tst_f, bind_ok, thn_ok, parS_eq, List.length_cons, List.length_nil, List.set_cons_succ, List.set_cons_zero, seq_nx]
  rw [if_pos (by decide), seq_nx]
  have start : ∀ (o : Option D), (ev (callF F (k + 3)) (E.cmp CO.notin (E.v 3) (E.v 2)) true [some (D.str s), some (D.int (sk s i)), some (D.tup b (U.map chD)), some (D.str []), o, none] st) = .ok (.bl true) st := fun o => by
    simp [cmpD, c0]
  have hlen : turns = turns - 2 + 1 + 1 := by decide
  cases e : s[sk s i]? with
  | none =>
    have w1 : wordP U s i = .err (sk s i) := by unfold wordP; rw [e]
    rw [w1, hlen]
    have step := any_words (call := callF F (k + 3)) (t := true) (s := s) (i := sk s i) (k := b) (x := .str []) (o := none) hU hUl (show 32 < 128 by decide) st
    rw [wh_exc (x := 0) (p := .int (sk s i)) (δ1 := [some (D.str s), some (D.int (sk s i)), some (D.tup b (U.map chD)), some (D.str []), some (.str [32]), none]) (start none) ?_]
    · rfl
    · simp only [evS_asg, ev_bin, ev_v3, tst_f, bind_ok, ev_ite, ev_cmp, ev_v1, ev_bf, evs_cons, evs_nil, ev_v0, len_str h.fits, lt_int, okO_s, nlt_int_of e, ev_c, decide_false, onB_f, f1, thn_ok, asgT, List.length_cons, List.length_nil, List.set_cons_succ, List.set_cons_zero]
      rw [if_pos (by decide)]
      simp only [nxt_s, seq_nx, evS_ite, ev_not, step, h32, decide_false, bind_ok, onB_f, thn_ok, onB_t, evSs_cons, evSs_nil, evS_rse, ev_v1, tst_f, rse_nat hb, seq_exc]
  | some c =>
    have hc := h.get e
    have step := any_words (call := callF F (k + 3)) (t := true) (s := s) (i := sk s i) (k := b) (x := .str []) (o := none) hU hUl hc st
    by_cases q : c ∈ U
    · have w1 : wordP U s i = .ok c (sk s i + 1) := by unfold wordP; rw [e]; simp [q]
      rw [w1, hlen]
      rw [wh_go (δ1 := [some (D.str s), some (D.int ((sk s i + 1 : Nat) : Int)), some (D.tup b (U.map chD)), some (D.str [c]), some (.str [c]), none]) (st2 := st) (start none) ?_]
      · rw [wh_stop (st1 := st) ?_]
        · simp [fits2, wdD, chD]
        · simp [cmpD, c1, q]
      · simp only [evS_asg, ev_bin, ev_v3, tst_f, bind_ok, ev_ite, ev_cmp, ev_v1, ev_bf, evs_cons, evs_nil, ev_v0, len_str h.fits, lt_int, okO_s, lt_int_of e, ev_c, decide_true, onB_t, tst_t, truth_b, ev_idx, idx_str h.fits e, f1, thn_ok, asgT, List.length_cons, List.length_nil, List.set_cons_succ, List.set_cons_zero]
        rw [if_pos (by decide)]
        simp only [nxt_s, seq_nx, evS_ite, ev_not, step, q, decide_true, bind_ok, onB_f, thn_ok, onB_t, evSs_cons, evSs_nil]
        simp
    · have w1 : wordP U s i = .err (sk s i) := by unfold wordP; rw [e]; simp [q]
      rw [w1, hlen]
      rw [wh_exc (x := 0) (p := .int (sk s i)) (δ1 := [some (D.str s), some (D.int (sk s i)), some (D.tup b (U.map chD)), some (D.str []), some (.str [c]), none]) (start none) ?_]
      · rfl
      · simp only [evS_asg, ev_bin, ev_v3, tst_f, bind_ok, ev_ite, ev_cmp, ev_v1, ev_bf, evs_cons, evs_nil, ev_v0, len_str h.fits, lt_int, okO_s, lt_int_of e, ev_c, decide_true, onB_t, tst_t, truth_b, ev_idx, idx_str h.fits e, f1, thn_ok, asgT, List.length_cons, List.length_nil, List.set_cons_succ, List.set_cons_zero]
        rw [if_pos (by decide)]
        simp only [nxt_s, seq_nx, evS_ite, ev_not, step, q, decide_false, bind_ok, onB_f, thn_ok, onB_t, evSs_cons, evSs_nil, evS_rse, ev_v1, tst_f, rse_nat hb, seq_exc]
end
end PVL
set_option Elab.async false
set_option linter.all false
set_option maxRecDepth 10000
/-! PL5: powers, factors, terms. -/
namespace PVL
open PV
/-! ### how great -/
theorem dgs_lt {most : Nat} : ∀ {r : List Nat} {f i a j : Nat}, dgs most f i r = .ok a j → a + 1 ≤ (f + 1) * 16 ^ (j - i)
  | [], f, i, a, j, h => by
    simp only [dgs, P.ok.injEq] at h
    obtain ⟨rfl, rfl⟩ := h
    simp
  | c :: r, f, i, a, j, h => by
    unfold dgs at h
    split at h
    · rename_i hd
      split at h
      · cases h
      · have e := dgs_end h
        have := dgs_lt h
        have hc := dig_cases hd
        have p : 16 ^ (j - i) = 16 * 16 ^ (j - (i + 1)) := by
          rw [show j - i = (j - (i + 1)) + 1 by omega, Nat.pow_succ]; omega
        rw [p]
        have : 10 * f + (c - 48) + 1 ≤ (f + 1) * 16 := by omega
        have q := Nat.mul_le_mul_right (16 ^ (j - (i + 1))) this
        rw [Nat.mul_assoc] at q
        omega
    · simp only [P.ok.injEq] at h
      obtain ⟨rfl, rfl⟩ := h
      simp
theorem whole_lt {s : List Nat} {i least most a j : Nat} (h : whole s i least most = .ok a j) : a < 2 ^ (4 * (j - i)) := by
  have e := whole_end h
  unfold whole at h
  split at h
  · cases h
  · rename_i c _
    split at h
    · cases h
    · rename_i hd
      split at h
      · cases h
      · have hd2 : isDig c = true := by
          cases q : isDig c with
          | true => rfl
          | false => exact absurd (.inl q) hd
        have hc := dig_cases hd2
        have := dgs_lt h
        have p : 2 ^ (4 * (j - i)) = 16 ^ (j - i) := by rw [Nat.pow_mul]
        have p2 : 16 ^ (j - i) = 16 * 16 ^ (j - (i + 1)) := by
          rw [show j - i = (j - (i + 1)) + 1 by omega, Nat.pow_succ]; omega
        rw [p, p2]
        have q := Nat.mul_le_mul_right (16 ^ (j - (i + 1))) (show c - 48 + 1 ≤ 16 by omega)
        omega
theorem whole_pos {s : List Nat} {i most a j : Nat} (h : whole s i 1 most = .ok a j) : 0 < a := by
  have key : ∀ {r : List Nat} {f i a j : Nat}, 0 < f → dgs most f i r = .ok a j → 0 < a := by
    intro r
    induction r with
    | nil => intro f i a j hf h; simp only [dgs, P.ok.injEq] at h; omega
    | cons c r ih =>
      intro f i a j hf h
      unfold dgs at h
      split at h
      · split at h
        · cases h
        · exact ih (by omega) h
      · simp only [P.ok.injEq] at h; omega
  unfold whole at h
  split at h
  · cases h
  · rename_i c _
    split at h
    · cases h
    · rename_i hd
      split at h
      · cases h
      · have hd2 : isDig c = true := by
          cases q : isDig c with
          | true => rfl
          | false => exact absurd (.inl q) hd
        have hc := dig_cases hd2
        exact key (by have : ¬ (c = 48) := fun z => hd (.inr ⟨by decide, z⟩); omega) h
theorem bd_nat {a n : Nat} (h : a < 2 ^ n) (hn : 0 < n) : Bd n ((a : Int), 1) := by
  refine ⟨by simpa using h, by show (0 : Int) < 1; decide, ?_⟩
  have := Nat.pow_le_pow_right (n := 2) (by decide) hn
  show (1 : Int).natAbs < 2 ^ n
  simp; omega
theorem bd_one {n : Nat} (hn : 0 < n) : Bd n (1, 1) := bd_nat (a := 1) (by have := Nat.pow_le_pow_right (n := 2) (by decide) hn; omega) hn
theorem fracP_pos {s : List Nat} {i most : Nat} {a : Nat × Nat} {j : Nat} (h : fracP s i most = .ok a j) : a.1 < 2 ^ (4 * (j - i)) ∧ 0 < a.2 ∧ a.2 < 2 ^ (4 * (j - i)) := by
  unfold fracP at h
  cases e : whole s i 0 most with
  | err j => rw [e] at h; cases h
  | ok b l =>
    rw [e, P.bind_ok] at h
    have h1 := whole_end e
    have h2 := whole_lt e
    split at h
    · cases e2 : whole s (l + 1) 1 most with
      | err j => rw [e2] at h; cases h
      | ok b2 l2 =>
        rw [e2, P.bind_ok] at h
        have h3 := whole_end e2
        have h4 := whole_lt e2
        have h5 := whole_pos e2
        injection h with h1 h2
        subst h1 h2
        have q1 := Nat.pow_le_pow_right (n := 2) (by decide) (show 4 * (l - i) ≤ 4 * (l2 - i) by omega)
        have q2 := Nat.pow_le_pow_right (n := 2) (by decide) (show 4 * (l2 - (l + 1)) ≤ 4 * (l2 - i) by omega)
        exact ⟨by show b < _; omega, h5, by show b2 < _; omega⟩
    · injection h with h1 h2
      subst h1 h2
      have := Nat.pow_le_pow_right (n := 2) (by decide) (show 1 ≤ 4 * (l - i) by omega)
      exact ⟨by assumption, by show 0 < 1; decide, by show 1 < _; omega⟩
theorem factP_bd {U : List Nat} {most : Nat} {fr : Bool} {s : List Nat} {i : Nat} {v : FV} {j : Nat} (h : factP U most fr s i = .ok v j) : Bd (4 * (j - i)) v.2.1 := by
  have hj := factP_end h
  have hs := sk_ge s i
  unfold factP at h
  split at h
  · split at h
    · cases e : fracP s (sk s i) FAR with
      | err j => rw [e] at h; cases h
      | ok b l =>
        rw [e, P.bind_ok] at h
        have h1 := fracP_pos e
        have h2 := fracP_end e
        injection h with h3 h4
        subst h3 h4
        exact (bd_mk (n := 4 * (l - sk s i)) (by simpa using h1.1) (by omega) (by simpa using h1.2.2)).mono (by omega)
    · cases e : whole s (sk s i) 0 1000000 with
      | err j => rw [e] at h; cases h
      | ok b l =>
        rw [e, P.bind_ok] at h
        have h1 := whole_end e
        injection h with h3 h4
        subst h3 h4
        exact (bd_nat (whole_lt e) (by omega)).mono (by omega)
  · cases e : wordP U s (sk s i) with
    | err j => rw [e] at h; cases h
    | ok b l =>
      rw [e, P.bind_ok] at h
      cases e2 : powP most s l with
      | err j => rw [e2] at h; cases h
      | ok b2 l2 =>
        rw [e2, P.bind_ok] at h
        injection h with h3 h4
        subst h3
        exact bd_one (by omega)
/-! ### the defs -/
section
variable {F : Nat → Option Fn}
theorem power_ok (h30 : F 30 = some f30) (h31 : F 31 = some f31) (h32 : F 32 = some f32) (h34 : F 34 = some f34) (h40 : F 40 = some f40) {s : List Nat} (h : Ok s) (k i most : Nat) (hi : i ≤ s.length) (st : Sto) : callF F (k + 5) 40 [.str s, .int i, .int most] st = (powP most s i).r natAt st := by
  rw [callF_at [some (.str s), some (.int i), some (.int most)] h40 rfl rfl]
  simp only [f40]
  have e1 : cmpD .ne (.str (sgn s i)) (.str [94]) = some (decide (sgn s i ≠ [94])) := ne_str (sgn_asc h i) (by decide)
  by_cases q : sgn s i = [94]
  · have q2 := sgn_eq.mp q
    have e1' : cmpD .ne (.str (sgn s i)) (.str [94]) = some false := by rw [e1]; simp [q]
    have hl := lt_of_get q2
    have w := whole_ok h34 h k (sk s (sk s i + 1)) 0 most (sk_le (by omega)) st
    have p := passed_ok h30 h32 h k i 94 hi (by decide) st
    rw [if_pos q2] at p
    have hp : powP most s i = whole s (sk s (sk s i + 1)) 0 most := by unfold powP; rw [if_pos q]
    rw [hp]
    simp only [evSs_cons, evSs_nil, evS_ite, ev_cmp, ev_call, evs_cons, evs_nil, ev_v0, ev_v1, ev_v2, ev_c, tst_f, bind_ok, sign_ok h30 h31 h, e1', okO_s, thn_ok, onB_f, seq_nx, evS_asg, p, skipped_ok h30 h, asgT, List.length_cons, List.length_nil]
    simp only [show (1 < 0 + 1 + 1 + 1) = True by simp, if_true, nxt_s, seq_nx, List.set_cons_succ, List.set_cons_zero, evS_ret, ev_call, evs_cons, evs_nil, ev_v0, ev_v1, ev_v2, ev_c, tst_f, bind_ok]
    have w' : callF F (k + 4) 34 [D.str s, D.int (sk s (sk s i + 1)), D.int 0, D.int most] st = _ := w
    rw [w']
    cases whole s (sk s (sk s i + 1)) 0 most <;> rfl
  · have hp : powP most s i = .ok 1 i := by unfold powP; rw [if_neg q]
    rw [hp]
    simp [sign_ok h30 h31 h, e1, q, fits2, natAt]
def fracD (a : Nat × Nat) (j : Nat) : D := .tup false [.int a.1, .int a.2, .int j]
theorem frac_ok (h34 : F 34 = some f34) (h35 : F 35 = some f35) {s : List Nat} (h : Ok s) (k i most : Nat) (hi : i ≤ s.length) (st : Sto) : callF F (k + 5) 35 [.str s, .int i, .int most] st = (fracP s i most).r fracD st := by
  rw [callF_at [some (.str s), some (.int i), some (.int most), none, none] h35 rfl rfl]
  simp only [f35]
  have w : callF F (k + 4) 34 [.str s, .int i, .int 0, .int most] st = (whole s i 0 most).r natAt st := whole_ok h34 h k i 0 most hi st
  cases e : whole s i 0 most with
  | err j => simp [w, e, fracP]
  | ok a j =>
    have hj := whole_end e
    by_cases q : s[j]? = some 58
    · have w2 : callF F (k + 4) 34 [.str s, .int ((j : Int) + 1), .int 1, .int most] st = (whole s (j + 1) 1 most).r natAt st := whole_ok h34 h k (j + 1) 1 most (by have := lt_of_get q; omega) st
      cases e3 : whole s (j + 1) 1 most with
      | err l =>
        have z : fracP s i most = .err l := by unfold fracP; rw [e, P.bind_ok, if_pos q, e3, P.bind_err]
        rw [z]
        simp [w, e, natAt, asgT, len_str h.fits, lt_int_of q, lt_of_get q, idx_str h.fits q, eq_chr (show 58 < 128 by decide) (show 58 < 128 by decide), w2, e3]
      | ok b l =>
        have z : fracP s i most = .ok (a, b) l := by unfold fracP; rw [e, P.bind_ok, if_pos q, e3, P.bind_ok]
        rw [z]
        simp [w, e, natAt, asgT, len_str h.fits, lt_int_of q, lt_of_get q, idx_str h.fits q, eq_chr (show 58 < 128 by decide) (show 58 < 128 by decide), w2, e3, fits3, fracD]
    · have z : fracP s i most = .ok (a, 1) j := by unfold fracP; rw [e, P.bind_ok, if_neg q]
      rw [z]
      cases e2 : s[j]? with
      | none => simp [w, e, natAt, asgT, len_str h.fits, nlt_int_of e2, ge_of_get e2, fits3, fracD]
      | some c =>
        have q2 : c ≠ 58 := fun x => q (by rw [e2, x])
        simp [w, e, natAt, asgT, len_str h.fits, lt_int_of e2, lt_of_get e2, idx_str h.fits e2, eq_chr (h.get e2) (show 58 < 128 by decide), q2, fits3, fracD]
theorem fact_ok (h10 : F 10 = some f10) (h30 : F 30 = some f30) (h31 : F 31 = some f31) (h32 : F 32 = some f32) (h33 : F 33 = some f33) (h34 : F 34 = some f34) (h35 : F 35 = some f35) (h40 : F 40 = some f40) (h41 : F 41 = some f41)
    {s : List Nat} (h : Ok s) (hl : s.length ≤ 1300) (k i most : Nat) {U : List Nat} {fr : Bool} (hi : i ≤ s.length) (hU : asc U = true) (hUl : U.length ≤ 1000) (hu32 : 32 ∉ U) (st : Sto) : callF F (k + 6) 41 [.str s, .int i, sortD' U most fr] st = (factP U most fr s i).r fvD st := by
  rw [callF_at [some (.str s), some (.int i), some (sortD' U most fr), none, none, none, none, none, none, none] h41 rfl rfl]
  simp only [f41]
  have a1 : ∀ δ : Sl, δ = [some (.str s), some (.int i), some (sortD' U most fr), none, none, none, none, none, none, none] → asgT (T.t3 (T.n 3) (T.n 4) (T.n 5)) (sortD' U most fr) δ = some [some (.str s), some (.int i), some (sortD' U most fr), some (.tup false (U.map chD)), some (.int most), some (.bl fr), none, none, none, none] := fun δ e => by subst e; rfl
  have b1 : sk s i ≤ s.length := sk_le hi
  have g1 : dgAt s (sk s i) = true → ∃ c, s[sk s i]? = some c ∧ isDig c = true := fun z => by
    unfold dgAt at z
    split at z
    · exact ⟨_, by assumption, z⟩
    · cases z
  unfold factP
  cases q : dgAt s (sk s i) with
  | true =>
    obtain ⟨c, e, hd⟩ := g1 q
    cases fr with
    | true =>
      have w : callF F (k + 5) 35 [.str s, .int (sk s i), .int 1000000000000000000000000000000000000000000000000000000000000] st = (fracP s (sk s i) FAR).r fracD st := frac_ok h34 h35 h k (sk s i) FAR b1 st
      cases e2 : fracP s (sk s i) FAR with
      | err j => simp [sortD', skipped_ok h30 h, asgT, len_str h.fits, lt_int_of e, lt_of_get e, idx_str h.fits e, isIn_fig, hd, w, e2]
      | ok a j =>
        obtain ⟨p1, p2, p3⟩ := fracP_pos e2
        have p4 := fracP_end e2
        have m := made_ok h10 (k + 4) (a := a.1) (b := a.2) (n := 4 * (j - sk s i)) (by simpa using p1) (by omega) (by simpa using p3) (by omega) st
        simp [sortD', skipped_ok h30 h, asgT, len_str h.fits, lt_int_of e, lt_of_get e, idx_str h.fits e, isIn_fig, hd, w, e2, fracD, m, fits2, fvD, pwD]
    | false =>
      have w : callF F (k + 5) 34 [.str s, .int (sk s i), .int 0, .int 1000000] st = (whole s (sk s i) 0 1000000).r natAt st := whole_ok h34 h (k + 1) (sk s i) 0 1000000 b1 st
      cases e2 : whole s (sk s i) 0 1000000 with
      | err j => simp [sortD', skipped_ok h30 h, asgT, len_str h.fits, lt_int_of e, lt_of_get e, idx_str h.fits e, isIn_fig, hd, w, e2]
      | ok a j => simp [sortD', skipped_ok h30 h, asgT, len_str h.fits, lt_int_of e, lt_of_get e, idx_str h.fits e, isIn_fig, hd, w, e2, natAt, fits2, fvD, pwD, frD]
  | false =>
    have w : callF F (k + 5) 33 [.str s, .int (sk s i), .tup false (U.map chD)] st = (wordP U s (sk s i)).r wdD st := word_ok h30 h33 h (k + 1) (sk s i) (b := false) b1 hU hUl hu32 st
    have cnd : ∀ (r : List (Option D)), (ev (callF F (k + 5)) (E.and (E.cmp (CO.lt) (E.v 1) (E.bf (BF.len) (Es.cons (E.v 0) (Es.nil)))) (E.cmp (CO.isin) (E.idx (E.v 0) (E.v 1)) (E.c (D.str [48, 49, 50, 51, 52, 53, 54, 55, 56, 57])))) true
        (some (.str s) :: some (.int (sk s i)) :: r) st) = .ok (.bl false) st := fun r => by
      unfold dgAt at q
      cases e : s[sk s i]? with
      | none => simp [len_str h.fits, nlt_int_of e, ge_of_get e]
      | some c =>
        rw [e] at q
        simp [len_str h.fits, lt_int_of e, lt_of_get e, idx_str h.fits e, isIn_fig, show isDig c = false from q]
    simp only [evSs_cons, evSs_nil, evS_asg, ev_v2, tst_f, thn_ok, a1 _ rfl, nxt_s, seq_nx, ev_call, evs_cons, evs_nil, ev_v0, ev_v1, bind_ok, skipped_ok h30 h]
    simp only [asgT, List.length_cons, List.length_nil, show (1 < 0 + 1 + 1 + 1 + 1 + 1 + 1 + 1 + 1 + 1 + 1) = True by simp, if_true, nxt_s, seq_nx, List.set_cons_succ, List.set_cons_zero, evS_ite, cnd, thn_ok, onB_f, evs_cons, evs_nil, ev_v0, ev_v1, ev_v3, tst_f, bind_ok, w]
    cases e2 : wordP U s (sk s i) with
    | err j => simp [w, e2]
    | ok c j =>
      have hj := wordP_end e2
      have hc : c < 128 := by
        unfold wordP at e2
        split at e2
        · rename_i d ed
          split at e2
          · injection e2 with z1 z2
            subst z1
            exact h.get ed
          · cases e2
        · cases e2
      have w2 := power_ok h30 h31 h32 h34 h40 h k j most hj.2 st
      cases e3 : powP most s j with
      | err l => simp [w, e2, wdD, chD, asgT, w2, e3]
      | ok p l =>
        by_cases q2 : c = 120
        · subst q2
          simp [w, e2, wdD, chD, asgT, w2, e3, natAt, eq_chr (show 120 < 128 by decide) (show 120 < 128 by decide), fits2, fvD, pwD, frD]
        · simp [w, e2, wdD, chD, asgT, w2, e3, natAt, eq_chr hc (show 120 < 128 by decide), q2, fits2, fvD, pwD, frD]
end
end PVL
set_option Elab.async false
set_option linter.all false
set_option maxRecDepth 10000
/-! PL6: terms, sums of terms. -/
namespace PVL
open PV
def loopP {α : Type} (cond : α → Nat → Bool) (step : α → Nat → P α) : Nat → α → Nat → P α
  | 0, x, i => .ok x i
  | m + 1, x, i => if cond x i = true then (step x i).bind (loopP cond step m) else .ok x i
theorem wh_par {α : Type} {c : Sl → Sto → R D} {b : Sl → Sto → RS} {K : Sl → Sto → RS} {st : Sto} (L : Nat) (Rel : α → Nat → Sl → Prop) (cond : α → Nat → Bool) (step : α → Nat → P α) (out : α → Nat → D)
    (hL : ∀ x i δ, Rel x i δ → i ≤ L) (hc : ∀ x i δ, Rel x i δ → c δ st = .ok (.bl (cond x i)) st)
    (hb : ∀ x i δ, Rel x i δ → cond x i = true → (∃ y j δ', step x i = .ok y j ∧ i < j ∧ b δ st = .ok (.nx δ') st ∧ Rel y j δ') ∨ ∃ e δ', step x i = .err e ∧ b δ st = .exc 0 (.int (e : Nat)) δ' st)
    (hK : ∀ x i δ, Rel x i δ → outR (K δ st) = .ok (out x i) st) : ∀ (m n : Nat) (x : α) (i : Nat) (δ : Sl), L - i < m → m ≤ n → Rel x i δ → outR ((whR c b n δ st).seq K) = (loopP cond step m x i).r out st
  | 0, n, x, i, δ, hm, _, _ => by omega
  | m + 1, 0, x, i, δ, _, hn, _ => by omega
  | m + 1, n + 1, x, i, δ, hm, hn, r => by
    unfold loopP
    by_cases q : cond x i = true
    · rw [if_pos q]
      rcases hb x i δ r q with ⟨y, j, δ', h1, h2, h3, h4⟩ | ⟨e, δ', h1, h2⟩
      · have := hL _ _ _ r
        have := hL _ _ _ h4
        rw [h1, P.bind_ok, wh_go (by rw [hc _ _ _ r, q]) h3, wh_par L Rel cond step out hL hc hb hK m n y j δ' (by omega) (by omega) h4]
      · rw [h1, P.bind_err, wh_exc (by rw [hc _ _ _ r, q]) h2]
        rfl
    · have q2 : cond x i = false := by simpa using q
      rw [if_neg q, wh_stop (by rw [hc _ _ _ r, q2]), seq_nx, hK _ _ _ r]
      rfl
def joinF (v w : FV) : FV := ((v.1.1 + w.1.1, v.1.2 + w.1.2), times v.2.1 w.2.1, false)
def termC (s : List Nat) (_ : FV) (i : Nat) : Bool := decide (sgn s i = [42])
def termS (U : List Nat) (most : Nat) (fr : Bool) (s : List Nat) (v : FV) (i : Nat) : P FV := (factP U most fr s (sk s i + 1)).bind fun w j => .ok (joinF v w) j
def termP (U : List Nat) (most : Nat) (fr : Bool) (s : List Nat) (i : Nat) : P FV := (factP U most fr s i).bind fun v j => loopP (termC s) (termS U most fr s) (s.length + 1) v j
theorem loopP_inv {α : Type} {cond : α → Nat → Bool} {step : α → Nat → P α} (I : α → Nat → Prop) (hs : ∀ x i y j, I x i → cond x i = true → step x i = .ok y j → I y j) : ∀ {m : Nat} {x : α} {i : Nat} {y : α} {j : Nat}, I x i → loopP cond step m x i = .ok y j → I y j
  | 0, x, i, y, j, h, e => by
    simp only [loopP, P.ok.injEq] at e
    obtain ⟨rfl, rfl⟩ := e
    exact h
  | m + 1, x, i, y, j, h, e => by
    unfold loopP at e
    split at e
    · rename_i q
      cases e2 : step x i with
      | err l => rw [e2] at e; cases e
      | ok z l =>
        rw [e2, P.bind_ok] at e
        exact loopP_inv I hs (hs _ _ _ _ h q e2) e
    · injection e with h1 h2
      subst h1 h2
      exact h
theorem termP_end {U : List Nat} {most : Nat} {fr : Bool} {s : List Nat} {i : Nat} {v : FV} {j : Nat} (h : termP U most fr s i = .ok v j) : i < j ∧ j ≤ s.length ∧ Bd (4 * (j - i)) v.2.1 := by
  unfold termP at h
  cases e : factP U most fr s i with
  | err l => rw [e] at h; cases h
  | ok w l =>
    rw [e, P.bind_ok] at h
    have h1 := factP_end e
    have h2 := factP_bd e
    refine loopP_inv (fun v j => i < j ∧ j ≤ s.length ∧ Bd (4 * (j - i)) v.2.1) ?_ ⟨h1.1, h1.2, h2⟩ h
    intro x l y j ⟨k1, k2, k3⟩ q e3
    unfold termS at e3
    cases e4 : factP U most fr s (sk s l + 1) with
    | err l => rw [e4] at e3; cases e3
    | ok w l2 =>
      rw [e4, P.bind_ok] at e3
      have h3 := factP_end e4
      have h4 := factP_bd e4
      have h5 := sk_ge s l
      injection e3 with z1 z2
      subst z1 z2
      exact ⟨by omega, h3.2, (bd_times k3 h4).mono (by omega)⟩
theorem turns_eq : turns = 1000000 := rfl
section
variable {F : Nat → Option Fn}
theorem term_ok (h10 : F 10 = some f10) (h12 : F 12 = some f12) (h30 : F 30 = some f30) (h31 : F 31 = some f31) (h32 : F 32 = some f32) (h33 : F 33 = some f33) (h34 : F 34 = some f34) (h35 : F 35 = some f35) (h40 : F 40 = some f40) (h41 : F 41 = some f41) (h42 : F 42 = some f42)
    {s : List Nat} (h : Ok s) (hl : s.length ≤ 1300) (k i most : Nat) {U : List Nat} {fr : Bool} (hi : i ≤ s.length) (hU : asc U = true) (hUl : U.length ≤ 1000) (hu32 : 32 ∉ U) (st : Sto) : callF F (k + 7) 42 [.str s, .int i, sortD' U most fr] st = (termP U most fr s i).r fvD st := by
  rw [callF_at [some (.str s), some (.int i), some (sortD' U most fr), none, none, none, none] h42 rfl rfl]
  have fk : ∀ (j : Nat), j ≤ s.length → callF F (k + 6) 41 [.str s, .int j, sortD' U most fr] st = (factP U most fr s j).r fvD st := fun j hj => fact_ok h10 h30 h31 h32 h33 h34 h35 h40 h41 h hl k j most hj hU hUl hu32 st
  simp only [f42, evSs_cons, evSs_nil, evS_asg, ev_call, evs_cons, evs_nil, ev_v0, ev_v1, ev_v2, tst_f, bind_ok, fk i hi]
  unfold termP
  cases e : factP U most fr s i with
  | err l => rfl
  | ok w l =>
    have h1 := factP_end e
    have h2 := factP_bd e
    simp only [P.r_ok, thn_ok, fvD, asgT, List.length_cons, List.length_nil, P.bind_ok]
    simp only [show (3 < 0 + 1 + 1 + 1 + 1 + 1 + 1 + 1) = True by simp, show (4 < 0 + 1 + 1 + 1 + 1 + 1 + 1 + 1) = True by simp, show (1 < 0 + 1 + 1 + 1 + 1 + 1 + 1 + 1) = True by simp, if_true, Option.bind_some, List.length_set, List.length_cons, List.length_nil, nxt_s, seq_nx, List.set_cons_succ, List.set_cons_zero, evS_wh]
    refine wh_par s.length (fun (v : FV) j δ => i < j ∧ j ≤ s.length ∧ Bd (4 * (j - i)) v.2.1 ∧ ∃ o1 o2, δ = [some (.str s), some (.int j), some (sortD' U most fr), some (pwD v.1), some (frD v.2.2 v.2.1), o1, o2]) (termC s) (termS U most fr s) fvD ?_ ?_ ?_ ?_ (s.length + 1) turns w l _ (by omega) (by rw [turns_eq]; omega) ⟨h1.1, h1.2, h2, _, _, rfl⟩
    · intro v j δ ⟨_, q, _⟩; exact q
    · rintro v j δ ⟨_, q, _, o1, o2, rfl⟩
      have e1 : cmpD .eq (.str (sgn s j)) (.str [42]) = some (decide (sgn s j = [42])) := eq_str (sgn_asc h j) (by decide)
      simp [sign_ok h30 h31 h, e1, termC]
    · rintro v j δ ⟨q0, q, qb, o1, o2, rfl⟩ hc
      have hc : s[sk s j]? = some 42 := sgn_eq.mp (of_decide_eq_true hc)
      have hlt := lt_of_get hc
      have p : callF F (k + 6) 32 [.str s, .int j, .str [42]] st = .ok (.int ((sk s j + 1 : Nat) : Int)) st := by
        have := passed_ok h30 h32 h (k + 2) j 42 q (by decide) st
        rw [if_pos hc] at this
        exact this
      have fj := fk (sk s j + 1) (by omega)
      unfold termS
      cases e2 : factP U most fr s (sk s j + 1) with
      | err x =>
        refine .inr ⟨x, [some (.str s), some (.int j), some (sortD' U most fr), some (pwD v.1), some (frD v.2.2 v.2.1), o1, o2], rfl, ?_⟩
        simp only [evSs_cons, evS_asg, ev_call, evs_cons, evs_nil, ev_v0, ev_v1, ev_v2, ev_c, tst_f, bind_ok, p, fj, e2, P.r_err, thn_exc, seq_exc]
      | ok y x =>
        have g1 := factP_end e2
        have g2 := factP_bd e2
        have g3 := sk_ge s j
        have t : callF F (k + 6) 12 [frD v.2.2 v.2.1, frD y.2.2 y.2.1] st = .ok (frD false (times v.2.1 y.2.1)) st := times_ok h10 h12 (k + 4) qb g2 (by omega) st
        refine .inl ⟨joinF v y, x, [some (.str s), some (.int x), some (sortD' U most fr), some (pwD (joinF v y).1), some (frD (joinF v y).2.2 (joinF v y).2.1), some (pwD y.1), some (frD y.2.2 y.2.1)], rfl, by omega, ?_, by omega, g1.2, (bd_times qb g2).mono (by omega), some (pwD y.1), some (frD y.2.2 y.2.1), rfl⟩
        simp only [evSs_cons, evS_asg, ev_call, evs_cons, evs_nil, ev_v0, ev_v1, ev_v2, ev_c, tst_f, bind_ok, p, fj, e2, P.r_ok, thn_ok, fvD]
        simp [asgT, pwD, t, fits2, joinF]
    · rintro v j δ ⟨q0, q, qb, o1, o2, rfl⟩
      simp [fits2, fvD]
end
end PVL
set_option Elab.async false
set_option linter.all false
set_option maxRecDepth 10000
/-! PL7: sums of terms: terms_at. -/
namespace PVL
open PV
def key (p : Nat × Nat) : List Int := [(p.1 : Int), (p.2 : Int)]
theorem key_inj {p q : Nat × Nat} : key p = key q ↔ p = q := by
  obtain ⟨a, b⟩ := p
  obtain ⟨c, d⟩ := q
  simp only [key, List.cons.injEq, Prod.mk.injEq, and_true]
  omega
abbrev Tm := List ((Nat × Nat) × Fr)
def getT (l : Tm) (p : Nat × Nat) : Fr := (l.lookup p).getD (0, 1)
def putT (x : Fr) (p : Nat × Nat) : Tm → Tm
  | [] => [(p, x)]
  | q :: l => if q.1 = p then (p, x) :: l else q :: putT x p l
def tmK (l : Tm) : List (List Int) := l.map fun q => key q.1
def tmV (l : Tm) : List D := l.map fun q => frD false q.2
def tmD (l : Tm) : D := .dct (tmK l) (tmV l)
theorem lookK_tm (p : Nat × Nat) : ∀ l : Tm, lookK (key p) (tmK l) (tmV l) = (l.lookup p).map (frD false)
  | [] => rfl
  | q :: l => by
    have ih := lookK_tm p l
    show (if key q.1 = key p then some (frD false q.2) else lookK (key p) (tmK l) (tmV l)) = _
    obtain ⟨q1, q2⟩ := q
    rw [List.lookup_cons]
    by_cases e : q1 = p
    · subst e
      simp
    · have e2 : ¬ key q1 = key p := fun z => e (key_inj.mp z)
      have e3 : (p == q1) = false := by simpa using fun z => e z.symm
      rw [if_neg e2, e3, ih]
theorem hasK_tm (p : Nat × Nat) : ∀ l : Tm, hasK (key p) (tmK l) = l.any fun q => decide (q.1 = p)
  | [] => rfl
  | q :: l => by
    have ih := hasK_tm p l
    show (if key q.1 = key p then true else hasK (key p) (tmK l)) = _
    rw [List.any_cons, ih]
    by_cases e : q.1 = p
    · rw [if_pos (by rw [e])]; simp [e]
    · rw [if_neg (fun z => e (key_inj.mp z))]; simp [e]
/-- no key twice -/
def UniT : Tm → Prop
  | [] => True
  | q :: l => (l.any fun r => decide (r.1 = q.1)) = false ∧ UniT l
theorem putV_tm (x : Fr) (p : Nat × Nat) : ∀ l : Tm, (l.any fun q => decide (q.1 = p)) = true → UniT l → putV (key p) (frD false x) (tmK l) (tmV l) = tmV (putT x p l) ∧ tmK (putT x p l) = tmK l
  | [], h, _ => by cases h
  | q :: l, h, u => by
    have e0 : putV (key p) (frD false x) (tmK (q :: l)) (tmV (q :: l)) = (if key q.1 = key p then frD false x else frD false q.2) :: putV (key p) (frD false x) (tmK l) (tmV l) := rfl
    rw [e0]
    unfold putT
    by_cases e : q.1 = p
    · subst e
      rw [if_pos rfl, if_pos rfl]
      have same : ∀ l : Tm, (l.any fun r => decide (r.1 = q.1)) = false → putV (key q.1) (frD false x) (tmK l) (tmV l) = tmV l := by
        intro l
        induction l with
        | nil => intro _; rfl
        | cons r l ih =>
          intro h
          simp only [List.any_cons, Bool.or_eq_false_iff, decide_eq_false_iff_not] at h
          show (if key r.1 = key q.1 then frD false x else frD false r.2) :: putV (key q.1) (frD false x) (tmK l) (tmV l) = _
          rw [if_neg (fun z => h.1 (key_inj.mp z)), ih h.2]
          rfl
      rw [same l u.1]
      exact ⟨rfl, rfl⟩
    · rw [if_neg (fun z => e (key_inj.mp z)), if_neg e]
      rw [List.any_cons] at h
      have h2 : (l.any fun q => decide (q.1 = p)) = true := by simpa [e] using h
      obtain ⟨i1, i2⟩ := putV_tm x p l h2 u.2
      rw [i1]
      refine ⟨rfl, ?_⟩
      show key q.1 :: tmK (putT x p l) = _
      rw [i2]; rfl
theorem putT_new (x : Fr) (p : Nat × Nat) : ∀ l : Tm, (l.any fun q => decide (q.1 = p)) = false → putT x p l = l ++ [(p, x)]
  | [], _ => rfl
  | q :: l, h => by
    simp only [List.any_cons, Bool.or_eq_false_iff, decide_eq_false_iff_not] at h
    unfold putT
    rw [if_neg h.1, putT_new x p l h.2]
    rfl
theorem putK_tm (x : Fr) (p : Nat × Nat) (l : Tm) (u : UniT l) : putK (key p) (frD false x) (tmK l) (tmV l) = (tmK (putT x p l), tmV (putT x p l)) := by
  unfold putK
  rw [hasK_tm]
  cases h : l.any fun q => decide (q.1 = p) with
  | true =>
    obtain ⟨h1, h2⟩ := putV_tm x p l h u
    dsimp only
    rw [h1, h2]
  | false =>
    dsimp only
    rw [putT_new x p l h]
    simp [tmK, tmV]
theorem putT_any (x : Fr) (p r : Nat × Nat) : ∀ l : Tm, ((putT x p l).any fun q => decide (q.1 = r)) = ((l.any fun q => decide (q.1 = r)) || decide (p = r))
  | [] => by simp [putT]
  | q :: l => by
    unfold putT
    by_cases e : q.1 = p
    · rw [if_pos e, List.any_cons, List.any_cons, e]
      cases decide (p = r) <;> simp
    · rw [if_neg e, List.any_cons, List.any_cons, putT_any x p r l, Bool.or_assoc]
theorem putT_uni (x : Fr) (p : Nat × Nat) : ∀ l : Tm, UniT l → UniT (putT x p l)
  | [], _ => ⟨rfl, trivial⟩
  | q :: l, u => by
    unfold putT
    by_cases e : q.1 = p
    · rw [if_pos e]
      exact ⟨by rw [← e]; exact u.1, u.2⟩
    · rw [if_neg e]
      refine ⟨?_, putT_uni x p l u.2⟩
      rw [putT_any, u.1]
      have : ¬ p = q.1 := fun z => e z.symm
      simp [this]
theorem putT_len (x : Fr) (p : Nat × Nat) : ∀ l : Tm, (putT x p l).length ≤ l.length + 1
  | [] => Nat.le_refl _
  | q :: l => by
    unfold putT
    have := putT_len x p l
    split <;> simp <;> omega
theorem putT_all {Q : (Nat × Nat) × Fr → Prop} (x : Fr) (p : Nat × Nat) (hp : Q (p, x)) : ∀ l : Tm, (∀ q ∈ l, Q q) → ∀ q ∈ putT x p l, Q q
  | [], _, q, hq => by
    simp only [putT, List.mem_singleton] at hq
    subst hq; exact hp
  | r :: l, h, q, hq => by
    unfold putT at hq
    split at hq
    · rcases List.mem_cons.mp hq with z | z
      · subst z; exact hp
      · exact h q (List.mem_cons_of_mem _ z)
    · rcases List.mem_cons.mp hq with z | z
      · subst z; exact h _ List.mem_cons_self
      · exact putT_all x p hp l (fun q hq => h q (List.mem_cons_of_mem _ hq)) q z
theorem getT_mem {l : Tm} {p : Nat × Nat} {x : Fr} (h : l.lookup p = some x) : (p, x) ∈ l := by
  induction l with
  | nil => cases h
  | cons q l ih =>
    obtain ⟨q1, q2⟩ := q
    rw [List.lookup_cons] at h
    split at h
    · rename_i e
      have := beq_iff_eq.mp e
      injection h with h
      subst this h
      exact List.mem_cons_self
    · exact List.mem_cons_of_mem _ (ih h)
/-- one more term -/
def addT (l : Tm) (sg : Int) (v : FV) : Tm := putT (plus (getT l v.1) (times (sg, 1) v.2.1)) v.1 l
def termsLoop (U : List Nat) (most : Nat) (fr : Bool) (s : List Nat) : Nat → Tm → Int → Nat → P Tm
  | 0, l, _, i => .ok l i
  | m + 1, l, sg, i => (termP U most fr s i).bind fun v j => if sgn s j = [43] then termsLoop U most fr s m (addT l sg v) 1 (sk s j + 1) else if sgn s j = [45] then termsLoop U most fr s m (addT l sg v) (-1) (sk s j + 1) else .ok (addT l sg v) j
def termsP (U : List Nat) (most : Nat) (fr : Bool) (s : List Nat) (i : Nat) : P Tm := if sgn s i = [45] then termsLoop U most fr s (s.length + 1) [] (-1) (sk s i + 1) else termsLoop U most fr s (s.length + 1) [] 1 i
def tsD (l : Tm) (j : Nat) : D := .tup false [tmD l, .int j]
/-- what is kept on the way -/
structure TmOk (l : Tm) (i : Nat) : Prop where
  uni : UniT l
  len : l.length ≤ i
  bd : ∀ q ∈ l, Bd (6 * i + 1) q.2
  pw : ∀ q ∈ l, q.1.1 < 256 ∧ q.1.2 < 256
theorem bd_sg {sg : Int} (h : sg = 1 ∨ sg = -1) : Bd 1 (sg, 1) := by
  rcases h with h | h <;> subst h <;> exact ⟨by decide, by decide, by decide⟩
theorem bd_zero : Bd 1 (0, 1) := ⟨by decide, by decide, by decide⟩
theorem TmOk.get {l : Tm} {i : Nat} (h : TmOk l i) (p : Nat × Nat) : Bd (6 * i + 1) (getT l p) := by
  unfold getT
  cases e : l.lookup p with
  | none => exact bd_zero.mono (by omega)
  | some x => exact h.bd _ (getT_mem e)
theorem TmOk.add {l : Tm} {i j : Nat} {v : FV} {sg : Int} (h : TmOk l i) (hs : sg = 1 ∨ sg = -1) (hij : i < j) (hv : Bd (4 * (j - i)) v.2.1) (hp : v.1.1 < 256 ∧ v.1.2 < 256) : TmOk (addT l sg v) j := by
  have b := bd_plus (h.get v.1) (bd_times (bd_sg hs) hv)
  refine ⟨putT_uni _ _ _ h.uni, ?_, ?_, ?_⟩
  · have := putT_len (plus (getT l v.1) (times (sg, 1) v.2.1)) v.1 l
    have := h.len
    unfold addT; omega
  · exact putT_all (Q := fun q => Bd (6 * j + 1) q.2) _ _ (b.mono (by omega)) l fun q hq => (h.bd q hq).mono (by omega)
  · exact putT_all (Q := fun q => q.1.1 < 256 ∧ q.1.2 < 256) _ _ hp l h.pw
theorem TmOk.mono {l : Tm} {i j : Nat} (h : TmOk l i) (q : i ≤ j) : TmOk l j := ⟨h.uni, by have := h.len; omega, fun q hq => (h.bd q hq).mono (by omega), h.pw⟩
theorem keysOk {l : Tm} (h : ∀ q ∈ l, q.1.1 < 256 ∧ q.1.2 < 256) : (tmK l).all keyOk = true := by
  rw [List.all_eq_true]
  intro k hk
  obtain ⟨q, hq, rfl⟩ := List.mem_map.mp hk
  have := h q hq
  simp only [key, keyOk, Bool.and_eq_true, decide_eq_true_eq]
  omega
theorem intsD_key (p : Nat × Nat) : keyOf (pwD p) = some (key p) := rfl
theorem ev_dstar {call : Nat → List D → Sto → R D} {t : Bool} {δ : Sl} {st : Sto} {a k v : E} {l : Tm} {p : Nat × Nat} {x : Fr} (ha : ev call a false δ st = .ok (tmD l) st) (hk : ev call k false δ st = .ok (pwD p) st) (hv : ev call v false δ st = .ok (frD false x) st)
    (hl : ∀ q ∈ l, q.1.1 < 256 ∧ q.1.2 < 256) (hu : UniT l) (hf : l.length ≤ 1000000) : ev call (.dstar a k v) t δ st = tst t (.ok (tmD (putT x p l)) st) := by
  show tst t ((noX (ev call a false δ st)).bind _) = _
  rw [ha]
  simp only [noX, bind_ok, tmD]
  have e1 : ((tmK l).all keyOk && fits (tmK l).length) = true := by
    rw [keysOk hl]
    unfold fits tmK
    rw [List.length_map]
    exact Nat.ble_eq_true_of_le hf
  simp only [e1, hk, hv, noX, bind_ok, intsD_key]
  rw [putK_tm x p l hu]
section
variable {F : Nat → Option Fn}
def b43 : Ss := (Ss.cons (S.asg (T.t2 (T.t2 (T.n 5) (T.n 6)) (T.n 1)) (E.call 42 (Es.cons (E.v 0) (Es.cons (E.v 1) (Es.cons (E.v 2) (Es.nil))))))
        (Ss.cons (S.asg (T.n 3) (E.dstar (E.v 3) (E.v 5) (E.call 11 (Es.cons (E.mt (MF.get2) (E.v 3) (Es.cons (E.v 5) (Es.cons (E.c (D.tup true [D.int 0, D.int 1])) (Es.nil)))) (Es.cons (E.call 12 (Es.cons (E.v 4) (Es.cons (E.v 6) (Es.nil)))) (Es.nil))))))
          (Ss.cons (S.asg (T.n 7) (E.call 31 (Es.cons (E.v 0) (Es.cons (E.v 1) (Es.nil)))))
            (Ss.cons (S.ite (E.cmp (CO.notin) (E.v 7) (E.tup (Es.cons (E.c (D.str [43])) (Es.cons (E.c (D.str [45])) (Es.nil))))) (Ss.cons (S.ret (E.tup (Es.cons (E.v 3) (Es.cons (E.v 1) (Es.nil))))) (Ss.nil)) (Ss.nil))
              (Ss.cons (S.par 1 4 (E.call 32 (Es.cons (E.v 0) (Es.cons (E.v 1) (Es.cons (E.v 7) (Es.nil))))) (E.ite (E.cmp (CO.eq) (E.v 7) (E.c (D.str [43]))) (E.c (D.tup true [D.int 1, D.int 1])) (E.tup (Es.cons (E.neg (E.c (D.int 1))) (Es.cons (E.c (D.int 1)) (Es.nil)))))) (Ss.nil))))))
theorem f43_eq : f43 = ⟨3, 8, Ss.cons (S.par 3 4 (E.dnew false) (E.c (D.tup true [D.int 1, D.int 1]))) (Ss.cons (S.ite (E.cmp (CO.eq) (E.call 31 (Es.cons (E.v 0) (Es.cons (E.v 1) (Es.nil)))) (E.c (D.str [45])))
      (Ss.cons (S.par 1 4 (E.call 32 (Es.cons (E.v 0) (Es.cons (E.v 1) (Es.cons (E.c (D.str [45])) (Es.nil))))) (E.tup (Es.cons (E.neg (E.c (D.int 1))) (Es.cons (E.c (D.int 1)) (Es.nil))))) (Ss.nil)) (Ss.nil)) (Ss.cons (S.wh (E.c (D.bl true)) b43) Ss.nil))⟩ := rfl
theorem n43 : cmpD .notin (.str [43]) (.tup false [.str [43], .str [45]]) = some false := by rfl
theorem n45 : cmpD .notin (.str [45]) (.tup false [.str [43], .str [45]]) = some false := by rfl
theorem e43 : cmpD .eq (.str [43]) (.str [43]) = some true := by rfl
theorem e45 : cmpD .eq (.str [45]) (.str [43]) = some false := by rfl
theorem notIn_sg (s : List Nat) (j : Nat) : cmpD .notin (.str (sgn s j)) (.tup false [.str [43], .str [45]]) = some (!(decide (sgn s j = [43]) || decide (sgn s j = [45]))) := by
  simp only [cmpD]
  rw [isIn_tup (by rfl) (by rfl)]
  simp only [List.any_cons, List.any_nil, D.eqv, Bool.or_false, Option.map_some]
  congr 2
  have e : ∀ x y : List Nat, (x == y) = decide (y = x) := fun x y => by
    by_cases q : y = x
    · subst q; simp
    · have : ¬ x = y := fun z => q z.symm
      simp [q, this]
  rw [e, e]
/-- where terms stand that are reached -/
inductive Rch (U : List Nat) (most : Nat) (fr : Bool) (s : List Nat) (i0 : Nat) : Nat → Prop where
  | here : Rch U most fr s i0 (if sgn s i0 = [45] then sk s i0 + 1 else i0)
  | more {i j : Nat} {v : FV} : Rch U most fr s i0 i → termP U most fr s i = .ok v j → (sgn s j = [43] ∨ sgn s j = [45]) → Rch U most fr s i0 (sk s j + 1)
def PwOk (U : List Nat) (most : Nat) (fr : Bool) (s : List Nat) (i0 : Nat) : Prop := ∀ i v j, Rch U most fr s i0 i → termP U most fr s i = .ok v j → v.1.1 < 256 ∧ v.1.2 < 256
theorem terms_ok (h10 : F 10 = some f10) (h11 : F 11 = some f11) (h12 : F 12 = some f12) (h30 : F 30 = some f30) (h31 : F 31 = some f31) (h32 : F 32 = some f32) (h33 : F 33 = some f33) (h34 : F 34 = some f34) (h35 : F 35 = some f35) (h40 : F 40 = some f40) (h41 : F 41 = some f41) (h42 : F 42 = some f42) (h43 : F 43 = some f43)
    {s : List Nat} (h : Ok s) (hl : s.length ≤ 1300) (k i most : Nat) {U : List Nat} {fr : Bool} (hi : i ≤ s.length) (hU : asc U = true) (hUl : U.length ≤ 1000) (hu32 : 32 ∉ U)
    (hp : PwOk U most fr s i) (st : Sto) : callF F (k + 8) 43 [.str s, .int i, sortD' U most fr] st = (termsP U most fr s i).r tsD st := by
  rw [callF_at [some (.str s), some (.int i), some (sortD' U most fr), none, none, none, none, none] h43 rfl rfl]
  have tk : ∀ (j : Nat), j ≤ s.length → callF F (k + 7) 42 [.str s, .int j, sortD' U most fr] st = (termP U most fr s j).r fvD st := fun j hj => term_ok h10 h12 h30 h31 h32 h33 h34 h35 h40 h41 h42 h hl k j most hj hU hUl hu32 st
  have sg : ∀ j : Nat, callF F (k + 7) 31 [.str s, .int j] st = .ok (.str (sgn s j)) st := fun j => sign_ok h30 h31 h (k + 5) j st
  have ps : ∀ (j c : Nat), j ≤ s.length → c < 128 → s[sk s j]? = some c → callF F (k + 7) 32 [.str s, .int j, .str [c]] st = .ok (.int ((sk s j + 1 : Nat) : Int)) st := fun j c hj hc e => by
    have := passed_ok h30 h32 h (k + 3) j c hj hc st
    rw [if_pos e] at this
    exact this
  have loop : ∀ (c : Sl → Sto → R D) (b : Sl → Sto → RS) (K : Sl → Sto → RS), (∀ δ, c δ st = .ok (.bl true) st) →
      (∀ δ, b δ st = evSs (callF F (k + 7)) (Nat.blt 2 (k + 7)) b43 δ st) →
      ∀ (m n : Nat) (l : Tm) (g : Int) (q : Bool) (j : Nat) (o5 o6 o7 : Option D), s.length - j < m → m ≤ n → j ≤ s.length → TmOk l j → (g = 1 ∨ g = -1) → Rch U most fr s i j →
        outR ((whR c b n [some (.str s), some (.int j), some (sortD' U most fr), some (tmD l), some (frD q (g, 1)), o5, o6, o7] st).seq K) = (termsLoop U most fr s m l g j).r tsD st := by
    intro c b K hc hb m
    induction m with
    | zero => intro n l g q j o5 o6 o7 hm; omega
    | succ m ih =>
      intro n l g q j o5 o6 o7 hm hn hj hl2 hg hr
      cases n with
      | zero => omega
      | succ n =>
        unfold termsLoop
        cases e : termP U most fr s j with
        | err x =>
          rw [wh_exc (hc _) (x := 0) (p := .int x) (δ1 := [some (.str s), some (.int j), some (sortD' U most fr), some (tmD l), some (frD q (g, 1)), o5, o6, o7]) (st2 := st)]
          · rfl
          · rw [hb, b43]
            simp only [evSs_cons, evS_asg, ev_call, evs_cons, evs_nil, ev_v0, ev_v1, ev_v2, tst_f, bind_ok, tk j hj, e, P.r_err, thn_exc, seq_exc]
        | ok v x =>
          obtain ⟨x1, x2, x3⟩ := termP_end e
          have hpv := hp _ _ _ hr e
          have t : callF F (k + 7) 12 [frD q (g, 1), frD v.2.2 v.2.1] st = .ok (frD false (times (g, 1) v.2.1)) st := times_ok h10 h12 (k + 5) (bd_sg hg) x3 (by omega) st
          have bp := bd_times (bd_sg hg) x3
          have gt : mtD .get2 (tmD l) [pwD v.1, D.tup true [D.int 0, D.int 1]] st = .ok (frD (l.lookup v.1).isNone (getT l v.1)) st := by
            show (match keyOf (pwD v.1) with | some k => R.ok ((lookK k (tmK l) (tmV l)).getD (D.tup true [D.int 0, D.int 1])) st | none => .bad) = _
            rw [intsD_key]
            dsimp only
            rw [lookK_tm]
            unfold getT
            cases l.lookup v.1 <;> rfl
          have pl : callF F (k + 7) 11 [frD (l.lookup v.1).isNone (getT l v.1), frD false (times (g, 1) v.2.1)] st = .ok (frD false (plus (getT l v.1) (times (g, 1) v.2.1))) st := plus_ok h10 h11 (k + 5) (hl2.get v.1) bp (by omega) st
          have st1 : ∀ (K2 : Sl → Sto → RS), ((evS (callF F (k + 7)) (Nat.blt 2 (k + 7)) (S.asg (T.t2 (T.t2 (T.n 5) (T.n 6)) (T.n 1)) (E.call 42 (Es.cons (E.v 0) (Es.cons (E.v 1) (Es.cons (E.v 2) (Es.nil))))))
              [some (.str s), some (.int j), some (sortD' U most fr), some (tmD l), some (frD q (g, 1)), o5, o6, o7] st).seq K2) = K2 [some (.str s), some (.int x), some (sortD' U most fr), some (tmD l), some (frD q (g, 1)), some (pwD v.1), some (frD v.2.2 v.2.1), o7] st := fun K2 => by
            simp only [evS_asg, ev_call, evs_cons, evs_nil, ev_v0, ev_v1, ev_v2, tst_f, bind_ok, tk j hj, e, P.r_ok, thn_ok, fvD]
            rfl
          have st2 : ev (callF F (k + 7)) (E.dstar (E.v 3) (E.v 5) (E.call 11 (Es.cons (E.mt (MF.get2) (E.v 3) (Es.cons (E.v 5) (Es.cons (E.c (D.tup true [D.int 0, D.int 1])) (Es.nil)))) (Es.cons (E.call 12 (Es.cons (E.v 4) (Es.cons (E.v 6) (Es.nil)))) (Es.nil)))))
              false [some (.str s), some (.int x), some (sortD' U most fr), some (tmD l), some (frD q (g, 1)), some (pwD v.1), some (frD v.2.2 v.2.1), o7] st = .ok (tmD (addT l g v)) st := by
            rw [ev_dstar (l := l) (p := v.1) (x := plus (getT l v.1) (times (g, 1) v.2.1)) (by simp) (by simp) ?_ hl2.pw hl2.uni (by have := hl2.len; omega)]
            · rfl
            · have mt : ∀ st, mtTy .get2 (tmD l) st = true := fun _ => rfl
              simp only [ev_call, evs_cons, evs_nil, ev_mtK, ev_v3, ev_v4, ev_v5, ev_v6, ev_c, tst_f, bind_ok, mt, mtK_t, gt, t, pl]
          have okA := hl2.add hg x1 x3 hpv
          by_cases q1 : sgn s x = [43]
          · have q2 := sgn_eq.mp q1
            have l2 := lt_of_get q2
            have l3 := sk_ge s x
            rw [wh_go (hc _) (δ1 := [some (.str s), some (.int ((sk s x + 1 : Nat) : Int)), some (sortD' U most fr), some (tmD (addT l g v)), some (frD true (1, 1)), some (pwD v.1), some (frD v.2.2 v.2.1), some (.str [43])]) (st2 := st)]
            · rw [ih n (addT l g v) 1 true (sk s x + 1) _ _ _ (by omega) (by omega) (by omega) (okA.mono (by omega)) (.inl rfl) (.more hr e (.inl q1))]
              rw [P.bind_ok, if_pos q1]
            · rw [hb, b43, evSs_cons, st1]
              simp only [evSs_cons, evSs_nil, evS_asg, st2, thn_ok, asgT, List.length_cons, List.length_nil]
              simp [sg, q1, ps x 43 x2 (by decide) q2, n43, e43, fits2, frD]
          · by_cases q3 : sgn s x = [45]
            · have q2 := sgn_eq.mp q3
              have l2 := lt_of_get q2
              have l3 := sk_ge s x
              rw [wh_go (hc _) (δ1 := [some (.str s), some (.int ((sk s x + 1 : Nat) : Int)), some (sortD' U most fr), some (tmD (addT l g v)), some (frD false (-1, 1)), some (pwD v.1), some (frD v.2.2 v.2.1), some (.str [45])]) (st2 := st)]
              · rw [ih n (addT l g v) (-1) false (sk s x + 1) _ _ _ (by omega) (by omega) (by omega) (okA.mono (by omega)) (.inr rfl) (.more hr e (.inr q3))]
                rw [P.bind_ok, if_neg q1, if_pos q3]
              · rw [hb, b43, evSs_cons, st1]
                simp only [evSs_cons, evSs_nil, evS_asg, st2, thn_ok, asgT, List.length_cons, List.length_nil]
                simp [sg, q3, ps x 45 x2 (by decide) q2, n45, e45, fits2, frD]
            · rw [wh_rt (hc _) (d := tsD (addT l g v) x) (st2 := st)]
              · rw [P.bind_ok, if_neg q1, if_neg q3]
                rfl
              · rw [hb, b43, evSs_cons, st1]
                have ni := notIn_sg s x
                simp only [q1, q3, decide_false, Bool.or_false, Bool.not_false] at ni
                simp only [evSs_cons, evSs_nil, evS_asg, st2, thn_ok, asgT, List.length_cons, List.length_nil]
                simp [sg, ni, fits2, tsD]
  have ini : TmOk [] i := ⟨trivial, by simp, fun q hq => (nomatch hq), fun q hq => (nomatch hq)⟩
  have e1 : cmpD .eq (.str (sgn s i)) (.str [45]) = some (decide (sgn s i = [45])) := eq_str (sgn_asc h i) (by decide)
  unfold termsP
  have fin : ∀ (l : Tm) (g : Int) (q : Bool) (j : Nat), j ≤ s.length → TmOk l j → (g = 1 ∨ g = -1) → Rch U most fr s i j → outR (evSs (callF F (k + 7)) (Nat.blt 2 (k + 7)) (Ss.cons (S.wh (E.c (D.bl true)) b43) Ss.nil) [some (.str s), some (.int j), some (sortD' U most fr), some (tmD l), some (frD q (g, 1)), none, none, none] st) = (termsLoop U most fr s (s.length + 1) l g j).r tsD st := fun l g q j hj hl2 hg hr => by
    rw [evSs_cons, evS_wh]
    exact loop _ _ _ (fun δ => by simp) (fun δ => rfl) (s.length + 1) turns l g q j none none none (by omega) (by rw [turns_eq]; omega) hj hl2 hg hr
  rw [f43_eq]
  dsimp only
  rw [evSs_cons, evS_par]
  simp only [ev_dnew, ev_c, tst_f, thn_ok, parS_eq, List.length_cons, List.length_nil]
  rw [if_pos (by decide), seq_nx, evSs_cons, evS_ite]
  simp only [List.set_cons_succ, List.set_cons_zero, ev_cmp, ev_call, evs_cons, evs_nil, ev_v0, ev_v1, tst_f, bind_ok, sg, ev_c, e1, okO_s, thn_ok]
  by_cases q : sgn s i = [45]
  · have q2 := sgn_eq.mp q
    have l2 := lt_of_get q2
    have l3 := sk_ge s i
    rw [if_pos q, ← fin [] (-1) false (sk s i + 1) (by omega) (ini.mono (by omega)) (.inr rfl) (by have := Rch.here (U := U) (most := most) (fr := fr) (s := s) (i0 := i); rwa [if_pos q] at this)]
    simp only [q, decide_true, onB_t]
    rw [evSs_cons, evS_par]
    simp only [ev_call, evs_cons, evs_nil, ev_v0, ev_v1, ev_c, tst_f, bind_ok, ps i 45 hi (by decide) q2, thn_ok, ev_tup, ev_neg, negD_i, List.length_cons, List.length_nil, show fits (0 + 1 + 1) = true from rfl, okb_t, parS_eq]
    rw [if_pos (by decide), seq_nx, evSs_nil, seq_nx]
    rfl
  · rw [if_neg q, ← fin [] 1 true i hi ini (.inl rfl) (by have := Rch.here (U := U) (most := most) (fr := fr) (s := s) (i0 := i); rwa [if_neg q] at this)]
    simp only [q, decide_false, onB_f]
    rw [evSs_nil, seq_nx]
    rfl
end
end PVL
set_option Elab.async false
set_option linter.all false
set_option maxRecDepth 10000
/-! PL8: lines and surfaces of terms. -/
namespace PVL
open PV
theorem lcK_ok {call : Nat → List D → Sto → R D} {t : Bool} {δ : Sl} {st : Sto} {ws : List Nat} {tg : T} {i : Nat} {cond : Eo} {e : E} {ks : List (List Int)} {vs : List D} (p : D → Bool) (g : D → D) (hI : δ[i]? = some (some (.dct ks vs))) (hix : (tg.ix.all fun i => ws.contains i) = true)
    (hs : ∀ d ∈ ks.map ofKey, ∃ δ1, asgT tg d (wipe δ ws) = some δ1 ∧ evc call cond δ1 st = .ok (p d) st ∧ (p d = true → ev call e false δ1 st = .ok (g d) st)) (hf : fits ks.length = true) :
    ev call (.lcK ws tg i cond e) t δ st = tst t (.ok (.lst (((ks.map ofKey).filter p).map g)) st) := by
  show tst t (match δ[i]? with
    | some (some (.dct ks _)) => (noX (mapR (fun d st => match (tg.ix.all fun i => ws.contains i), asgT tg d (wipe δ ws) with
        | true, some δ1 => (evc call cond δ1 st).bind fun b st2 => match b with
          | true => (ev call e false δ1 st2).bind fun y st3 => .ok (some y) st3
          | false => .ok none st2
        | _, _ => .bad) (ks.map ofKey) [] st)).bind fun ys st2 => okb (fits ks.length) (.lst ys) st2
    | _ => .bad) = _
  rw [hI]
  dsimp only
  congr 1
  rw [mapR_ok p g (ks.map ofKey) [] fun d hd => ?_]
  · simp [noX, hf]
  · obtain ⟨δ1, h1, h2, h3⟩ := hs d hd
    simp only [hix, h1, h2, bind_ok]
    cases q : p d with
    | false => rfl
    | true => simp only [h3 q, bind_ok, if_true]
theorem ofKey_tm (l : Tm) : (tmK l).map ofKey = l.map fun q => pwD q.1 := by
  unfold tmK
  rw [List.map_map]
  rfl
theorem tm_fits {l : Tm} (h : l.length ≤ 1000000) : fits (tmK l).length = true := by
  unfold fits tmK
  rw [List.length_map]
  exact Nat.ble_eq_true_of_le h
theorem lookup_uni {l : Tm} (u : UniT l) {q : (Nat × Nat) × Fr} (h : q ∈ l) : l.lookup q.1 = some q.2 := by
  induction l with
  | nil => cases h
  | cons r l ih =>
    obtain ⟨r1, r2⟩ := r
    rw [List.lookup_cons]
    rcases List.mem_cons.mp h with z | z
    · subst z; simp
    · have hne : ¬ q.1 = r1 := fun e => by
        have := u.1
        rw [List.any_eq_false] at this
        exact this q z (by simpa using e)
      have : (q.1 == r1) = false := by simpa using hne
      rw [this]
      exact ih u.2 z
theorem idx_tm {l : Tm} {p : Nat × Nat} {x : Fr} (h : l.lookup p = some x) (st : Sto) : idxD (tmD l) (pwD p) st = .ok (frD false x) st := by
  show (match keyOf (pwD p) with | some k => okd (lookK k (tmK l) (tmV l)) st | none => .bad) = _
  rw [intsD_key]
  dsimp only
  rw [lookK_tm, h]
  rfl
/-! ### the store's last object -/
theorem mo_last (st : Sto) (m : MO) : getMO (st ++ [some m]) st.length = some m := by
  unfold getMO
  simp
theorem set_last (st : Sto) (x y : Option MO) : (st ++ [x]).set st.length y = st ++ [y] := by
  simp
theorem atI_last {α : Type} (xs : List α) (x : α) : atI (xs ++ [x]) (-1) = some x := by
  unfold atI ixN
  rw [if_neg (by omega), if_pos (by simp; omega)]
  simp only [Option.bind_some]
  rw [show ((-1 : Int) + ((xs ++ [x]).length : Int)).toNat = xs.length by simp; omega]
  simp
theorem cut_last {α : Type} (xs : List α) (x : α) : cut (xs ++ [x]) none (some (-1)) = xs := by
  unfold cut sIx
  dsimp only
  rw [if_pos (by decide)]
  rw [show ((-1 : Int) + ((xs ++ [x]).length : Int)).toNat = xs.length by simp; omega]
  simp
/-! ### lines -/
def maxP : Tm → Nat
  | [] => 0
  | q :: l => max q.1.1 (maxP l)
theorem maxP_le {l : Tm} {q : (Nat × Nat) × Fr} (h : q ∈ l) : q.1.1 ≤ maxP l := by
  induction l with
  | nil => cases h
  | cons r l ih =>
    unfold maxP
    rcases List.mem_cons.mp h with z | z
    · subst z; omega
    · have := ih z; omega
theorem maxP_lt {l : Tm} {n : Nat} (hn : 0 < n) (h : ∀ q ∈ l, q.1.1 < n) : maxP l < n := by
  induction l with
  | nil => exact hn
  | cons r l ih =>
    unfold maxP
    have h1 := h r List.mem_cons_self
    have h2 := ih fun q hq => h q (List.mem_cons_of_mem _ hq)
    omega
theorem foldl_max (is : List Int) (a : Int) : is.foldl (fun a b => if b > a then b else a) a = is.foldl max a := by
  induction is generalizing a with
  | nil => rfl
  | cons b is ih =>
    rw [List.foldl_cons, List.foldl_cons, ih]
    congr 1
    split <;> omega
theorem maxL_tm : ∀ {l : Tm}, l ≠ [] → maxL (l.map fun q => (q.1.1 : Int)) = some (maxP l : Int)
  | [], h => absurd rfl h
  | q :: l, _ => by
    show some ((l.map fun q => (q.1.1 : Int)).foldl (fun a b => if b > a then b else a) (q.1.1 : Int)) = _
    rw [foldl_max]
    congr 1
    have : ∀ (l : Tm) (a : Nat), (l.map fun q => (q.1.1 : Int)).foldl max (a : Int) = ((max a (maxP l) : Nat) : Int) := by
      intro l
      induction l with
      | nil => intro a; simp [maxP]
      | cons r l ih =>
        intro a
        rw [List.map_cons, List.foldl_cons, show max (a : Int) (r.1.1 : Int) = ((max a r.1.1 : Nat) : Int) by omega, ih]
        simp only [maxP]
        omega
    exact this l q.1.1
theorem intsD_map (is : List Int) : intsD (is.map .int) = some is := by
  induction is with
  | nil => rfl
  | cons i is ih => simp [intsD, ih]
def setsL : Tm → List Int → List Int
  | [], xs => xs
  | q :: l, xs => setsL l (xs.set q.1.1 q.2.1)
theorem setsL_len : ∀ (l : Tm) (xs : List Int), (setsL l xs).length = xs.length
  | [], xs => rfl
  | q :: l, xs => by unfold setsL; rw [setsL_len]; simp
/-- without the noughts at its end -/
def trimR : List Int → List Int
  | [] => []
  | x :: xs => if x = 0 then trimR xs else x :: xs
def trimZ (xs : List Int) : List Int := (trimR xs.reverse).reverse
def lineV (l : Tm) : List Int := trimZ (setsL l (List.replicate (1 + maxP l) 0))
def lineD (xs : List Int) : D := .tup false (xs.map .int)
theorem data_ints (n : Nat) (xs : List Int) : (xs.map D.int).all (D.data n) = true := by
  induction xs with
  | nil => rfl
  | cons x xs ih =>
    rw [List.map_cons, List.all_cons, ih]
    cases n <;> rfl
theorem ne_nil (xs : List Int) : cmpD .ne (.lst (xs.map .int)) (.lst []) = some (decide (xs ≠ [])) := by
  have d : D.data 20 (.lst (xs.map .int)) = true := data_ints 19 xs
  show (if (D.data 20 (.lst (xs.map .int)) && D.data 20 (.lst [])) = true then _ else _) = _
  rw [d]
  cases xs <;> rfl
theorem trim_loop {c : Sl → Sto → R D} {b : Sl → Sto → RS} {st : Sto} {o1 o2 : Option D} (hc : ∀ xs : List Int, c [o1, o2, some (.lst (xs.map .int))] st = .ok (.bl (match xs.getLast? with | some x => decide (x = 0) | none => false)) st)
    (hb : ∀ (xs : List Int) (x : Int), b [o1, o2, some (.lst ((xs ++ [x]).map .int))] st = .ok (.nx [o1, o2, some (.lst (xs.map .int))]) st) : ∀ (ys : List Int) (n : Nat), ys.length < n →
    whR c b n [o1, o2, some (.lst (ys.reverse.map .int))] st = .ok (.nx [o1, o2, some (.lst ((trimR ys).reverse.map .int))]) st
  | [], 0, h => by simp at h
  | [], n + 1, h => by rw [wh_stop (by rw [hc]; rfl)]; rfl
  | y :: ys, 0, h => by simp at h
  | y :: ys, n + 1, h => by
    have e : (y :: ys).reverse.getLast? = some y := by simp
    unfold trimR
    by_cases q : y = 0
    · rw [if_pos q, wh_go (δ1 := [o1, o2, some (.lst (ys.reverse.map .int))]) (st2 := st) (by rw [hc, e]; simp [q]; rfl) (by rw [List.reverse_cons]; exact hb _ _), trim_loop hc hb ys n (by simp at h; omega)]
    · rw [if_neg q, wh_stop (by rw [hc, e]; simp [q]; rfl)]
section
variable {F : Nat → Option Fn}
def b44 : Ss := Ss.cons (S.sub (E.v 2) (E.idx (E.v 1) (E.c (D.int 0))) (E.idx (E.idx (E.v 0) (E.v 1)) (E.c (D.int 0)))) (Ss.nil)
theorem sets_loop {call : Nat → List D → Sto → R D} {room : Bool} {l : Tm} (u : UniT l) {st : Sto} : ∀ (r : Tm) (xs : List Int) (o : Option D), (∀ q ∈ r, q ∈ l) → (∀ q ∈ r, q.1.1 < xs.length) →
    ∃ o', forR (T.n 1) (fun δ st => evSs call room b44 δ st) (r.map fun q => pwD q.1) [some (tmD l), o, some (.ref st.length)] (st ++ [some (.lst (xs.map .int))]) = .ok (.nx [some (tmD l), o', some (.ref st.length)]) (st ++ [some (.lst ((setsL r xs).map .int))])
  | [], xs, o, _, _ => ⟨o, rfl⟩
  | q :: r, xs, o, h1, h2 => by
    have hq := lookup_uni u (h1 q List.mem_cons_self)
    have hl := h2 q List.mem_cons_self
    obtain ⟨o', ih⟩ := sets_loop (call := call) (room := room) u (st := st) r (xs.set q.1.1 q.2.1) (some (pwD q.1)) (fun z hz => h1 z (List.mem_cons_of_mem _ hz)) (fun z hz => by rw [List.length_set]; exact h2 z (List.mem_cons_of_mem _ hz))
    refine ⟨o', ?_⟩
    rw [List.map_cons]
    unfold forR
    have as : asgT (T.n 1) (pwD q.1) [some (tmD l), o, some (.ref st.length)] = some [some (tmD l), some (pwD q.1), some (.ref st.length)] := rfl
    rw [as]
    dsimp only
    have e1 : idxD (pwD q.1) (.int 0) (st ++ [some (.lst (xs.map .int))]) = .ok (.int q.1.1) (st ++ [some (.lst (xs.map .int))]) := by unfold pwD; exact idx_tup0 _ _ _ _
    have e2 : idxD (frD false q.2) (.int 0) (st ++ [some (.lst (xs.map .int))]) = .ok (.int q.2.1) (st ++ [some (.lst (xs.map .int))]) := by unfold frD; exact idx_tup0 _ _ _ _
    have ix : ixN (xs.map D.int).length ((q.1.1 : Nat) : Int) = some q.1.1 := by
      unfold ixN
      rw [List.length_map, if_pos (by omega), if_pos (by omega)]
      rfl
    have e3 : setD (.ref st.length) (.int q.1.1) (.int q.2.1) (st ++ [some (.lst (xs.map .int))]) = .ok () (st ++ [some (.lst ((xs.set q.1.1 q.2.1).map .int))]) := by
      simp only [setD, mo_last, ix, set_last, List.map_set]
    have st1 : evSs call room b44 [some (tmD l), some (pwD q.1), some (.ref st.length)] (st ++ [some (.lst (xs.map .int))]) = .ok (.nx [some (tmD l), some (pwD q.1), some (.ref st.length)]) (st ++ [some (.lst ((xs.set q.1.1 q.2.1).map .int))]) := by
      simp only [b44, evSs_cons, evSs_nil, evS_sub, ev_idx, ev_v0, ev_v1, ev_v2, ev_c, tst_f, bind_ok, idx_tm hq, e1, e2, thn_ok, e3, seq_nx]
    rw [st1]
    exact ih
theorem rep_flat (n : Nat) : (List.replicate n [D.int 0]).flatten = (List.replicate n (0 : Int)).map .int := by
  induction n with
  | zero => rfl
  | succ n ih => rw [List.replicate_succ, List.replicate_succ, List.flatten_cons, ih]; rfl
theorem rep_zero (k : Int) (h0 : 0 ≤ k) (h : k < 1000) (st : Sto) : repD true (.lst [.int 0]) (.int k) st = .ok (.ref st.length) (st ++ [some (.lst ((List.replicate k.toNat (0 : Int)).map .int))]) := by
  have c1 : (decide (k < 1000000) && decide (-1000000 < k) && fits ([D.int 0].length * k.toNat)) = true := by
    simp only [Bool.and_eq_true, decide_eq_true_eq]
    refine ⟨⟨by omega, by omega⟩, ?_⟩
    unfold fits
    refine Nat.ble_eq_true_of_le ?_
    simp; omega
  unfold repD
  dsimp only
  rw [c1]
  dsimp only
  rw [rep_flat]
  rfl
theorem tup_lst (ds : List D) (st : Sto) : bfD .tuple [.lst ds] st = .ok (.tup false ds) st := rfl
theorem line_ok (h44 : F 44 = some f44) (k : Nat) {l : Tm} (hne : l ≠ []) (u : UniT l) (hl : l.length ≤ 1000000) (hp : ∀ q ∈ l, q.1.1 < 256 ∧ q.1.2 < 256) (st : Sto) : callF F (k + 1) 44 [tmD l] st = .ok (lineD (lineV l)) (st ++ [none]) := by
  rw [callF_at [some (tmD l), none, none] h44 rfl rfl]
  have hm : maxP l < 256 := maxP_lt (by decide) fun q hq => (hp q hq).1
  have e1 := lcK_ok (call := callF F k) (t := false) (δ := [some (tmD l), none, none]) (st := st) (ws := [1]) (tg := T.n 1) (i := 0) (cond := Eo.none) (e := E.idx (E.v 1) (E.c (D.int 0))) (ks := tmK l) (vs := tmV l) (fun _ => true) (fun d => match d with | .tup _ (x :: _) => x | _ => .non) rfl (by decide) (fun d hd => by
    rw [ofKey_tm] at hd
    obtain ⟨q, hq, rfl⟩ := List.mem_map.mp hd
    refine ⟨[some (tmD l), some (pwD q.1), none], rfl, rfl, fun _ => ?_⟩
    simp [pwD]) (tm_fits hl)
  have e2 : (((tmK l).map ofKey).filter (fun _ => true)).map (fun d => match d with | .tup _ (x :: _) => x | _ => D.non) = (l.map fun q => (q.1.1 : Int)).map .int := by
    rw [show ((tmK l).map ofKey).filter (fun _ => true) = (tmK l).map ofKey from by simp, ofKey_tm, List.map_map, List.map_map]
    rfl
  rw [e2] at e1
  have e3 : bfD .maxl [.lst ((l.map fun q => (q.1.1 : Int)).map .int)] st = .ok (.int (maxP l)) st := by
    simp only [bfD, intsD_map, maxL_tm hne]
  have e4 : repD true (.lst [.int 0]) (.int (1 + (maxP l : Int))) st = .ok (.ref st.length) (st ++ [some (.lst ((List.replicate (1 + maxP l) (0 : Int)).map .int))]) := by
    rw [rep_zero (1 + (maxP l : Int)) (by omega) (by omega) st, show (1 + (maxP l : Int)).toNat = 1 + maxP l by omega]
  obtain ⟨o', lp⟩ := sets_loop (call := callF F k) (room := Nat.blt 2 k) u (st := st) l (List.replicate (1 + maxP l) 0) none (fun q hq => hq) (fun q hq => by have := maxP_le hq; simp; omega)
  have e5 : evS (callF F k) (Nat.blt 2 k) (S.frK (T.n 1) 0 b44) [some (tmD l), none, some (.ref st.length)] (st ++ [some (.lst ((List.replicate (1 + maxP l) (0 : Int)).map .int))]) = .ok (.nx [some (tmD l), o', some (.ref st.length)]) (st ++ [some (.lst ((setsL l (List.replicate (1 + maxP l) 0)).map .int))]) := by
    show noXS (forR (T.n 1) (fun δ st => evSs (callF F k) (Nat.blt 2 k) b44 δ st) ((tmK l).map ofKey) [some (tmD l), none, some (.ref st.length)] (st ++ [some (.lst ((List.replicate (1 + maxP l) (0 : Int)).map .int))])) = _
    rw [ofKey_tm, lp]
    rfl
  have e6 : ∀ xs : List Int, evS (callF F k) (Nat.blt 2 k) (S.fz 2) [some (tmD l), o', some (.ref st.length)] (st ++ [some (.lst (xs.map .int))]) = .ok (.nx [some (tmD l), o', some (.lst (xs.map .int))]) (st ++ [none]) := fun xs => by
    show (match getMO (st ++ [some (MO.lst (xs.map D.int))]) st.length with
      | some (.lst ds) => RS.ok (.nx ([some (tmD l), o', some (D.ref st.length)].set 2 (some (D.lst ds)))) ((st ++ [some (MO.lst (xs.map D.int))]).set st.length none)
      | some (.dct ks vs) => RS.ok (.nx ([some (tmD l), o', some (D.ref st.length)].set 2 (some (D.dct ks vs)))) ((st ++ [some (MO.lst (xs.map D.int))]).set st.length none)
      | none => .bad) = _
    rw [mo_last, set_last]
    rfl
  show outR (evSs (callF F k) (Nat.blt 2 k) (Ss.cons (S.asg (T.n 2) (E.rep true (E.lst false (Es.cons (E.c (D.int 0)) (Es.nil))) (E.bin (BO.add) (E.c (D.int 1)) (E.bf (BF.maxl) (Es.cons (E.lcK [1] (T.n 1) 0 (Eo.none) (E.idx (E.v 1) (E.c (D.int 0)))) (Es.nil)))))) (Ss.cons (S.frK (T.n 1) 0 b44) (Ss.cons (S.fz 2) (Ss.cons (S.wh (E.and (E.cmp (CO.ne) (E.v 2) (E.lst false (Es.nil))) (E.cmp (CO.eq) (E.idx (E.v 2) (E.neg (E.c (D.int 1)))) (E.c (D.int 0)))) (Ss.cons (S.asg (T.n 2) (E.slc (E.v 2) (Eo.none) (Eo.some (E.neg (E.c (D.int 1)))))) (Ss.nil)))
    (Ss.cons (S.ret (E.bf (BF.tuple) (Es.cons (E.v 2) (Es.nil)))) (Ss.nil)))))) [some (tmD l), none, none] st) = _
  have a1 : ev (callF F k) (E.lst false (Es.cons (E.c (D.int 0)) (Es.nil))) false [some (tmD l), none, none] st = .ok (.lst [.int 0]) st := by rfl
  have a2 : ev (callF F k) (E.bin (BO.add) (E.c (D.int 1)) (E.bf (BF.maxl) (Es.cons (E.lcK [1] (T.n 1) 0 (Eo.none) (E.idx (E.v 1) (E.c (D.int 0)))) (Es.nil)))) false [some (tmD l), none, none] st = .ok (.int (1 + (maxP l : Int))) st := by
    simp only [ev_bin, ev_c, tst_f, bind_ok, ev_bf, evs_cons, evs_nil, e1, e3, add_int]
  have s1 : ev (callF F k) (E.rep true (E.lst false (Es.cons (E.c (D.int 0)) (Es.nil))) (E.bin (BO.add) (E.c (D.int 1)) (E.bf (BF.maxl) (Es.cons (E.lcK [1] (T.n 1) 0 (Eo.none) (E.idx (E.v 1) (E.c (D.int 0)))) (Es.nil))))) false [some (tmD l), none, none] st = .ok (.ref st.length) (st ++ [some (.lst ((List.replicate (1 + maxP l) (0 : Int)).map .int))]) := by
    rw [ev_rep, a1, bind_ok, a2, bind_ok, e4, tst_f]
  rw [evSs_cons, evS_asg, s1, thn_ok]
  rw [show asgT (T.n 2) (D.ref st.length) [some (tmD l), none, none] = some [some (tmD l), none, some (D.ref st.length)] from rfl, nxt_s, seq_nx]
  rw [evSs_cons, e5, seq_nx, evSs_cons, e6, seq_nx, evSs_cons, evS_wh]
  have lenS := setsL_len l (List.replicate (1 + maxP l) 0)
  have tl := trim_loop (c := fun δ st => ev (callF F k) (E.and (E.cmp (CO.ne) (E.v 2) (E.lst false (Es.nil))) (E.cmp (CO.eq) (E.idx (E.v 2) (E.neg (E.c (D.int 1)))) (E.c (D.int 0)))) true δ st)
    (b := fun δ st => evSs (callF F k) (Nat.blt 2 k) (Ss.cons (S.asg (T.n 2) (E.slc (E.v 2) (Eo.none) (Eo.some (E.neg (E.c (D.int 1)))))) (Ss.nil)) δ st) (st := st ++ [none]) (o1 := some (tmD l)) (o2 := o') (fun xs => by
      simp only [ev_and, ev_cmp, ev_v2, ev_lst, evs_nil, tst_f, bind_ok, List.length_nil, show fits 0 = true from rfl, okb_t, ne_nil, okO_s]
      cases q : xs.getLast? with
      | none =>
        have : xs = [] := by simpa using q
        subst this
        rfl
      | some x =>
        obtain ⟨ys, rfl⟩ := List.getLast?_eq_some_iff.mp q
        have hne2 : ys ++ [x] ≠ [] := by simp
        have a : idxD (.lst ((ys ++ [x]).map .int)) (.int (-1)) (st ++ [none]) = .ok (.int x) (st ++ [none]) := by
          show okd (atI ((ys ++ [x]).map D.int) (-1)) _ = _
          rw [List.map_append, List.map_cons, List.map_nil, atI_last]; rfl
        simp only [ev_idx, ev_v2, ev_neg, ev_c, tst_f, bind_ok, negD_i, a, eq_int, okO_s, onB_d, hne2, ne_eq, not_false_eq_true, if_true]) (fun xs x => by
      have a : slcD (.lst (xs.map .int ++ [.int x])) none (some (-1)) (st ++ [none]) = .ok (.lst (xs.map .int)) (st ++ [none]) := by
        show R.ok (D.lst (cut (xs.map D.int ++ [D.int x]) none (some (-1)))) _ = _
        rw [cut_last]
      simp [a, asgT]) (setsL l (List.replicate (1 + maxP l) 0)).reverse turns (by rw [List.length_reverse, lenS, turns_eq]; simp; omega)
  rw [List.reverse_reverse] at tl
  rw [tl, seq_nx]
  simp only [evSs_cons, evSs_nil, evS_ret, ev_bf, evs_cons, evs_nil, ev_v2, tst_f, bind_ok, tup_lst, thn_ok, seq_rt, outR_rt]
  rfl
/-! ### surfaces -/
def ltP (a b : Nat × Nat) : Bool := D.lt (pwD a) (pwD b)
def sortK : List (Nat × Nat) → List (Nat × Nat)
  | [] => []
  | x :: xs => ins x (sortK xs)
where ins (x : Nat × Nat) : List (Nat × Nat) → List (Nat × Nat)
  | [] => [x]
  | y :: ys => if ltP y x then y :: ins x ys else x :: y :: ys
theorem insR_map (x : Nat × Nat) : ∀ ys : List (Nat × Nat), insR D.lt (pwD x) (ys.map pwD) = (sortK.ins x ys).map pwD
  | [] => rfl
  | y :: ys => by
    rw [List.map_cons]
    unfold insR sortK.ins
    rw [insR_map x ys]
    show (if ltP y x = true then _ else _) = _
    split <;> rfl
theorem isort_map : ∀ xs : List (Nat × Nat), isort D.lt (xs.map pwD) = (sortK xs).map pwD
  | [] => rfl
  | x :: xs => by
    rw [List.map_cons]
    unfold isort sortK
    rw [isort_map xs, insR_map]
theorem sortK_mem {p : Nat × Nat} : ∀ {xs : List (Nat × Nat)}, p ∈ sortK xs ↔ p ∈ xs
  | [] => Iff.rfl
  | x :: xs => by
    have insm : ∀ ys : List (Nat × Nat), p ∈ sortK.ins x ys ↔ p = x ∨ p ∈ ys := by
      intro ys
      induction ys with
      | nil => simp [sortK.ins]
      | cons y ys ih =>
        unfold sortK.ins
        split
        · rw [List.mem_cons, ih, List.mem_cons]; constructor <;> (rintro (z | z | z) <;> simp [z])
        · rw [List.mem_cons]
    unfold sortK
    rw [insm, sortK_mem, List.mem_cons]
theorem sortK_len : ∀ xs : List (Nat × Nat), (sortK xs).length = xs.length
  | [] => rfl
  | x :: xs => by
    have insl : ∀ ys : List (Nat × Nat), (sortK.ins x ys).length = ys.length + 1 := by
      intro ys
      induction ys with
      | nil => rfl
      | cons y ys ih =>
        unfold sortK.ins
        split
        · rw [List.length_cons, ih]; rfl
        · rfl
    unfold sortK
    rw [insl, sortK_len]; rfl
theorem sortable_pw (xs : List (Nat × Nat)) : sortable (xs.map pwD) = true := by
  cases xs with
  | nil => rfl
  | cons x xs =>
    rw [List.map_cons]
    show (firstOk (pwD x) && (pwD x :: xs.map pwD).all fun e => D.data 20 e && D.alike (pwD x) e) = true
    rw [show firstOk (pwD x) = true from rfl, Bool.true_and, ← List.map_cons, List.all_eq_true]
    intro d hd
    obtain ⟨q, _, rfl⟩ := List.mem_map.mp hd
    rfl
/-- the row of terms: ascending, without noughts -/
def rowV (l : Tm) : Tm := ((sortK (l.map (·.1))).filter fun p => decide ((getT l p).1 ≠ 0)).map fun p => (p, getT l p)
def rowD (l : Tm) : D := .tup false (l.map fun q => .tup false [pwD q.1, frD false q.2])
theorem getT_of {l : Tm} (u : UniT l) {p : Nat × Nat} (h : p ∈ l.map (·.1)) : l.lookup p = some (getT l p) := by
  obtain ⟨q, hq, rfl⟩ := List.mem_map.mp h
  unfold getT
  rw [lookup_uni u hq]
  rfl
def unpw : D → Nat × Nat
  | .tup _ [.int a, .int b] => (a.toNat, b.toNat)
  | _ => (0, 0)
theorem unpw_pw (p : Nat × Nat) : unpw (pwD p) = p := by
  obtain ⟨a, b⟩ := p
  simp [pwD, unpw]
theorem row_ok (h45 : F 45 = some f45) (k : Nat) {l : Tm} (u : UniT l) (hl : l.length ≤ 1000000) (st : Sto) : callF F (k + 1) 45 [tmD l] st = .ok (rowD (rowV l)) st := by
  rw [callF_at [some (tmD l), none] h45 rfl rfl]
  have s1 : bfD .sorted [tmD l] st = .ok (.lst ((sortK (l.map (·.1))).map pwD)) st := by
    have e : (tmK l).map ofKey = (l.map (·.1)).map pwD := by rw [ofKey_tm, List.map_map]; rfl
    show okb (sortable ((tmK l).map ofKey)) (.lst (isort D.lt ((tmK l).map ofKey))) st = _
    rw [e, sortable_pw, isort_map]; rfl
  have e1 := lc_ok (call := callF F k) (t := false) (δ := [some (tmD l), none]) (st := st) (st1 := st) (ws := [1]) (tg := T.n 1) (it := I.of (E.bf (BF.sorted) (Es.cons (E.v 0) (Es.nil)))) (cond := Eo.some (E.cmp (CO.ne) (E.idx (E.idx (E.v 0) (E.v 1)) (E.c (D.int 0))) (E.c (D.int 0))))
    (e := E.tup (Es.cons (E.v 1) (Es.cons (E.idx (E.v 0) (E.v 1)) (Es.nil)))) (ds := (sortK (l.map (·.1))).map pwD) (fun d => decide ((getT l (unpw d)).1 ≠ 0)) (fun d => .tup false [d, frD false (getT l (unpw d))]) (by simp [s1, seqOf]) (by decide) (fun d hd => by
      obtain ⟨p, hp, rfl⟩ := List.mem_map.mp hd
      have g := getT_of u (sortK_mem.mp hp)
      have i1 := idx_tm g st
      have i2 : idxD (frD false (getT l p)) (.int 0) st = .ok (.int (getT l p).1) st := by unfold frD; exact idx_tup0 _ _ _ _
      refine ⟨[some (tmD l), some (pwD p)], rfl, ?_, fun _ => ?_⟩
      · rw [unpw_pw]
        simp only [evc_some, ev_cmp, ev_idx, ev_v0, ev_v1, ev_c, tst_f, bind_ok, i1, i2, ne_int, okO_s, onB_d]
        by_cases q : (getT l p).1 = 0 <;> simp [q]
      · rw [unpw_pw]
        simp [i1, fits2]) (by rw [List.length_map, sortK_len, List.length_map]; exact Nat.ble_eq_true_of_le hl)
  simp only [f45, evSs_cons, evSs_nil, evS_ret, ev_bf, evs_cons, evs_nil, e1, tst_f, bind_ok]
  have e2 : (((sortK (l.map (·.1))).map pwD).filter fun d => decide ((getT l (unpw d)).1 ≠ 0)).map (fun d => D.tup false [d, frD false (getT l (unpw d))]) = (rowV l).map fun q => .tup false [pwD q.1, frD false q.2] := by
    unfold rowV
    rw [List.filter_map, List.map_map, List.map_map]
    have a1 : ((fun d => decide ((getT l (unpw d)).1 ≠ 0)) ∘ pwD) = fun p => decide ((getT l p).1 ≠ 0) := by funext p; simp [unpw_pw]
    rw [a1]
    refine List.map_congr_left fun p _ => ?_
    simp [unpw_pw]
  rw [e2]
  rfl
end
end PVL
set_option Elab.async false
set_option linter.all false
set_option maxRecDepth 10000
/-! PL9: texts of lines and surfaces gone through; first_refused. -/
namespace PVL
open PV
theorem putT_ne (x : Fr) (p : Nat × Nat) (l : Tm) : putT x p l ≠ [] := by
  cases l with
  | nil => simp [putT]
  | cons q l => unfold putT; split <;> simp
theorem termsLoop_ok {U : List Nat} {most : Nat} {fr : Bool} {s : List Nat} {i0 : Nat} (hp : PwOk U most fr s i0) : ∀ {m : Nat} {l : Tm} {g : Int} {i : Nat} {y : Tm} {j : Nat}, Rch U most fr s i0 i → TmOk l i → (g = 1 ∨ g = -1) → i ≤ s.length → s.length - i < m → termsLoop U most fr s m l g i = .ok y j → TmOk y j ∧ y ≠ [] ∧ j ≤ s.length ∧ i < j
  | 0, l, g, i, y, j, _, _, _, _, hm, _ => by omega
  | m + 1, l, g, i, y, j, hr, h, hg, hi, hm, e => by
    unfold termsLoop at e
    cases e1 : termP U most fr s i with
    | err x => rw [e1] at e; cases e
    | ok v x =>
      rw [e1, P.bind_ok] at e
      obtain ⟨x1, x2, x3⟩ := termP_end e1
      have h2 := h.add hg x1 x3 (hp _ _ _ hr e1)
      have h3 := sk_ge s x
      split at e
      · rename_i q
        have := lt_of_get (sgn_eq.mp q)
        obtain ⟨z1, z2, z3, z4⟩ := termsLoop_ok hp (.more hr e1 (.inl q)) (h2.mono (by omega)) (.inl rfl) (by omega) (by omega) e
        exact ⟨z1, z2, z3, by omega⟩
      · split at e
        · rename_i q
          have := lt_of_get (sgn_eq.mp q)
          obtain ⟨z1, z2, z3, z4⟩ := termsLoop_ok hp (.more hr e1 (.inr q)) (h2.mono (by omega)) (.inr rfl) (by omega) (by omega) e
          exact ⟨z1, z2, z3, by omega⟩
        · injection e with e2 e3
          subst e2 e3
          exact ⟨h2, putT_ne _ _ _, x2, x1⟩
theorem termsP_ok {U : List Nat} {most : Nat} {fr : Bool} {s : List Nat} {i : Nat} (hp : PwOk U most fr s i) {y : Tm} {j : Nat} (hi : i ≤ s.length) (h : termsP U most fr s i = .ok y j) : TmOk y j ∧ y ≠ [] ∧ j ≤ s.length ∧ i < j := by
  have ini : ∀ i, TmOk [] i := fun i => ⟨trivial, by simp, fun q hq => (nomatch hq), fun q hq => (nomatch hq)⟩
  unfold termsP at h
  have hh := Rch.here (U := U) (most := most) (fr := fr) (s := s) (i0 := i)
  split at h
  · rename_i q
    rw [if_pos q] at hh
    have := lt_of_get (sgn_eq.mp q)
    have := sk_ge s i
    obtain ⟨z1, z2, z3, z4⟩ := termsLoop_ok hp hh (ini _) (.inr rfl) (by omega) (by omega) h
    exact ⟨z1, z2, z3, by omega⟩
  · rename_i q
    rw [if_neg q] at hh
    exact termsLoop_ok hp hh (ini _) (.inl rfl) hi (by omega) h
/-- the place at which a text is refused -/
def refuse (U : List Nat) (most : Nat) (s : List Nat) : Option Nat := match termsP U most false s 0 with
  | .err e => some e
  | .ok _ j => match s[sk s j]? with
    | none => none
    | some _ => some (sk s j)
def optD : Option Nat → D
  | none => .non
  | some e => .int e
/-- the text's defs -/
structure Tab (F : Nat → Option Fn) : Prop where
  h10 : F 10 = some f10
  h11 : F 11 = some f11
  h12 : F 12 = some f12
  h30 : F 30 = some f30
  h31 : F 31 = some f31
  h32 : F 32 = some f32
  h33 : F 33 = some f33
  h34 : F 34 = some f34
  h35 : F 35 = some f35
  h36 : F 36 = some f36
  h37 : F 37 = some f37
  h40 : F 40 = some f40
  h41 : F 41 = some f41
  h42 : F 42 = some f42
  h43 : F 43 = some f43
  h44 : F 44 = some f44
  h45 : F 45 = some f45
  h46 : F 46 = some f46
  h47 : F 47 = some f47
  h92 : F 92 = some f92
  h96 : F 96 = some f96
section
variable {F : Nat → Option Fn}
theorem Tab.terms (TB : Tab F) {s : List Nat} (h : Ok s) (hl : s.length ≤ 1300) (k i most : Nat) {U : List Nat} {fr : Bool} (hi : i ≤ s.length) (hU : asc U = true) (hUl : U.length ≤ 1000) (hu32 : 32 ∉ U)
    (hp : PwOk U most fr s i) (st : Sto) : callF F (k + 8) 43 [.str s, .int i, sortD' U most fr] st = (termsP U most fr s i).r tsD st :=
  terms_ok TB.h10 TB.h11 TB.h12 TB.h30 TB.h31 TB.h32 TB.h33 TB.h34 TB.h35 TB.h40 TB.h41 TB.h42 TB.h43 h hl k i most hi hU hUl hu32 hp st
theorem lineAt_ok (TB : Tab F) {s : List Nat} (h : Ok s) (hl : s.length ≤ 1300) (k i : Nat) (hi : i ≤ s.length) (hp : PwOk [120] 8 false s i) (st : Sto) :
    callF F (k + 9) 46 [.str s, .int i] st = match termsP [120] 8 false s i with | .ok l j => .ok (.tup false [lineD (lineV l), .int j]) (st ++ [none]) | .err e => .exc 0 (.int e) st := by
  rw [callF_at [some (.str s), some (.int i), none] TB.h46 rfl rfl]
  have t := TB.terms h hl k i 8 (U := [120]) hi (by decide) (by decide) (by decide) hp st
  have a1 : ∀ δ : List (Option D), ev (callF F (k + 8)) (E.tup (Es.cons (E.tup (Es.cons (E.c (D.str [120])) (Es.nil))) (Es.cons (E.c (D.int 8)) (Es.cons (E.c (D.bl false)) (Es.nil))))) false δ st = .ok (sortD' [120] 8 false) st := fun δ => rfl
  simp only [f46]
  rw [evSs_cons, evS_asg]
  simp only [ev_call, evs_cons, evs_nil, ev_v0, ev_v1, tst_f, bind_ok, a1, t]
  cases e : termsP [120] 8 false s i with
  | err x => rfl
  | ok l j =>
    obtain ⟨ok, hne, hj, _⟩ := termsP_ok hp hi e
    have ln := line_ok TB.h44 (k + 7) hne ok.uni (by have := ok.len; omega) ok.pw st
    simp only [P.r_ok, thn_ok, tsD]
    rw [show asgT (T.t2 (T.n 2) (T.n 1)) (D.tup false [tmD l, D.int j]) [some (.str s), some (.int i), none] = some [some (.str s), some (.int j), some (tmD l)] from rfl, nxt_s, seq_nx]
    simp only [evSs_cons, evSs_nil, evS_ret, ev_tup, ev_call, evs_cons, evs_nil, ev_v1, ev_v2, tst_f, bind_ok, ln, List.length_cons, List.length_nil, show fits (0 + 1 + 1) = true from rfl, okb_t, thn_ok, seq_rt, outR_rt]
def surfD (l : Tm) : D := .tup false (l.map fun q => .tup false [pwD q.1, .int q.2.1])
theorem surfAt_ok (TB : Tab F) {s : List Nat} (h : Ok s) (hl : s.length ≤ 1300) (k i : Nat) (hi : i ≤ s.length) (hp : PwOk [120, 121] 4 false s i) (st : Sto) :
    callF F (k + 9) 47 [.str s, .int i] st = (termsP [120, 121] 4 false s i).r (fun l j => .tup false [surfD (rowV l), .int j]) st := by
  rw [callF_at [some (.str s), some (.int i), none, none, none] TB.h47 rfl rfl]
  have t := TB.terms h hl k i 4 (U := [120, 121]) hi (by decide) (by decide) (by decide) hp st
  have a1 : ∀ δ : List (Option D), ev (callF F (k + 8)) (E.tup (Es.cons (E.tup (Es.cons (E.c (D.str [120])) (Es.cons (E.c (D.str [121])) (Es.nil)))) (Es.cons (E.c (D.int 4)) (Es.cons (E.c (D.bl false)) (Es.nil))))) false δ st = .ok (sortD' [120, 121] 4 false) st := fun δ => rfl
  simp only [f47]
  rw [evSs_cons, evS_asg]
  simp only [ev_call, evs_cons, evs_nil, ev_v0, ev_v1, tst_f, bind_ok, a1, t]
  cases e : termsP [120, 121] 4 false s i with
  | err x => rfl
  | ok l j =>
    obtain ⟨ok, hne, hj, _⟩ := termsP_ok hp hi e
    have hlen : l.length ≤ 1000000 := by have := ok.len; omega
    have rw1 := row_ok TB.h45 (k + 7) ok.uni hlen st
    have rl : (rowV l).length ≤ l.length := by
      unfold rowV
      rw [List.length_map]
      have := List.length_filter_le (fun p => decide ((getT l p).1 ≠ 0)) (sortK (l.map (·.1)))
      rw [sortK_len, List.length_map] at this
      exact this
    simp only [P.r_ok, thn_ok, tsD]
    rw [show asgT (T.t2 (T.n 2) (T.n 1)) (D.tup false [tmD l, D.int j]) [some (.str s), some (.int i), none, none, none] = some [some (.str s), some (.int j), some (tmD l), none, none] from rfl, nxt_s, seq_nx]
    have e1 := lc_ok (call := callF F (k + 8)) (t := false) (δ := [some (.str s), some (.int j), some (tmD l), none, none]) (st := st) (st1 := st) (ws := [3, 4]) (tg := T.t2 (T.n 3) (T.n 4)) (it := I.of (E.call 45 (Es.cons (E.v 2) (Es.nil)))) (cond := Eo.none)
      (e := E.tup (Es.cons (E.v 3) (Es.cons (E.idx (E.v 4) (E.c (D.int 0))) (Es.nil)))) (ds := (rowV l).map fun q => .tup false [pwD q.1, frD false q.2]) (fun _ => true) (fun d => match d with | .tup _ [p, .tup _ (x :: _)] => .tup false [p, x] | _ => .non)
      (by simp only [evI_of, ev_call, evs_cons, evs_nil, ev_v2, tst_f, bind_ok, rw1]; rfl) (by decide) (fun d hd => by
        obtain ⟨q, hq, rfl⟩ := List.mem_map.mp hd
        refine ⟨[some (.str s), some (.int j), some (tmD l), some (pwD q.1), some (frD false q.2)], rfl, rfl, fun _ => ?_⟩
        simp [frD, fits2]) (by rw [List.length_map]; exact Nat.ble_eq_true_of_le (by omega))
    rw [show ((rowV l).map fun q => D.tup false [pwD q.1, frD false q.2]).filter (fun _ => true) = (rowV l).map fun q => D.tup false [pwD q.1, frD false q.2] from by simp, List.map_map] at e1
    simp only [evSs_cons, evSs_nil, evS_ret, ev_tup, ev_bf, evs_cons, evs_nil, e1, ev_v1, tst_f, bind_ok, tup_lst, List.length_cons, List.length_nil, show fits (0 + 1 + 1) = true from rfl, okb_t, thn_ok, seq_rt, outR_rt]
    rfl
theorem gone_line (TB : Tab F) {s : List Nat} (h : Ok s) (hl : s.length ≤ 1300) (k : Nat) (hp : PwOk [120] 8 false s 0) (st : Sto) : ∃ t, callF F (k + 10) 92 [.str [108, 105, 110, 101], .str s] st = match refuse [120] 8 s with | none => .ok .non (st ++ t) | some e => .exc 0 (.int e) (st ++ t) := by
  rw [callF_at [some (.str [108, 105, 110, 101]), some (.str s)] TB.h92 rfl rfl]
  have c1 : cmpD .eq (.str [108, 105, 110, 101]) (.str [115, 113, 117, 97, 114, 101, 115]) = some false := by rfl
  have c2 : cmpD .eq (.str [108, 105, 110, 101]) (.str [116, 114, 101, 101]) = some false := by rfl
  have c3 : cmpD .eq (.str [108, 105, 110, 101]) (.str [108, 105, 110, 101]) = some true := by rfl
  have la : callF F (k + 9) 46 [.str s, .int 0] st = _ := lineAt_ok TB h hl k 0 (by omega) hp st
  simp only [f92]
  simp only [evSs_cons, evSs_nil, evS_ite, evS_ex, ev_cmp, ev_v0, ev_v1, ev_c, tst_f, bind_ok, c1, c2, c3, okO_s, thn_ok, onB_f, onB_t, ev_call, evs_cons, evs_nil, ev_idx, la]
  unfold refuse
  cases e : termsP [120] 8 false s 0 with
  | err x => exact ⟨[], by rw [List.append_nil]; rfl⟩
  | ok l j =>
    obtain ⟨ok, hne, hj, _⟩ := termsP_ok hp (by omega) e
    have en := ended_ok TB.h30 TB.h36 h (k + 5) j hj (st ++ [none])
    refine ⟨[none], ?_⟩
    simp only [bind_ok, idx_tup1, en]
    cases e2 : s[sk s j]? <;> rfl
theorem gone_surf (TB : Tab F) {s : List Nat} (h : Ok s) (hl : s.length ≤ 1300) (k : Nat) (hp : PwOk [120, 121] 4 false s 0) (st : Sto) : callF F (k + 10) 92 [.str [115, 117, 114, 102, 97, 99, 101], .str s] st = match refuse [120, 121] 4 s with | none => .ok .non st | some e => .exc 0 (.int e) st := by
  rw [callF_at [some (.str [115, 117, 114, 102, 97, 99, 101]), some (.str s)] TB.h92 rfl rfl]
  have c1 : cmpD .eq (.str [115, 117, 114, 102, 97, 99, 101]) (.str [115, 113, 117, 97, 114, 101, 115]) = some false := by rfl
  have c2 : cmpD .eq (.str [115, 117, 114, 102, 97, 99, 101]) (.str [116, 114, 101, 101]) = some false := by rfl
  have c3 : cmpD .eq (.str [115, 117, 114, 102, 97, 99, 101]) (.str [108, 105, 110, 101]) = some false := by rfl
  have la : callF F (k + 9) 47 [.str s, .int 0] st = _ := surfAt_ok TB h hl k 0 (by omega) hp st
  simp only [f92]
  simp only [evSs_cons, evSs_nil, evS_ite, evS_ex, ev_cmp, ev_v0, ev_v1, ev_c, tst_f, bind_ok, c1, c2, c3, okO_s, thn_ok, onB_f, onB_t, ev_call, evs_cons, evs_nil, ev_idx, la]
  unfold refuse
  cases e : termsP [120, 121] 4 false s 0 with
  | err x => rfl
  | ok l j =>
    obtain ⟨ok, hne, hj, _⟩ := termsP_ok hp (by omega) e
    have en := ended_ok TB.h30 TB.h36 h (k + 5) j hj st
    simp only [P.r_ok, bind_ok, idx_tup1, en]
    cases e2 : s[sk s j]? <;> rfl
end
end PVL
set_option Elab.async false
set_option linter.all false
set_option maxRecDepth 10000
/-! M77: the machine that goes sign by sign tells where a text is refused. -/
namespace PVL
open PV
inductive Md where
  | beg | fac | unk | fin
  | fig (n : List Nat) | pow (n : List Nat)
def finS (c : Nat) : Option Md := if c = 32 then some .fin else if c = 42 ∨ c = 43 ∨ c = 45 then some .fac else none
def facS (U : List Nat) (c : Nat) : Option Md := if isDig c = true then some (.fig [c]) else if c ∈ U then some .unk else none
/-- too great, or with a nought ahead -/
def overM (lim : Nat) (n : List Nat) : Prop := lim < numOf n ∨ (n.take 1 = [48] ∧ 1 < n.length)
instance (lim : Nat) (n : List Nat) : Decidable (overM lim n) := by unfold overM; infer_instance
/-- one sign -/
def stepM (U : List Nat) (most : Nat) : Md → Nat → Option Md
  | .fig n, c => if isDig c = true then (if overM 1000000 (n ++ [c]) then none else some (.fig (n ++ [c]))) else finS c
  | .pow n, c => if isDig c = true then (if overM most (n ++ [c]) then none else some (.pow (n ++ [c]))) else if n = [] then (if c = 32 then some (.pow []) else none) else finS c
  | .fin, c => finS c
  | .unk, c => if c = 32 then some .unk else if c = 94 then some (.pow []) else finS c
  | .beg, c => if c = 32 then some .beg else if c = 45 then some .fac else facS U c
  | .fac, c => if c = 32 then some .fac else facS U c
def endM (i : Nat) : Md → Option Nat
  | .beg => some i
  | .fac => some i
  | .unk => none
  | .fin => none
  | .fig _ => none
  | .pow n => if n = [] then some i else none
def mach (U : List Nat) (most : Nat) : Md → Nat → List Nat → Option Nat
  | m, i, [] => endM i m
  | m, i, c :: r => match stepM U most m c with
    | none => some i
    | some m' => mach U most m' (i + 1) r
/-- the unknowns are no other signs -/
structure UOk (U : List Nat) : Prop where
  dig : ∀ c ∈ U, isDig c = false
  bl : 32 ∉ U
  mi : 45 ∉ U
section
variable {U : List Nat} {most : Nat} {s : List Nat}
/-- from a place on -/
def M (U : List Nat) (most : Nat) (s : List Nat) (m : Md) (i : Nat) : Option Nat := mach U most m i (s.drop i)
theorem M_none {m : Md} {i : Nat} (e : s[i]? = none) : M U most s m i = endM i m := by unfold M; rw [drop_none e]; rfl
theorem M_stop {m : Md} {i c : Nat} (e : s[i]? = some c) (h : stepM U most m c = none) : M U most s m i = some i := by
  unfold M; rw [drop_some e]; unfold mach; rw [h]
theorem M_go {m m' : Md} {i c : Nat} (e : s[i]? = some c) (h : stepM U most m c = some m') : M U most s m i = M U most s m' (i + 1) := by
  unfold M; rw [drop_some e]; conv => lhs; unfold mach
  rw [h]
/-- blanks mean nothing here -/
theorem M_sk {m : Md} (h : stepM U most m 32 = some m) : ∀ (k i : Nat), s.length - i ≤ k → M U most s m i = M U most s m (sk s i)
  | 0, i, hk => by rw [sk_none (List.getElem?_eq_none (by omega))]
  | k + 1, i, hk => by
    cases e : s[i]? with
    | none => rw [sk_none e]
    | some c =>
      have := lt_of_get e
      by_cases q : c = 32
      · subst q
        rw [M_go e h, M_sk h k (i + 1) (by omega), sk_blank e]
      · rw [sk_some e q]
theorem sk_end {i : Nat} (hi : i ≤ s.length) (e : s[sk s i]? = none) : sk s i = s.length := by
  have := ge_of_get e
  have := sk_le hi
  omega
theorem sk_nb {i c : Nat} (e : s[sk s i]? = some c) : c ≠ 32 := by
  intro q
  subst q
  have h := sk_blank e
  have h2 := sk_sk s i
  have h3 := sk_ge s (sk s i + 1)
  omega
theorem finS_fin (c : Nat) : stepM U most .fin c = finS c := rfl
theorem M_fin_sk (i : Nat) : M U most s .fin i = M U most s .fin (sk s i) := M_sk (by rfl) _ i (Nat.le_refl _)
theorem M_fac_sk (i : Nat) : M U most s .fac i = M U most s .fac (sk s i) := M_sk (by rfl) _ i (Nat.le_refl _)
theorem M_beg_sk (i : Nat) : M U most s .beg i = M U most s .beg (sk s i) := M_sk (by rfl) _ i (Nat.le_refl _)
theorem M_unk_sk (i : Nat) : M U most s .unk i = M U most s .unk (sk s i) := M_sk (by rfl) _ i (Nat.le_refl _)
theorem M_pow_sk (i : Nat) : M U most s (.pow []) i = M U most s (.pow []) (sk s i) := M_sk (by rfl) _ i (Nat.le_refl _)
/-- behind figures -/
theorem M_fig_end {n : List Nat} {i : Nat} (h : dgAt s i = false) : M U most s (.fig n) i = M U most s .fin i := by
  cases e : s[i]? with
  | none => rw [M_none e, M_none e]; rfl
  | some c =>
    unfold dgAt at h
    rw [e] at h
    have h : isDig c = false := h
    have q : stepM U most (.fig n) c = stepM U most .fin c := by simp [stepM, h]
    cases z : stepM U most .fin c with
    | none => rw [M_stop e (q.trans z), M_stop e z]
    | some m => rw [M_go e (q.trans z), M_go e z]
theorem M_pow_end {n : List Nat} {i : Nat} (hn : n ≠ []) (h : dgAt s i = false) : M U most s (.pow n) i = M U most s .fin i := by
  cases e : s[i]? with
  | none => rw [M_none e, M_none e]; simp [endM, hn]
  | some c =>
    unfold dgAt at h
    rw [e] at h
    have h : isDig c = false := h
    have q : stepM U most (.pow n) c = stepM U most .fin c := by simp [stepM, h, hn]
    cases z : stepM U most .fin c with
    | none => rw [M_stop e (q.trans z), M_stop e z]
    | some m => rw [M_go e (q.trans z), M_go e z]
/-- the number that is written, and its value -/
structure NumOk (n : List Nat) (f : Nat) : Prop where
  ne : n ≠ []
  val : numOf n = f
  z : n.take 1 = [48] ↔ f = 0
theorem numOf_snoc (n : List Nat) (c : Nat) : numOf (n ++ [c]) = 10 * numOf n + (c - 48) := by
  unfold numOf
  rw [List.foldl_append]
  rfl
theorem take_snoc {n : List Nat} (h : n ≠ []) (c : Nat) : (n ++ [c]).take 1 = n.take 1 := by
  cases n with
  | nil => exact absurd rfl h
  | cons a n => rfl
theorem NumOk.one {c : Nat} (h : isDig c = true) : NumOk [c] (c - 48) := by
  have := dig_cases h
  refine ⟨by simp, by simp [numOf], ?_⟩
  simp; omega
theorem NumOk.over {n : List Nat} {f c lim : Nat} (h : NumOk n f) : overM lim (n ++ [c]) ↔ (f = 0 ∨ lim < 10 * f + (c - 48)) := by
  unfold overM
  rw [numOf_snoc, h.val, take_snoc h.ne, h.z]
  have : 1 < (n ++ [c]).length := by
    have := List.length_pos_iff.mpr h.ne
    simp; omega
  constructor
  · rintro (z | z)
    · exact .inr z
    · exact .inl z.1
  · rintro (z | z)
    · exact .inr ⟨z, this⟩
    · exact .inl z
theorem NumOk.snoc {n : List Nat} {f c : Nat} (h : NumOk n f) (hf : f ≠ 0) : NumOk (n ++ [c]) (10 * f + (c - 48)) := by
  refine ⟨by simp, by rw [numOf_snoc, h.val], ?_⟩
  rw [take_snoc h.ne, h.z]
  omega
theorem M_figs : ∀ (k i f : Nat) (n : List Nat), s.length - i ≤ k → NumOk n f → match dgs 1000000 f i (s.drop i) with
    | .err e => M U most s (.fig n) i = some e
    | .ok _ j => M U most s (.fig n) i = M U most s .fin j := by
  intro k
  induction k with
  | zero =>
    intro i f n hk hn
    have e : s[i]? = none := List.getElem?_eq_none (by omega)
    rw [drop_none e]
    exact M_fig_end (by unfold dgAt; rw [e])
  | succ k ih =>
    intro i f n hk hn
    cases e : s[i]? with
    | none =>
      rw [drop_none e]
      exact M_fig_end (by unfold dgAt; rw [e])
    | some c =>
      have hl := lt_of_get e
      rw [drop_some e]
      unfold dgs
      by_cases q : isDig c = true
      · rw [if_pos q]
        by_cases z : f = 0 ∨ 1000000 < 10 * f + (c - 48)
        · rw [if_pos z]
          exact M_stop e (by simp [stepM, q, hn.over.mpr z])
        · rw [if_neg z]
          have hz : ¬ overM 1000000 (n ++ [c]) := fun y => z (hn.over.mp y)
          have g := M_go (U := U) (most := most) (m := .fig n) (m' := .fig (n ++ [c])) e (by simp [stepM, q, hz])
          rw [g]
          exact ih (i + 1) _ _ (by omega) (hn.snoc fun y => z (.inl y))
      · rw [if_neg q]
        exact M_fig_end (by unfold dgAt; rw [e]; simpa using q)
theorem M_pows : ∀ (k i f : Nat) (n : List Nat), s.length - i ≤ k → NumOk n f → match dgs most f i (s.drop i) with
    | .err e => M U most s (.pow n) i = some e
    | .ok _ j => M U most s (.pow n) i = M U most s .fin j := by
  intro k
  induction k with
  | zero =>
    intro i f n hk hn
    have e : s[i]? = none := List.getElem?_eq_none (by omega)
    rw [drop_none e]
    exact M_pow_end hn.ne (by unfold dgAt; rw [e])
  | succ k ih =>
    intro i f n hk hn
    cases e : s[i]? with
    | none =>
      rw [drop_none e]
      exact M_pow_end hn.ne (by unfold dgAt; rw [e])
    | some c =>
      have hl := lt_of_get e
      rw [drop_some e]
      unfold dgs
      by_cases q : isDig c = true
      · rw [if_pos q]
        by_cases z : f = 0 ∨ most < 10 * f + (c - 48)
        · rw [if_pos z]
          exact M_stop e (by simp [stepM, q, hn.over.mpr z])
        · rw [if_neg z]
          have hz : ¬ overM most (n ++ [c]) := fun y => z (hn.over.mp y)
          have g := M_go (U := U) (most := most) (m := .pow n) (m' := .pow (n ++ [c])) e (by simp [stepM, q, hz])
          rw [g]
          exact ih (i + 1) _ _ (by omega) (hn.snoc fun y => z (.inl y))
      · rw [if_neg q]
        exact M_pow_end hn.ne (by unfold dgAt; rw [e]; simpa using q)
theorem whole0 (i lim : Nat) : whole s i 0 lim = match s[i]? with
    | none => .err i
    | some c => if isDig c = false then .err i else if lim < c - 48 then .err i else dgs lim (c - 48) (i + 1) (s.drop (i + 1)) := by
  unfold whole
  cases s[i]? with
  | none => rfl
  | some c => simp
theorem M_power {i : Nat} (hi : i ≤ s.length) : match powP most s i with
    | .err e => M U most s .unk i = some e
    | .ok _ j => M U most s .unk i = M U most s .fin j := by
  unfold powP
  by_cases q : sgn s i = [94]
  · rw [if_pos q]
    have e := sgn_eq.mp q
    have g := M_go (U := U) (most := most) (m := .unk) (m' := .pow []) e (by rfl)
    rw [M_unk_sk, g, M_pow_sk, whole0]
    have hl := lt_of_get e
    cases e2 : s[sk s (sk s i + 1)]? with
    | none =>
      dsimp only
      rw [M_none e2]
      rfl
    | some c =>
      dsimp only
      by_cases d : isDig c = false
      · rw [if_pos d]
        exact M_stop e2 (by simp [stepM, d, sk_nb e2])
      · rw [if_neg d]
        have d : isDig c = true := by simpa using d
        have dc := dig_cases d
        have ov : overM most [c] ↔ most < c - 48 := by
          unfold overM
          rw [show numOf [c] = c - 48 by simp [numOf]]
          simp
        by_cases z : most < c - 48
        · rw [if_pos z]
          exact M_stop e2 (by simp [stepM, d, ov.mpr z])
        · rw [if_neg z]
          have g := M_go (U := U) (most := most) (m := .pow []) (m' := .pow [c]) e2 (by
            have : ¬ overM most [c] := fun y => z (ov.mp y)
            simp [stepM, d, this])
          rw [g]
          exact M_pows _ _ _ _ (Nat.le_refl _) (.one d)
  · rw [if_neg q]
    show M U most s .unk i = M U most s .fin i
    rw [M_unk_sk, M_fin_sk]
    cases e : s[sk s i]? with
    | none => rw [M_none e, M_none e]; rfl
    | some c =>
      have hc : c ≠ 94 := fun z => q (sgn_eq.mpr (by rw [e, z]))
      have h : stepM U most .unk c = stepM U most .fin c := by simp [stepM, sk_nb e, hc]
      cases z : stepM U most .fin c with
      | none => rw [M_stop e (h.trans z), M_stop e z]
      | some m => rw [M_go e (h.trans z), M_go e z]
theorem M_factor (hU : UOk U) {i : Nat} (hi : i ≤ s.length) : match factP U most false s i with
    | .err e => M U most s .fac i = some e
    | .ok _ j => M U most s .fac i = M U most s .fin j := by
  rw [M_fac_sk]
  unfold factP
  cases e : s[sk s i]? with
  | none =>
    have d : dgAt s (sk s i) = false := by unfold dgAt; rw [e]
    have w : wordP U s (sk s i) = .err (sk s i) := by unfold wordP; rw [sk_sk, e]
    rw [d, w]
    simp only [Bool.false_eq_true, if_false, P.bind_err]
    rw [M_none e]
    rfl
  | some c =>
    have nb := sk_nb e
    have d : dgAt s (sk s i) = isDig c := by unfold dgAt; rw [e]
    rw [d]
    by_cases q : isDig c = true
    · rw [if_pos q]
      simp only [Bool.false_eq_true, if_false]
      have dc := dig_cases q
      have wq : whole s (sk s i) 0 1000000 = dgs 1000000 (c - 48) (sk s i + 1) (s.drop (sk s i + 1)) := by
        rw [whole0, e]
        dsimp only
        rw [if_neg (by rw [q]; simp), if_neg (by omega)]
      have g := M_go (U := U) (most := most) (m := .fac) (m' := .fig [c]) e (by simp [stepM, nb, facS, q])
      rw [g, wq]
      have := M_figs (U := U) (most := most) (s := s) _ (sk s i + 1) (c - 48) [c] (Nat.le_refl _) (.one q)
      cases z : dgs 1000000 (c - 48) (sk s i + 1) (s.drop (sk s i + 1)) with
      | err x => rw [z] at this; exact this
      | ok a j => rw [z] at this; exact this
    · rw [if_neg q]
      by_cases z : c ∈ U
      · have w : wordP U s (sk s i) = .ok c (sk s i + 1) := by unfold wordP; rw [sk_sk, e]; simp [z]
        have g := M_go (U := U) (most := most) (m := .fac) (m' := .unk) e (by simp [stepM, nb, facS, q, z])
        rw [w, P.bind_ok, g]
        have p := M_power (U := U) (most := most) (s := s) (i := sk s i + 1) (by have := lt_of_get e; omega)
        cases y : powP most s (sk s i + 1) with
        | err x => rw [y] at p; exact p
        | ok a j => rw [y] at p; exact p
      · have w : wordP U s (sk s i) = .err (sk s i) := by unfold wordP; rw [sk_sk, e]; simp [z]
        rw [w, P.bind_err]
        exact M_stop e (by simp [stepM, nb, facS, q, z])
theorem M_op {i c : Nat} (hc : c = 42 ∨ c = 43 ∨ c = 45) (e : s[sk s i]? = some c) : M U most s .fin i = M U most s .fac (sk s i + 1) := by
  rw [M_fin_sk]
  exact M_go e (by simp [stepM, finS, sk_nb e, hc])
theorem M_term (hU : UOk U) {i : Nat} (hi : i ≤ s.length) : match termP U most false s i with
    | .err e => M U most s .fac i = some e
    | .ok _ j => M U most s .fac i = M U most s .fin j ∧ sgn s j ≠ [42] := by
  have loop : ∀ (m i : Nat) (v : FV), s.length - i < m → i ≤ s.length → match loopP (termC s) (termS U most false s) m v i with
      | .err e => M U most s .fin i = some e
      | .ok _ j => M U most s .fin i = M U most s .fin j ∧ sgn s j ≠ [42] := by
    intro m
    induction m with
    | zero => intro i v hm; omega
    | succ m ih =>
      intro i v hm hi
      unfold loopP
      by_cases q : sgn s i = [42]
      · have e := sgn_eq.mp q
        have hl := lt_of_get e
        have hg := sk_ge s i
        rw [if_pos (show termC s v i = true by simp [termC, q]), M_op (.inl rfl) e]
        have f := M_factor (most := most) (s := s) hU (i := sk s i + 1) (by omega)
        unfold termS
        cases z : factP U most false s (sk s i + 1) with
        | err x => rw [z] at f; exact f
        | ok w j =>
          rw [z] at f
          have hj := factP_end z
          simp only [P.bind_ok]
          have := ih j (joinF v w) (by omega) hj.2
          rw [f]
          exact this
      · rw [if_neg (show ¬ termC s v i = true by simp [termC, q])]
        exact ⟨rfl, q⟩
  unfold termP
  have f := M_factor (most := most) (s := s) hU hi
  cases z : factP U most false s i with
  | err x => rw [z] at f; exact f
  | ok w j =>
    rw [z] at f
    have hj := factP_end z
    rw [P.bind_ok, f]
    exact loop _ _ _ (by omega) hj.2
theorem M_terms (hU : UOk U) : ∀ (m : Nat) (l : Tm) (g : Int) (i : Nat), s.length - i < m → i ≤ s.length → match termsLoop U most false s m l g i with
    | .err e => M U most s .fac i = some e
    | .ok _ j => M U most s .fac i = M U most s .fin j ∧ sgn s j ≠ [42] ∧ sgn s j ≠ [43] ∧ sgn s j ≠ [45] := by
  intro m
  induction m with
  | zero => intro l g i hm; omega
  | succ m ih =>
    intro l g i hm hi
    unfold termsLoop
    have f := M_term (most := most) (s := s) hU hi
    cases z : termP U most false s i with
    | err x => rw [z] at f; exact f
    | ok v j =>
      rw [z] at f
      obtain ⟨f1, f2⟩ := f
      obtain ⟨j1, j2, _⟩ := termP_end z
      rw [P.bind_ok, f1]
      have hg := sk_ge s j
      by_cases q : sgn s j = [43]
      · have e := sgn_eq.mp q
        have hl := lt_of_get e
        rw [if_pos q, M_op (.inr (.inl rfl)) e]
        exact ih _ _ _ (by omega) (by omega)
      · rw [if_neg q]
        by_cases q2 : sgn s j = [45]
        · have e := sgn_eq.mp q2
          have hl := lt_of_get e
          rw [if_pos q2, M_op (.inr (.inr rfl)) e]
          exact ih _ _ _ (by omega) (by omega)
        · rw [if_neg q2]
          exact ⟨rfl, f2, q, q2⟩
/-- the text is refused where the machine refuses it -/
theorem refuse_mach (hU : UOk U) : refuse U most s = mach U most .beg 0 s := by
  have h0 : mach U most .beg 0 s = M U most s .beg 0 := rfl
  have key : match termsP U most false s 0 with
      | .err e => M U most s .beg 0 = some e
      | .ok _ j => M U most s .beg 0 = M U most s .fin j ∧ sgn s j ≠ [42] ∧ sgn s j ≠ [43] ∧ sgn s j ≠ [45] := by
    unfold termsP
    by_cases q : sgn s 0 = [45]
    · have e := sgn_eq.mp q
      have hl := lt_of_get e
      have g := M_go (U := U) (most := most) (m := .beg) (m' := .fac) e (by rfl)
      rw [if_pos q, M_beg_sk, g]
      exact M_terms hU _ _ _ _ (by omega) (by omega)
    · have same : M U most s .beg 0 = M U most s .fac 0 := by
        rw [M_beg_sk, M_fac_sk]
        cases e : s[sk s 0]? with
        | none => rw [M_none e, M_none e]; rfl
        | some c =>
          have hc : c ≠ 45 := fun z => q (sgn_eq.mpr (by rw [e, z]))
          have h : stepM U most .beg c = stepM U most .fac c := by simp [stepM, sk_nb e, hc]
          cases z : stepM U most .fac c with
          | none => rw [M_stop e (h.trans z), M_stop e z]
          | some m => rw [M_go e (h.trans z), M_go e z]
      rw [if_neg q, same]
      exact M_terms hU _ _ _ _ (by omega) (by omega)
  rw [h0]
  unfold refuse
  cases z : termsP U most false s 0 with
  | err x => rw [z] at key; exact key.symm
  | ok l j =>
    rw [z] at key
    obtain ⟨k1, k2, k3, k4⟩ := key
    rw [k1, M_fin_sk]
    dsimp only
    cases e : s[sk s j]? with
    | none => rw [M_none e]; rfl
    | some c =>
      have a : ∀ d, sgn s j ≠ [d] → c ≠ d := fun d h x => h (sgn_eq.mpr (by rw [e, x]))
      exact (M_stop (U := U) (most := most) (m := .fin) e (by simp [stepM, finS, sk_nb e, a 42 k2, a 43 k3, a 45 k4])).symm
end
end PVL
set_option Elab.async false
set_option linter.all false
set_option maxRecDepth 10000
/-! PL10: the laws' own helpers: what is rolled, texts of terms and of sums. -/
namespace PVL
open PV
/-! ### the cup -/
/-- the first object of the store: what is rolled -/
def cupO (a b : Int) : Option MO := some (.lst [.int a, .int b])
def CupOk (a b : Int) : Prop := 0 ≤ a ∧ 0 ≤ b ∧ b < 4294967296
theorem ixN0 : ixN 2 (0 : Int) = some 0 := by rfl
theorem ixN1 : ixN 2 (1 : Int) = some 1 := by rfl
section
variable {F : Nat → Option Fn}
theorem getMO0 (m : MO) (st : Sto) : getMO (some m :: st) 0 = some m := rfl
theorem cup_get0 (a b : Int) (st : Sto) : idxD (.ref 0) (.int 0) (cupO a b :: st) = .ok (.int a) (cupO a b :: st) := by rfl
theorem cup_get1 (a b : Int) (st : Sto) : idxD (.ref 0) (.int 1) (cupO a b :: st) = .ok (.int b) (cupO a b :: st) := by rfl
theorem cup_set0 (a b x : Int) (st : Sto) : setD (.ref 0) (.int 0) (.int x) (cupO a b :: st) = .ok () (cupO x b :: st) := by rfl
theorem cup_set1 (a b x : Int) (st : Sto) : setD (.ref 0) (.int 1) (.int x) (cupO a b :: st) = .ok () (cupO a x :: st) := by rfl
@[simp] theorem int_int (i : Int) (st : Sto) : bfD .int [.int i] st = .ok (.int i) st := rfl
theorem mod_int {i j : Int} (h : j ≠ 0) (st : Sto) : binD .mod (.int i) (.int j) st = .ok (.int (i.fmod j)) st := by simp [binD, h]
theorem okMul_small {i j : Int} (h : j.natAbs < 18446744073709551616) : okMul i j = true := by
  unfold okMul small
  rw [show Nat.blt j.natAbs (2 ^ 64) = true from Nat.ble_eq_true_of_le h]
  rfl
theorem okDiv_small {i j : Int} (h0 : j ≠ 0) (h : j.natAbs < 1073741824) : okDiv i j = true := by
  unfold okDiv
  rw [show Nat.blt j.natAbs 1073741824 = true from Nat.ble_eq_true_of_le h]
  simp [h0]
theorem fmod_rng {a m : Int} (hm : 0 < m) : 0 ≤ a.fmod m ∧ a.fmod m < m := ⟨Int.fmod_nonneg_of_pos _ hm, Int.fmod_lt_of_pos _ hm⟩
theorem roll_ok (h131 : F 131 = some f131) (k : Nat) {a b m : Int} (hc : CupOk a b) (hm : 0 < m) (hm2 : m < 1000000000) (st : Sto) :
    ∃ v a' b', callF F (k + 1) 131 [.ref 0, .int m] (cupO a b :: st) = .ok (.int v) (cupO a' b' :: st) ∧ 0 ≤ v ∧ v < m ∧ CupOk a' b' := by
  rw [callF_at [some (.ref 0), some (.int m), none, none] h131 rfl rfl]
  simp only [f131]
  have hm0 : m ≠ 0 := by omega
  by_cases h : 0 < a
  · have d := okDiv_small (i := a) hm0 (by omega)
    have r := fmod_rng (a := a) hm
    refine ⟨a.fmod m, a.fdiv m, b, ?_, r.1, r.2, Int.fdiv_nonneg hc.1 (by omega), hc.2⟩
    simp [cup_get0, h, mod_int hm0, asgT, fdiv_int d, cup_set0]
  · have c1 : (2147483543 : Int) ≠ 0 := by decide
    have c2 : (2147483587 : Int) ≠ 0 := by decide
    have m1 := okMul_small (i := b) (j := 31081) (by decide)
    have r1 := fmod_rng (a := b * 31081 + 8039) (m := 2147483543) (by decide)
    generalize hx : (b * 31081 + 8039).fmod 2147483543 = x at r1
    have m2 := okMul_small (i := x) (j := x + 251) (by omega)
    have r2 := fmod_rng (a := x * (x + 251)) (m := 2147483587) (by decide)
    generalize hy : (x * (x + 251)).fmod 2147483587 = y at r2
    have d := okDiv_small (i := y) (j := 839) (by decide) (by decide)
    have r3 := fmod_rng (a := y.fdiv 839) hm
    refine ⟨(y.fdiv 839).fmod m, a, x, ?_, r3.1, r3.2, hc.1, by omega, by omega⟩
    simp [cup_get0, cup_get1, h, mod_int c1, mod_int c2, mul_int m1, hx, cup_set1, mul_int m2, hy, asgT, fdiv_int d, mod_int hm0]
theorem some_ok (h131 : F 131 = some f131) (h132 : F 132 = some f132) (k : Nat) {a b : Int} (hc : CupOk a b) {ds : List D} (h0 : ds ≠ []) (hl : ds.length < 1000000000) (st : Sto) :
    ∃ d a' b', callF F (k + 2) 132 [.ref 0, .lst ds] (cupO a b :: st) = .ok d (cupO a' b' :: st) ∧ d ∈ ds ∧ CupOk a' b' := by
  rw [callF_at [some (.ref 0), some (.lst ds)] h132 rfl rfl]
  simp only [f132]
  have hp := List.length_pos_iff.mpr h0
  obtain ⟨v, a', b', e, v0, v1, c⟩ := roll_ok h131 k hc (m := (ds.length : Int)) (by omega) (by omega) st
  obtain ⟨n, rfl⟩ : ∃ n : Nat, v = n := ⟨v.toNat, by omega⟩
  have hn : n < ds.length := by omega
  refine ⟨ds[n], a', b', ?_, List.getElem_mem _, c⟩
  have l : bfD .len [.lst ds] (cupO a b :: st) = .ok (.int ds.length) (cupO a b :: st) := rfl
  have g : idxD (.lst ds) (.int n) (cupO a' b' :: st) = .ok ds[n] (cupO a' b' :: st) := by
    show okd (atI ds (n : Int)) _ = _
    rw [atI_nat, List.getElem?_eq_getElem hn]; rfl
  simp [l, e, g]
theorem pow10_18 (st : Sto) : binD .pow (.int 10) (.int 18) st = .ok (.int 1000000000000000000) st := by rfl
theorem cup_ok (h130 : F 130 = some f130) (k : Nat) {ns : List Int} (hl : ns.length ≤ 1000) : ∃ a b, callF F (k + 1) 130 [.scr ns] [] = .ok (.ref 0) [cupO a b] ∧ CupOk a b := by
  rw [callF_at [some (.scr ns), none] h130 rfl rfl]
  simp only [f130]
  have e1 : ∀ st, binD .add (.lst (ns.map D.int)) (.lst [.int 0]) st = .ok (.lst ((ns ++ [0]).map D.int)) st := fun st => by
    have f : fits ((ns.map D.int).length + [D.int 0].length) = true := Nat.ble_eq_true_of_le (by simp; omega)
    show okb (fits ((ns.map D.int).length + [D.int 0].length)) (D.lst (ns.map D.int ++ [D.int 0])) st = _
    rw [f, List.map_append]; rfl
  obtain ⟨x, hx⟩ : ∃ x : Int, (ns ++ [0])[0]? = some x := by
    cases ns with
    | nil => exact ⟨0, rfl⟩
    | cons y ns => exact ⟨y, rfl⟩
  have e2 : ∀ st, idxD (.lst ((ns ++ [0]).map D.int)) (.int 0) st = .ok (.int x) st := fun st => by
    show okd (atI ((ns ++ [0]).map D.int) ((0 : Nat) : Int)) st = _
    rw [atI_nat, List.getElem?_map, hx]; rfl
  have e3 : ∀ st, bfD .list [.scr ns] st = .ok (.lst (ns.map .int)) st := fun st => rfl
  have e4 : ∀ (i : Int) st, bfD .abs [.int i] st = .ok (.int (if i < 0 then -i else i)) st := fun i st => rfl
  generalize hc : (if x < 0 then -x else x) = c
  have c0 : 0 ≤ c := by subst hc; split <;> omega
  have d := okDiv_small (i := c) (j := 83) (by decide) (by decide)
  have m := okMul_small (i := c) (j := 307) (by decide)
  have c1 : (2077503121 : Int) ≠ 0 := by decide
  have r := fmod_rng (a := c * 307 + 2707) (m := 2077503121) (by decide)
  have p1 : ∀ st, ev (callF F k) (E.bf (BF.abs) (Es.cons (E.idx (E.bin (BO.add) (E.bf (BF.list) (Es.cons (E.v 0) (Es.nil))) (E.lst false (Es.cons (E.c (D.int 0)) (Es.nil)))) (E.c (D.int 0))) (Es.nil))) false [some (.scr ns), none] st = .ok (.int c) st := fun st => by
    simp only [ev_bf, ev_idx, ev_bin, ev_lst, evs_cons, evs_nil, ev_v0, ev_c, tst_f, bind_ok, e3, List.length_cons, List.length_nil, show fits (0 + 1) = true from rfl, okb_t, e1, e2, e4, hc]
  rw [evSs_cons, evS_asg, p1, thn_ok]
  by_cases q : (1000000000000000000 : Int) ≤ c
  · refine ⟨c.fdiv 83, (c * 307 + 2707).fmod 2077503121 + 181, ?_, Int.fdiv_nonneg c0 (by decide), by omega, by omega⟩
    simp [asgT, pow10_18, q, fdiv_int d, mul_int m, mod_int c1, fits2, alloc, cupO]
  · refine ⟨0, (c * 307 + 2707).fmod 2077503121 + 181, ?_, Int.le_refl _, by omega, by omega⟩
    simp [asgT, pow10_18, q, mul_int m, mod_int c1, fits2, alloc, cupO]
/-! ### texts of numbers -/
theorem digs_asc : ∀ (f n : Nat) (acc : List Nat), asc acc = true → asc (digs f n acc) = true
  | 0, n, acc, h => h
  | f + 1, n, acc, h => by
    unfold digs
    split
    · simp [h]; omega
    · refine digs_asc f _ _ ?_
      simp [h]; omega
theorem digs_len : ∀ (f n : Nat) (acc : List Nat), (digs f n acc).length ≤ acc.length + f
  | 0, n, acc => Nat.le_refl _
  | f + 1, n, acc => by
    unfold digs
    split
    · simp
    · have := digs_len f (n / 10) ((48 + n % 10) :: acc)
      simp at this; omega
theorem natText_asc (n : Nat) : asc (natText n) = true := digs_asc _ _ _ rfl
theorem natText_len {n m : Nat} (h : n < 2 ^ m) (hm : 0 < m) : (natText n).length ≤ m := by
  have := digs_len (n.log2 + 1) n []
  have l : n.log2 < m := by
    by_cases z : n = 0
    · subst z; simpa using hm
    · exact (Nat.log2_lt z).mpr h
  unfold natText
  simp at this; omega
theorem str_int {i : Int} (h0 : 0 ≤ i) (h : i.natAbs < 2 ^ 1900) (st : Sto) : bfD .str [.int i] st = .ok (.str (natText i.natAbs)) st := by
  have c : (decide (0 ≤ i) && Nat.blt i.natAbs (2 ^ 1900)) = true := by
    rw [Bool.and_eq_true]
    exact ⟨decide_eq_true h0, Nat.ble_eq_true_of_le h⟩
  show okb (decide (0 ≤ i) && Nat.blt i.natAbs (2 ^ 1900)) _ _ = _
  rw [c]; rfl
theorem add_str {a b : List Nat} (h : a.length + b.length ≤ 1000000) (st : Sto) : binD .add (.str a) (.str b) st = .ok (.str (a ++ b)) st := by
  have : fits (a.length + b.length) = true := Nat.ble_eq_true_of_le h
  show okb (fits (a.length + b.length)) _ _ = _
  rw [this]; rfl
/-- the text of a fraction that is not below 0 -/
def numTx (a b : Int) : List Nat := natText a.natAbs ++ (if b ≠ 1 then 58 :: natText b.natAbs else [])
theorem numTx_asc (a b : Int) : asc (numTx a b) = true := by
  unfold numTx
  refine asc_append (natText_asc _) ?_
  split
  · simp [natText_asc]
  · rfl
theorem num_ok (h133 : F 133 = some f133) (k : Nat) {a b : Int} {q : Bool} (ha : 0 ≤ a) (ha2 : a.natAbs < 2 ^ 1900) (hb : 0 ≤ b) (hb2 : b.natAbs < 2 ^ 1900) (st : Sto) : callF F (k + 1) 133 [.tup q [.int a, .int b]] st = .ok (.str (numTx a b)) st := by
  rw [callF_at [some (.tup q [.int a, .int b])] h133 rfl rfl]
  simp only [f133]
  have l1 := natText_len ha2 (by decide)
  have l2 := natText_len hb2 (by decide)
  by_cases h : b = 1
  · have e := add_str (a := natText a.natAbs) (b := []) (by simp; omega) st
    simp [str_int ha ha2, h, e, numTx]
  · have e1 := add_str (a := [58]) (b := natText b.natAbs) (by simp; omega) st
    have e2 := add_str (a := natText a.natAbs) (b := 58 :: natText b.natAbs) (by simp; omega) st
    simp [str_int ha ha2, str_int hb hb2, h, e1, e2, numTx]
/-- the text of a power, if it is above 0 -/
def powTx (c p : Nat) : List (List Nat) := if 0 < p then [c :: (if 1 < p then 94 :: natText p else [])] else []
def termPs (p : Nat × Nat) (x : Fr) : List (List Nat) := ((if x.1.natAbs = x.2 ∧ p ≠ (0, 0) then [] else [numTx x.1.natAbs x.2]) ++ powTx 120 p.1) ++ powTx 121 p.2
def termTx (p : Nat × Nat) (x : Fr) : List Nat := joinD [42] (termPs p x)
theorem strsD_map : ∀ ps : List (List Nat), strsD (ps.map D.str) = some ps
  | [] => rfl
  | p :: ps => by simp [strsD, strsD_map ps]
theorem append_ref {st : Sto} {xs : List D} {d : D} (h : xs.length ≤ 1000000) : mtD .append (.ref st.length) [d] (st ++ [some (.lst xs)]) = .ok .non (st ++ [some (.lst (xs ++ [d]))]) := by
  have f : fits xs.length = true := Nat.ble_eq_true_of_le h
  simp only [mtD, mo_last, f, set_last]
theorem mtTy_append (st : Sto) (xs : List D) : mtTy .append (.ref st.length) (st ++ [some (.lst xs)]) = true := by
  simp only [mtTy, mo_last]
def b134 : Ss := Ss.cons (S.ite (E.cmp (CO.gt) (E.v 4) (E.c (D.int 0))) (Ss.cons (S.ex (E.mt (MF.append) (E.v 2) (Es.cons (E.bin (BO.add) (E.v 3) (E.ite (E.cmp (CO.gt) (E.v 4) (E.c (D.int 1))) (E.bin (BO.add) (E.c (D.str [94])) (E.bf (BF.str) (Es.cons (E.v 4) (Es.nil)))) (E.c (D.str [])))) (Es.nil)))) (Ss.nil)) (Ss.nil)) (Ss.nil)
theorem b134_ok {call : Nat → List D → Sto → R D} {room : Bool} {x y : Option D} {ps : List (List Nat)} {c p : Nat} (hp : p < 2 ^ 1900) (hl : ps.length ≤ 1000000) (st : Sto) :
    evSs call room b134 [x, y, some (.ref st.length), some (.str [c]), some (.int p)] (st ++ [some (.lst (ps.map .str))]) = .ok (.nx [x, y, some (.ref st.length), some (.str [c]), some (.int p)]) (st ++ [some (.lst ((ps ++ powTx c p).map .str))]) := by
  have l1 := natText_len hp (by decide)
  have ap : ∀ d, mtD .append (.ref st.length) [d] (st ++ [some (.lst (ps.map .str))]) = .ok .non (st ++ [some (.lst (ps.map .str ++ [d]))]) := fun d => append_ref (by rw [List.length_map]; exact hl)
  by_cases h : 0 < p
  · have h1 : (0 : Int) < p := by omega
    have s1 := fun st => str_int (i := (p : Int)) (by omega) (by simpa using hp) st
    by_cases h2 : 1 < p
    · have h3 : (1 : Int) < p := by omega
      have e1 := fun st => add_str (a := [94]) (b := natText p) (by simp; omega) st
      have e2 := fun st => add_str (a := [c]) (b := 94 :: natText p) (by simp; omega) st
      simp at e1 e2 s1
      simp [b134, h, h2, h3, powTx, mtTy_append, s1, e1, e2, ap]
    · have h3 : ¬ (1 : Int) < p := by omega
      have e2 := fun st => add_str (a := [c]) (b := []) (by simp) st
      simp at e2
      simp [b134, h, h2, h3, powTx, mtTy_append, e2, ap]
  · have h1 : ¬ (0 : Int) < p := by omega
    simp [b134, h, powTx]
theorem ne_pw (p : Nat × Nat) : cmpD .ne (pwD p) (.tup false [.int 0, .int 0]) = some (decide (p ≠ (0, 0))) := by
  obtain ⟨a, b⟩ := p
  have e : cmpD .ne (pwD (a, b)) (.tup false [.int 0, .int 0]) = some (!(decide ((a : Int) = 0) && (decide ((b : Int) = 0) && true))) := rfl
  rw [e]
  congr 1
  rw [Bool.eq_iff_iff]
  simp
theorem joinD_len (sep : List Nat) : ∀ ps : List (List Nat), (joinD sep ps).length ≤ (ps.map List.length).foldl (· + ·) (sep.length * ps.length)
  | [] => by simp [joinD]
  | [x] => by simp [joinD]
  | x :: y :: r => by
    have ih := joinD_len sep (y :: r)
    have sh : ∀ (l : List Nat) (a b : Nat), l.foldl (· + ·) (a + b) = a + l.foldl (· + ·) b := by
      intro l
      induction l with
      | nil => intro a b; rfl
      | cons z l ih => intro a b; rw [List.foldl_cons, List.foldl_cons, Nat.add_assoc, ih]
    unfold joinD
    rw [List.length_append, List.length_append, List.map_cons, List.foldl_cons, List.length_cons, Nat.mul_add, Nat.mul_one]
    rw [show sep.length * (y :: r).length + sep.length + x.length = (sep.length + x.length) + sep.length * (y :: r).length by omega, sh]
    omega
theorem term_tx (h133 : F 133 = some f133) (h134 : F 134 = some f134) (k : Nat) {p : Nat × Nat} {x : Fr} {q : Bool} (hp : p.1 < 2 ^ 1900 ∧ p.2 < 2 ^ 1900) (hx : x.1.natAbs < 2 ^ 1900) (hx0 : 0 < x.2) (hx2 : x.2.natAbs < 2 ^ 1900) (st : Sto) : callF F (k + 2) 134 [pwD p, frD q x] st = .ok (.str (termTx p x)) (st ++ [none]) := by
  rw [callF_at [some (pwD p), some (frD q x), none, none, none] h134 rfl rfl]
  have e4 : ∀ st, bfD .abs [.int x.1] st = .ok (.int x.1.natAbs) st := fun st => by
    show R.ok (D.int (if x.1 < 0 then -x.1 else x.1)) st = _
    congr 2
    split <;> omega
  have i0 : ∀ st, idxD (frD q x) (.int 0) st = .ok (.int x.1) st := fun st => by unfold frD; exact idx_tup0 _ _ _ _
  have i1 : ∀ st, idxD (frD q x) (.int 1) st = .ok (.int x.2) st := fun st => by unfold frD; exact idx_tup1 _ _ _ _ _
  have nm := fun st => num_ok h133 k (a := (x.1.natAbs : Int)) (b := x.2) (q := false) (by omega) (by simpa using hx) (by omega) hx2 st
  have s0 : ev (callF F (k + 1)) (E.ite (E.and (E.cmp (CO.eq) (E.bf (BF.abs) (Es.cons (E.idx (E.v 1) (E.c (D.int 0))) (Es.nil))) (E.idx (E.v 1) (E.c (D.int 1)))) (E.cmp (CO.ne) (E.v 0) (E.tup (Es.cons (E.c (D.int 0)) (Es.cons (E.c (D.int 0)) (Es.nil))))))
      (E.lst true (Es.nil)) (E.lst true (Es.cons (E.call 133 (Es.cons (E.tup (Es.cons (E.bf (BF.abs) (Es.cons (E.idx (E.v 1) (E.c (D.int 0))) (Es.nil))) (Es.cons (E.idx (E.v 1) (E.c (D.int 1))) (Es.nil)))) (Es.nil))) (Es.nil)))) false [some (pwD p), some (frD q x), none, none, none] st
      = .ok (.ref st.length) (st ++ [some (.lst ((if x.1.natAbs = x.2 ∧ p ≠ (0, 0) then [] else [numTx x.1.natAbs x.2]).map .str))]) := by
    have f0 : fits 0 = true := rfl
    have f1 : fits 1 = true := rfl
    by_cases h1 : (x.1.natAbs : Int) = x.2
    · by_cases h2 : p = (0, 0)
      · obtain ⟨a, b⟩ := x
        dsimp only at *
        subst h1
        simp [i0, i1, e4, ne_pw, h2, fits2, f0, f1, alloc, nm]
      · simp [i0, i1, e4, h1, ne_pw, h2, fits2, f0, f1, alloc]
    · simp [i0, i1, e4, h1, fits2, f0, f1, alloc, nm]
  rw [show f134.body = Ss.cons (S.asg (T.n 2) (E.ite (E.and (E.cmp (CO.eq) (E.bf (BF.abs) (Es.cons (E.idx (E.v 1) (E.c (D.int 0))) (Es.nil))) (E.idx (E.v 1) (E.c (D.int 1)))) (E.cmp (CO.ne) (E.v 0) (E.tup (Es.cons (E.c (D.int 0)) (Es.cons (E.c (D.int 0)) (Es.nil))))))
      (E.lst true (Es.nil)) (E.lst true (Es.cons (E.call 133 (Es.cons (E.tup (Es.cons (E.bf (BF.abs) (Es.cons (E.idx (E.v 1) (E.c (D.int 0))) (Es.nil))) (Es.cons (E.idx (E.v 1) (E.c (D.int 1))) (Es.nil)))) (Es.nil))) (Es.nil)))))
      (Ss.cons (S.fr (T.t2 (T.n 3) (T.n 4)) (I.of (E.tup (Es.cons (E.tup (Es.cons (E.c (D.str [120])) (Es.cons (E.idx (E.v 0) (E.c (D.int 0))) (Es.nil)))) (Es.cons (E.tup (Es.cons (E.c (D.str [121])) (Es.cons (E.idx (E.v 0) (E.c (D.int 1))) (Es.nil)))) (Es.nil))))) b134)
        (Ss.cons (S.fz 2) (Ss.cons (S.ret (E.mt (MF.join) (E.c (D.str [42])) (Es.cons (E.v 2) (Es.nil)))) (Ss.nil)))) from rfl]
  rw [evSs_cons, evS_asg, s0, thn_ok]
  rw [show asgT (T.n 2) (D.ref st.length) [some (pwD p), some (frD q x), none, none, none] = some [some (pwD p), some (frD q x), some (D.ref st.length), none, none] from rfl, nxt_s, seq_nx, evSs_cons, evS_fr]
  generalize hps : (if x.1.natAbs = x.2 ∧ p ≠ (0, 0) then [] else [numTx x.1.natAbs x.2]) = ps
  have hpl : ps.length ≤ 1 := by subst hps; split <;> simp
  have pl : ∀ c n, (powTx c n).length ≤ 1 := fun c n => by unfold powTx; split <;> simp
  have p0 : ∀ st, idxD (pwD p) (.int 0) st = .ok (.int p.1) st := fun st => by unfold pwD; exact idx_tup0 _ _ _ _
  have p1 : ∀ st, idxD (pwD p) (.int 1) st = .ok (.int p.2) st := fun st => by unfold pwD; exact idx_tup1 _ _ _ _ _
  have it : ∀ st, evI (callF F (k + 1)) (I.of (E.tup (Es.cons (E.tup (Es.cons (E.c (D.str [120])) (Es.cons (E.idx (E.v 0) (E.c (D.int 0))) (Es.nil)))) (Es.cons (E.tup (Es.cons (E.c (D.str [121])) (Es.cons (E.idx (E.v 0) (E.c (D.int 1))) (Es.nil)))) (Es.nil))))) [some (pwD p), some (frD q x), some (D.ref st.length), none, none] (st ++ [some (.lst (ps.map .str))]) = .ok [.tup false [.str [120], .int p.1], .tup false [.str [121], .int p.2]] (st ++ [some (.lst (ps.map .str))]) := fun st => by
    simp [p0, p1, fits2, seqOf]
  rw [it, thn_ok]
  have b1 := b134_ok (call := callF F (k + 1)) (room := Nat.blt 2 (k + 1)) (x := some (pwD p)) (y := some (frD q x)) (ps := ps) (c := 120) hp.1 (by omega) st
  have b2 := b134_ok (call := callF F (k + 1)) (room := Nat.blt 2 (k + 1)) (x := some (pwD p)) (y := some (frD q x)) (ps := ps ++ powTx 120 p.1) (c := 121) hp.2 (by have := pl 120 p.1; simp; omega) st
  have fr : forR (T.t2 (T.n 3) (T.n 4)) (fun δ st => evSs (callF F (k + 1)) (Nat.blt 2 (k + 1)) b134 δ st) [.tup false [.str [120], .int p.1], .tup false [.str [121], .int p.2]] [some (pwD p), some (frD q x), some (D.ref st.length), none, none] (st ++ [some (.lst (ps.map .str))]) = .ok (.nx [some (pwD p), some (frD q x), some (D.ref st.length), some (.str [121]), some (.int p.2)]) (st ++ [some (.lst (((ps ++ powTx 120 p.1) ++ powTx 121 p.2).map .str))]) := by
    unfold forR
    rw [show asgT (T.t2 (T.n 3) (T.n 4)) (.tup false [.str [120], .int p.1]) [some (pwD p), some (frD q x), some (D.ref st.length), none, none] = some [some (pwD p), some (frD q x), some (D.ref st.length), some (.str [120]), some (.int p.1)] from rfl]
    dsimp only
    rw [b1]
    dsimp only
    unfold forR
    rw [show asgT (T.t2 (T.n 3) (T.n 4)) (.tup false [.str [121], .int p.2]) [some (pwD p), some (frD q x), some (D.ref st.length), some (.str [120]), some (.int p.1)] = some [some (pwD p), some (frD q x), some (D.ref st.length), some (.str [121]), some (.int p.2)] from rfl]
    dsimp only
    rw [b2]
    rfl
  rw [fr, seq_nx]
  have tp : termPs p x = (ps ++ powTx 120 p.1) ++ powTx 121 p.2 := by unfold termPs; rw [hps]
  rw [← tp]
  have e6 : evS (callF F (k + 1)) (Nat.blt 2 (k + 1)) (S.fz 2) [some (pwD p), some (frD q x), some (D.ref st.length), some (.str [121]), some (.int p.2)] (st ++ [some (.lst ((termPs p x).map .str))]) = .ok (.nx [some (pwD p), some (frD q x), some (.lst ((termPs p x).map .str)), some (.str [121]), some (.int p.2)]) (st ++ [none]) := by
    show (match getMO (st ++ [some (MO.lst ((termPs p x).map D.str))]) st.length with
      | some (.lst ds) => RS.ok (.nx ([some (pwD p), some (frD q x), some (D.ref st.length), some (.str [121]), some (.int p.2)].set 2 (some (D.lst ds)))) ((st ++ [some (MO.lst ((termPs p x).map D.str))]).set st.length none)
      | some (.dct ks vs) => RS.ok (.nx ([some (pwD p), some (frD q x), some (D.ref st.length), some (.str [121]), some (.int p.2)].set 2 (some (D.dct ks vs)))) ((st ++ [some (MO.lst ((termPs p x).map D.str))]).set st.length none)
      | none => .bad) = _
    rw [mo_last, set_last]
    rfl
  rw [evSs_cons, e6, seq_nx]
  have tl : ∀ t ∈ termPs p x, t.length ≤ 4000 := by
    intro t ht
    have l1 := natText_len hp.1 (by decide)
    have l2 := natText_len hp.2 (by decide)
    have l3 := natText_len hx (by decide)
    have l4 := natText_len hx2 (by decide)
    rw [tp, ← hps] at ht
    rcases List.mem_append.mp ht with h | h
    · rcases List.mem_append.mp h with h | h
      · split at h
        · cases h
        · rw [List.mem_singleton] at h
          subst h
          unfold numTx
          split <;> simp <;> omega
      · unfold powTx at h
        split at h
        · rw [List.mem_singleton] at h
          subst h
          split <;> simp <;> omega
        · cases h
    · unfold powTx at h
      split at h
      · rw [List.mem_singleton] at h
        subst h
        split <;> simp <;> omega
      · cases h
  have tn : (termPs p x).length ≤ 3 := by
    rw [tp]
    have := pl 120 p.1
    have := pl 121 p.2
    simp; omega
  have ft : fits (((termPs p x).map List.length).foldl (· + ·) ([42].length * (termPs p x).length)) = true := by
    refine Nat.ble_eq_true_of_le ?_
    match h : termPs p x, tn, tl with
    | [], _, _ => simp
    | [a], _, tl => have := tl a (by simp); simp; omega
    | [a, b], _, tl => have := tl a (by simp); have := tl b (by simp); simp; omega
    | [a, b, c], _, tl => have := tl a (by simp); have := tl b (by simp); have := tl c (by simp); simp; omega
    | a :: b :: c :: d :: r, tn, _ => simp at tn
  have jn : mtD .join (.str [42]) [.lst ((termPs p x).map .str)] (st ++ [none]) = .ok (.str (termTx p x)) (st ++ [none]) := by
    show (match strsD ((termPs p x).map .str) with
      | some xs => okb (fits ((xs.map List.length).foldl (· + ·) ([42].length * xs.length))) (.str (joinD [42] xs)) (st ++ [none])
      | none => .bad) = _
    rw [strsD_map]
    dsimp only
    rw [ft]
    rfl
  simp only [evSs_cons, evSs_nil, evS_ret, ev_mtK, ev_c, tst_f, bind_ok, mtTy_join, mtK_t, evs_cons, evs_nil, ev_v2, jn, thn_ok, seq_rt, outR_rt]
end
end PVL
set_option Elab.async false
set_option linter.all false
set_option maxRecDepth 10000
/-! PL11: texts of sums; first_refused of short texts. -/
namespace PVL
open PV
/-! ### sorting -/
def insB {α : Type} (lt : α → α → Bool) (x : α) : List α → List α
  | [] => [x]
  | y :: ys => if lt y x then y :: insB lt x ys else x :: y :: ys
def srt {α : Type} (lt : α → α → Bool) : List α → List α
  | [] => []
  | x :: xs => insB lt x (srt lt xs)
theorem insR_mapB {α : Type} (f : α → D) (x : α) : ∀ ys : List α, insR D.lt (f x) (ys.map f) = (insB (fun a b => D.lt (f a) (f b)) x ys).map f
  | [] => rfl
  | y :: ys => by
    rw [List.map_cons]
    unfold insR insB
    rw [insR_mapB f x ys]
    split <;> rfl
theorem isort_mapB {α : Type} (f : α → D) : ∀ xs : List α, isort D.lt (xs.map f) = (srt (fun a b => D.lt (f a) (f b)) xs).map f
  | [] => rfl
  | x :: xs => by
    rw [List.map_cons]
    unfold isort srt
    rw [isort_mapB f xs, insR_mapB]
theorem insB_mem {α : Type} {lt : α → α → Bool} {x p : α} : ∀ {ys : List α}, p ∈ insB lt x ys ↔ p = x ∨ p ∈ ys
  | [] => by simp [insB]
  | y :: ys => by
    unfold insB
    split
    · rw [List.mem_cons, insB_mem, List.mem_cons]
      constructor
      · rintro (z | z | z) <;> simp [z]
      · rintro (z | z | z) <;> simp [z]
    · rw [List.mem_cons]
theorem srt_mem {α : Type} {lt : α → α → Bool} {p : α} : ∀ {xs : List α}, p ∈ srt lt xs ↔ p ∈ xs
  | [] => Iff.rfl
  | x :: xs => by unfold srt; rw [insB_mem, srt_mem, List.mem_cons]
theorem insB_len {α : Type} {lt : α → α → Bool} {x : α} : ∀ {ys : List α}, (insB lt x ys).length = ys.length + 1
  | [] => rfl
  | y :: ys => by
    unfold insB
    split
    · rw [List.length_cons, insB_len]; rfl
    · rfl
theorem srt_len {α : Type} {lt : α → α → Bool} : ∀ {xs : List α}, (srt lt xs).length = xs.length
  | [] => rfl
  | x :: xs => by unfold srt; rw [insB_len, srt_len]; rfl
/-! ### a term's text -/
structure TxOk (p : Nat × Nat) (x : Fr) : Prop where
  p1 : p.1 < 2 ^ 1900
  p2 : p.2 < 2 ^ 1900
  x1 : x.1.natAbs < 2 ^ 1900
  x0 : 0 < x.2
  x2 : x.2.natAbs < 2 ^ 1900
theorem powTx_asc {c p : Nat} (hc : c < 128) : ∀ t ∈ powTx c p, asc t = true := by
  intro t ht
  unfold powTx at ht
  split at ht
  · rw [List.mem_singleton] at ht
    subst ht
    split
    · simp [natText_asc, hc]
    · simp [hc]
  · cases ht
theorem termPs_asc (p : Nat × Nat) (x : Fr) : ∀ t ∈ termPs p x, asc t = true := by
  intro t ht
  unfold termPs at ht
  rcases List.mem_append.mp ht with h | h
  · rcases List.mem_append.mp h with h | h
    · split at h
      · cases h
      · rw [List.mem_singleton] at h
        subst h
        exact numTx_asc _ _
    · exact powTx_asc (by decide) t h
  · exact powTx_asc (by decide) t h
theorem joinD_asc {sep : List Nat} (hs : asc sep = true) : ∀ ps : List (List Nat), (∀ t ∈ ps, asc t = true) → asc (joinD sep ps) = true
  | [], _ => rfl
  | [x], h => h x (by simp)
  | x :: y :: r, h => by
    unfold joinD
    exact asc_append (asc_append (h x (by simp)) hs) (joinD_asc hs (y :: r) fun t ht => h t (List.mem_cons_of_mem _ ht))
theorem termTx_asc (p : Nat × Nat) (x : Fr) : asc (termTx p x) = true := joinD_asc (by rfl) _ (termPs_asc p x)
theorem powTx_len {c p n : Nat} (h : (natText p).length ≤ n) : (powTx c p).length ≤ 1 ∧ ∀ t ∈ powTx c p, t.length ≤ n + 2 := by
  unfold powTx
  split
  · refine ⟨by simp, fun t ht => ?_⟩
    rw [List.mem_singleton] at ht
    subst ht
    split <;> simp <;> omega
  · exact ⟨by simp, fun t ht => by cases ht⟩
theorem joinD3 {sep : List Nat} {n : Nat} {ps : List (List Nat)} (h : ps.length ≤ 3) (hs : sep.length ≤ 1) (ht : ∀ t ∈ ps, t.length ≤ n) : (joinD sep ps).length ≤ 3 * n + 2 := by
  match ps, h with
  | [], _ => simp [joinD]
  | [a], _ => have := ht a (by simp); simp [joinD]; omega
  | [a, b], _ => have := ht a (by simp); have := ht b (by simp); simp [joinD]; omega
  | [a, b, c], _ => have := ht a (by simp); have := ht b (by simp); have := ht c (by simp); simp [joinD]; omega
  | a :: b :: c :: d :: r, h => simp at h
/-- a bound from bounds of the numbers' texts -/
theorem termTx_lenB {p : Nat × Nat} {x : Fr} {n : Nat} (h1 : (natText p.1).length ≤ n) (h2 : (natText p.2).length ≤ n) (h3 : (numTx x.1.natAbs x.2).length ≤ n + 2) : (termTx p x).length ≤ 3 * (n + 2) + 2 := by
  obtain ⟨a1, a2⟩ := powTx_len (c := 120) h1
  obtain ⟨b1, b2⟩ := powTx_len (c := 121) h2
  refine joinD3 ?_ (by decide) fun t ht => ?_
  · unfold termPs
    rw [List.length_append, List.length_append]
    split
    · simp; omega
    · simp; omega
  · unfold termPs at ht
    rcases List.mem_append.mp ht with h | h
    · rcases List.mem_append.mp h with h | h
      · split at h
        · cases h
        · rw [List.mem_singleton] at h
          subst h
          exact h3
      · exact a2 t h
    · exact b2 t h
theorem termTx_len {p : Nat × Nat} {x : Fr} (h : TxOk p x) : (termTx p x).length ≤ 12100 := by
  have l1 := natText_len h.p1 (by decide)
  have l2 := natText_len h.p2 (by decide)
  have l3 := natText_len h.x1 (by decide)
  have l4 := natText_len h.x2 (by decide)
  have := termTx_lenB (p := p) (x := x) (n := 3900) (by omega) (by omega) (by
    unfold numTx
    split <;> simp <;> omega)
  omega
/-! ### a sum's text -/
def rankD (q : (Nat × Nat) × Fr) : D := .tup false [.tup false [.int (0 - (q.1.1 : Int) - (q.1.2 : Int)), .int (0 - (q.1.1 : Int))], pwD q.1, frD false q.2]
def itemD (q : (Nat × Nat) × Fr) : D := .tup false [pwD q.1, frD false q.2]
def ltR (a b : (Nat × Nat) × Fr) : Bool := D.lt (rankD a) (rankD b)
def sumStep (t : List Nat) (q : (Nat × Nat) × Fr) : List Nat := (t ++ (if q.2.1 < 0 then [45] else if t ≠ [] then [43] else [])) ++ termTx q.1 q.2
def sumTx (l : Tm) : List Nat := if (srt ltR l).foldl sumStep [] ≠ [] then (srt ltR l).foldl sumStep [] else [48]
theorem sumStep_asc {t : List Nat} (h : asc t = true) (q : (Nat × Nat) × Fr) : asc (sumStep t q) = true := by
  unfold sumStep
  refine asc_append (asc_append h ?_) (termTx_asc _ _)
  repeat' split
  all_goals rfl
theorem sumFold_asc : ∀ (l : Tm) {t : List Nat}, asc t = true → asc (l.foldl sumStep t) = true
  | [], _, h => h
  | q :: l, _, h => sumFold_asc l (sumStep_asc h q)
theorem sumTx_asc (l : Tm) : asc (sumTx l) = true := by
  unfold sumTx
  split
  · exact sumFold_asc _ rfl
  · rfl
theorem sumStep_len (t : List Nat) (q : (Nat × Nat) × Fr) {n : Nat} (h : (termTx q.1 q.2).length ≤ n) : (sumStep t q).length ≤ t.length + n + 1 := by
  unfold sumStep
  rw [List.length_append, List.length_append]
  split
  · simp; omega
  · split <;> simp <;> omega
theorem sumFold_len {n : Nat} : ∀ (l : Tm) (t : List Nat), (∀ q ∈ l, (termTx q.1 q.2).length ≤ n) → (l.foldl sumStep t).length ≤ t.length + l.length * (n + 1)
  | [], t, _ => by simp
  | q :: l, t, h => by
    have h1 := sumStep_len t q (h q List.mem_cons_self)
    have h2 := sumFold_len l (sumStep t q) fun z hz => h z (List.mem_cons_of_mem _ hz)
    rw [List.foldl_cons, List.length_cons, Nat.add_mul]
    omega
theorem sumTx_len {n : Nat} {l : Tm} (h : ∀ q ∈ l, (termTx q.1 q.2).length ≤ n) : (sumTx l).length ≤ l.length * (n + 1) + 1 := by
  have := sumFold_len (srt ltR l) [] fun q hq => h q (srt_mem.mp hq)
  rw [srt_len] at this
  unfold sumTx
  split
  · simp at this; omega
  · simp
section
variable {F : Nat → Option Fn}
theorem sortable_rank (l : Tm) : sortable (l.map rankD) = true := by
  cases l with
  | nil => rfl
  | cons x xs =>
    rw [List.map_cons]
    show (firstOk (rankD x) && (rankD x :: xs.map rankD).all fun e => D.data 20 e && D.alike (rankD x) e) = true
    rw [show firstOk (rankD x) = true from rfl, Bool.true_and, ← List.map_cons, List.all_eq_true]
    intro d hd
    obtain ⟨q, _, rfl⟩ := List.mem_map.mp hd
    rfl
def b135 : Ss := Ss.cons (S.asg (T.n 1) (E.bin (BO.add) (E.bin (BO.add) (E.v 1) (E.ite (E.cmp (CO.lt) (E.idx (E.v 4) (E.c (D.int 0))) (E.c (D.int 0))) (E.c (D.str [45])) (E.ite (E.cmp (CO.ne) (E.v 1) (E.c (D.str []))) (E.c (D.str [43])) (E.c (D.str []))))) (E.call 134 (Es.cons (E.v 3) (Es.cons (E.v 4) (Es.nil)))))) (Ss.nil)
theorem sum_loop (h133 : F 133 = some f133) (h134 : F 134 = some f134) (k : Nat) {room : Bool} {r : D} : ∀ (l : Tm) (t : List Nat) (o2 o3 o4 o5 : Option D) (st : Sto), (∀ q ∈ l, TxOk q.1 q.2) → asc t = true → t.length + l.length * 12101 ≤ 1000000 →
    ∃ (u2 u3 u4 : Option D) (z : Sto), forR (T.t3 (T.n 2) (T.n 3) (T.n 4)) (fun δ st => evSs (callF F (k + 2)) room b135 δ st) (l.map rankD) [some r, some (.str t), o2, o3, o4, o5] st = .ok (.nx [some r, some (.str (l.foldl sumStep t)), u2, u3, u4, o5]) (st ++ z)
  | [], t, o2, o3, o4, o5, st, _, _, _ => ⟨o2, o3, o4, [], by rw [List.append_nil]; rfl⟩
  | q :: l, t, o2, o3, o4, o5, st, h, ha, hl => by
    have hq := h q List.mem_cons_self
    have tt := term_tx h133 h134 k (p := q.1) (x := q.2) (q := false) ⟨hq.p1, hq.p2⟩ hq.x1 hq.x0 hq.x2 st
    have tl := termTx_len hq
    have sl := sumStep_len t q tl
    rw [List.length_cons, Nat.add_mul] at hl
    obtain ⟨u2, u3, u4, z, ih⟩ := sum_loop h133 h134 k (room := room) (r := r) l (sumStep t q) (some (.tup false [.int (0 - (q.1.1 : Int) - (q.1.2 : Int)), .int (0 - (q.1.1 : Int))])) (some (pwD q.1)) (some (frD false q.2)) o5 (st ++ [none]) (fun z hz => h z (List.mem_cons_of_mem _ hz)) (sumStep_asc ha q) (by omega)
    refine ⟨u2, u3, u4, [none] ++ z, ?_⟩
    rw [List.map_cons]
    unfold forR
    rw [show asgT (T.t3 (T.n 2) (T.n 3) (T.n 4)) (rankD q) [some r, some (.str t), o2, o3, o4, o5] = some [some r, some (.str t), some (.tup false [.int (0 - (q.1.1 : Int) - (q.1.2 : Int)), .int (0 - (q.1.1 : Int))]), some (pwD q.1), some (frD false q.2), o5] from rfl]
    dsimp only
    have i0 : idxD (frD false q.2) (.int 0) st = .ok (.int q.2.1) st := by unfold frD; exact idx_tup0 _ _ _ _
    have nt : cmpD .ne (.str t) (.str []) = some (decide (t ≠ [])) := ne_str ha (by rfl)
    have st1 : evSs (callF F (k + 2)) room b135 [some r, some (.str t), some (.tup false [.int (0 - (q.1.1 : Int) - (q.1.2 : Int)), .int (0 - (q.1.1 : Int))]), some (pwD q.1), some (frD false q.2), o5] st = .ok (.nx [some r, some (.str (sumStep t q)), some (.tup false [.int (0 - (q.1.1 : Int) - (q.1.2 : Int)), .int (0 - (q.1.1 : Int))]), some (pwD q.1), some (frD false q.2), o5]) (st ++ [none]) := by
      have a1 : ∀ x : List Nat, x.length ≤ 1 → binD .add (.str t) (.str x) st = .ok (.str (t ++ x)) st := fun x hx => add_str (by omega) st
      have a2 : ∀ x : List Nat, x.length ≤ 1 → binD .add (.str (t ++ x)) (.str (termTx q.1 q.2)) (st ++ [none]) = .ok (.str ((t ++ x) ++ termTx q.1 q.2)) (st ++ [none]) := fun x hx => add_str (by rw [List.length_append]; omega) _
      by_cases c1 : q.2.1 < 0
      · have e := a1 [45] (by simp)
        have e2 := a2 [45] (by simp)
        have ss : sumStep t q = (t ++ [45]) ++ termTx q.1 q.2 := by unfold sumStep; rw [if_pos c1]
        rw [ss]
        simp only [b135, evSs_cons, evSs_nil, evS_asg, ev_bin, ev_v1, ev_ite, ev_cmp, ev_idx, ev_v4, ev_c, tst_f, bind_ok, i0, lt_int, okO_s, c1, decide_true, onB_t, e, ev_call, evs_cons, evs_nil, ev_v3, tt, e2, thn_ok]
        rfl
      · by_cases c2 : t = []
        · have e := a1 [] (by simp)
          have e2 := a2 [] (by simp)
          have ss : sumStep t q = (t ++ []) ++ termTx q.1 q.2 := by unfold sumStep; rw [if_neg c1, if_neg (by simp [c2])]
          rw [ss]
          have nt2 : cmpD .ne (.str t) (.str []) = some false := by rw [nt]; simp [c2]
          simp only [b135, evSs_cons, evSs_nil, evS_asg, ev_bin, ev_v1, ev_ite, ev_cmp, ev_idx, ev_v4, ev_c, tst_f, bind_ok, i0, lt_int, okO_s, c1, decide_false, onB_f, nt2, e, ev_call, evs_cons, evs_nil, ev_v3, tt, e2, thn_ok]
          rfl
        · have e := a1 [43] (by simp)
          have e2 := a2 [43] (by simp)
          have ss : sumStep t q = (t ++ [43]) ++ termTx q.1 q.2 := by unfold sumStep; rw [if_neg c1, if_pos (by simp [c2])]
          rw [ss]
          have nt2 : cmpD .ne (.str t) (.str []) = some true := by rw [nt]; simp [c2]
          simp only [b135, evSs_cons, evSs_nil, evS_asg, ev_bin, ev_v1, ev_ite, ev_cmp, ev_idx, ev_v4, ev_c, tst_f, bind_ok, i0, lt_int, okO_s, c1, decide_false, onB_f, onB_t, nt2, e, ev_call, evs_cons, evs_nil, ev_v3, tt, e2, thn_ok]
          rfl
    rw [st1]
    dsimp only
    rw [ih, List.foldl_cons, List.append_assoc]
theorem sum_tx (h133 : F 133 = some f133) (h134 : F 134 = some f134) (h135 : F 135 = some f135) (k : Nat) {l : Tm} (hl : l.length ≤ 80) (hq : ∀ q ∈ l, TxOk q.1 q.2) (st : Sto) : ∃ z, callF F (k + 3) 135 [.lst (l.map itemD)] st = .ok (.str (sumTx l)) (st ++ z) := by
  rw [callF_at [some (.lst (l.map itemD)), none, none, none, none, none] h135 rfl rfl]
  have e1 := lc_ok (call := callF F (k + 2)) (t := false) (δ := [some (.lst (l.map itemD)), some (.str []), none, none, none, none]) (st := st) (st1 := st) (ws := [5]) (tg := T.n 5) (it := I.of (E.v 0)) (cond := Eo.none)
    (e := E.tup (Es.cons (E.tup (Es.cons (E.bin (BO.sub) (E.bin (BO.sub) (E.c (D.int 0)) (E.idx (E.idx (E.v 5) (E.c (D.int 0))) (E.c (D.int 0)))) (E.idx (E.idx (E.v 5) (E.c (D.int 0))) (E.c (D.int 1)))) (Es.cons (E.bin (BO.sub) (E.c (D.int 0)) (E.idx (E.idx (E.v 5) (E.c (D.int 0))) (E.c (D.int 0)))) (Es.nil)))) (Es.cons (E.idx (E.v 5) (E.c (D.int 0))) (Es.cons (E.idx (E.v 5) (E.c (D.int 1))) (Es.nil)))))
    (ds := l.map itemD) (fun _ => true) (fun d => match d with | .tup _ [.tup j [.int a, .int b], y] => .tup false [.tup false [.int (0 - a - b), .int (0 - a)], .tup j [.int a, .int b], y] | _ => .non)
    (by simp [seqOf]) (by decide) (fun d hd => by
      obtain ⟨q, _, rfl⟩ := List.mem_map.mp hd
      refine ⟨[some (.lst (l.map itemD)), some (.str []), none, none, none, some (itemD q)], rfl, rfl, fun _ => ?_⟩
      simp [itemD, pwD, fits2, fits3]) (by rw [List.length_map]; exact Nat.ble_eq_true_of_le (by omega))
  have e2 : ((l.map itemD).filter (fun _ => true)).map (fun d => match d with | .tup _ [.tup j [.int a, .int b], y] => D.tup false [.tup false [.int (0 - a - b), .int (0 - a)], .tup j [.int a, .int b], y] | _ => .non) = l.map rankD := by
    rw [show (l.map itemD).filter (fun _ => true) = l.map itemD from by simp, List.map_map]
    rfl
  rw [e2] at e1
  have e3 : bfD .sorted [.lst (l.map rankD)] st = .ok (.lst ((srt ltR l).map rankD)) st := by
    show okb (sortable (l.map rankD)) (.lst (isort D.lt (l.map rankD))) st = _
    rw [sortable_rank, isort_mapB]; rfl
  obtain ⟨u2, u3, u4, z, lp⟩ := sum_loop h133 h134 k (room := Nat.blt 2 (k + 2)) (r := .lst (l.map itemD)) (srt ltR l) [] none none none none st (fun q h => hq q (srt_mem.mp h)) rfl (by rw [srt_len]; simp; omega)
  refine ⟨z, ?_⟩
  rw [show f135.body = Ss.cons (S.asg (T.n 1) (E.c (D.str []))) (Ss.cons (S.fr (T.t3 (T.n 2) (T.n 3) (T.n 4)) (I.of (E.bf (BF.sorted) (Es.cons (E.lc [5] (T.n 5) (I.of (E.v 0)) (Eo.none) (E.tup (Es.cons (E.tup (Es.cons (E.bin (BO.sub) (E.bin (BO.sub) (E.c (D.int 0)) (E.idx (E.idx (E.v 5) (E.c (D.int 0))) (E.c (D.int 0)))) (E.idx (E.idx (E.v 5) (E.c (D.int 0))) (E.c (D.int 1)))) (Es.cons (E.bin (BO.sub) (E.c (D.int 0)) (E.idx (E.idx (E.v 5) (E.c (D.int 0))) (E.c (D.int 0)))) (Es.nil)))) (Es.cons (E.idx (E.v 5) (E.c (D.int 0))) (Es.cons (E.idx (E.v 5) (E.c (D.int 1))) (Es.nil)))))) (Es.nil)))) b135)
    (Ss.cons (S.ret (E.ite (E.cmp (CO.ne) (E.v 1) (E.c (D.str []))) (E.v 1) (E.c (D.str [48])))) (Ss.nil))) from rfl]
  rw [evSs_cons, evS_asg, ev_c, tst_f, thn_ok, show asgT (T.n 1) (D.str []) [some (.lst (l.map itemD)), none, none, none, none, none] = some [some (.lst (l.map itemD)), some (.str []), none, none, none, none] from rfl, nxt_s, seq_nx, evSs_cons, evS_fr]
  have ei : evI (callF F (k + 2)) (I.of (E.bf (BF.sorted) (Es.cons (E.lc [5] (T.n 5) (I.of (E.v 0)) (Eo.none) (E.tup (Es.cons (E.tup (Es.cons (E.bin (BO.sub) (E.bin (BO.sub) (E.c (D.int 0)) (E.idx (E.idx (E.v 5) (E.c (D.int 0))) (E.c (D.int 0)))) (E.idx (E.idx (E.v 5) (E.c (D.int 0))) (E.c (D.int 1)))) (Es.cons (E.bin (BO.sub) (E.c (D.int 0)) (E.idx (E.idx (E.v 5) (E.c (D.int 0))) (E.c (D.int 0)))) (Es.nil)))) (Es.cons (E.idx (E.v 5) (E.c (D.int 0))) (Es.cons (E.idx (E.v 5) (E.c (D.int 1))) (Es.nil)))))) (Es.nil)))) [some (.lst (l.map itemD)), some (.str []), none, none, none, none] st = .ok ((srt ltR l).map rankD) st := by
    simp only [evI_of, ev_bf, evs_cons, evs_nil, e1, tst_f, bind_ok, e3, seqOf, okL_s]
  rw [ei, thn_ok, lp, seq_nx]
  have nt : cmpD .ne (.str ((srt ltR l).foldl sumStep [])) (.str []) = some (decide ((srt ltR l).foldl sumStep [] ≠ [])) := ne_str (sumFold_asc _ rfl) (by rfl)
  unfold sumTx
  generalize (srt ltR l).foldl sumStep [] = t at nt ⊢
  by_cases c : t = []
  · subst c
    simp [show cmpD .ne (.str []) (.str []) = some false from rfl]
  · simp [nt, c]
/-! ### first_refused -/
theorem refused_line (TB : Tab F) {s : List Nat} (h : Ok s) (hl : s.length ≤ 1300) (k : Nat) (hp : PwOk [120] 8 false s 0) (st : Sto) : ∃ z, callF F (k + 11) 96 [.str [108, 105, 110, 101], .str s] st = .ok (optD (refuse [120] 8 s)) (st ++ z) := by
  rw [callF_at [some (.str [108, 105, 110, 101]), some (.str s), none] TB.h96 rfl rfl, show Nat.blt 2 (k + 10) = true from blt_off (k + 7)]
  have c1 : isTy .str (.str [108, 105, 110, 101]) = some true := rfl
  have c2 : cmpD .notin (.str [108, 105, 110, 101]) (.tup true [D.str [108, 105, 110, 101], D.str [115, 113, 117, 97, 114, 101, 115], D.str [115, 117, 114, 102, 97, 99, 101], D.str [116, 114, 101, 101]]) = some false := by rfl
  have n1 : ∀ st, callF F (k + 10) 37 [.str s] st = .ok .non st := fun st => need_ok TB.h37 h (k + 6) st
  obtain ⟨z, g⟩ := gone_line TB h hl k hp st
  refine ⟨z, ?_⟩
  have b1 : ∀ st, bfD (.isinst .str) [.str [108, 105, 110, 101]] st = .ok (.bl true) st := fun st => rfl
  have s1 : evSs (callF F (k + 10)) true (Ss.cons (S.ex (E.call 92 (Es.cons (E.v 0) (Es.cons (E.v 1) (Es.nil))))) (Ss.nil)) [some (.str [108, 105, 110, 101]), some (.str s), none] st = match refuse [120] 8 s with
      | none => .ok (.nx [some (.str [108, 105, 110, 101]), some (.str s), none]) (st ++ z)
      | some e => .exc 0 (.int e) [some (.str [108, 105, 110, 101]), some (.str s), none] (st ++ z) := by
    simp only [evSs_cons, evSs_nil, evS_ex, ev_call, evs_cons, evs_nil, ev_v0, ev_v1, tst_f, bind_ok, g]
    cases refuse [120] 8 s <;> rfl
  have s2 : evS (callF F (k + 10)) true (S.tryPl 0 2 (Ss.cons (S.ex (E.call 92 (Es.cons (E.v 0) (Es.cons (E.v 1) (Es.nil))))) (Ss.nil))) [some (.str [108, 105, 110, 101]), some (.str s), none] st = match refuse [120] 8 s with
      | none => .ok (.nx [some (.str [108, 105, 110, 101]), some (.str s), none]) (st ++ z)
      | some e => .ok (.rt (.int e)) (st ++ z) := by
    show (match evSs (callF F (k + 10)) true (Ss.cons (S.ex (E.call 92 (Es.cons (E.v 0) (Es.cons (E.v 1) (Es.nil))))) (Ss.nil)) [some (.str [108, 105, 110, 101]), some (.str s), none] st with
      | .exc c' p δ1 st1 => match Nat.beq 0 0 && Nat.beq c' 0 && Nat.blt 2 δ1.length with
        | true => RS.ok (.rt p) st1
        | false => .bad
      | r => r) = _
    rw [s1]
    cases refuse [120] 8 s <;> rfl
  simp only [f96]
  rw [evSs_cons]
  simp only [evS_ite, ev_or, ev_not, ev_bf, evs_cons, evs_nil, ev_v0, ev_c, tst_f, tst_t, bind_ok, b1, truth_b, okO_s, onB_t, onB_f, ev_cmp, c2, thn_ok, evSs_nil, seq_nx]
  rw [evSs_cons]
  simp only [evS_ex, ev_call, evs_cons, evs_nil, ev_v1, tst_f, bind_ok, n1, thn_ok, seq_nx]
  rw [evSs_cons, s2]
  cases refuse [120] 8 s <;> rfl
theorem refused_surf (TB : Tab F) {s : List Nat} (h : Ok s) (hl : s.length ≤ 1300) (k : Nat) (hp : PwOk [120, 121] 4 false s 0) (st : Sto) : callF F (k + 11) 96 [.str [115, 117, 114, 102, 97, 99, 101], .str s] st = .ok (optD (refuse [120, 121] 4 s)) st := by
  rw [callF_at [some (.str [115, 117, 114, 102, 97, 99, 101]), some (.str s), none] TB.h96 rfl rfl, show Nat.blt 2 (k + 10) = true from blt_off (k + 7)]
  have c2 : cmpD .notin (.str [115, 117, 114, 102, 97, 99, 101]) (.tup true [D.str [108, 105, 110, 101], D.str [115, 113, 117, 97, 114, 101, 115], D.str [115, 117, 114, 102, 97, 99, 101], D.str [116, 114, 101, 101]]) = some false := by rfl
  have n1 : ∀ st, callF F (k + 10) 37 [.str s] st = .ok .non st := fun st => need_ok TB.h37 h (k + 6) st
  have g := gone_surf TB h hl k hp st
  have b1 : ∀ st, bfD (.isinst .str) [.str [115, 117, 114, 102, 97, 99, 101]] st = .ok (.bl true) st := fun st => rfl
  have s1 : evSs (callF F (k + 10)) true (Ss.cons (S.ex (E.call 92 (Es.cons (E.v 0) (Es.cons (E.v 1) (Es.nil))))) (Ss.nil)) [some (.str [115, 117, 114, 102, 97, 99, 101]), some (.str s), none] st = match refuse [120, 121] 4 s with
      | none => .ok (.nx [some (.str [115, 117, 114, 102, 97, 99, 101]), some (.str s), none]) st
      | some e => .exc 0 (.int e) [some (.str [115, 117, 114, 102, 97, 99, 101]), some (.str s), none] st := by
    simp only [evSs_cons, evSs_nil, evS_ex, ev_call, evs_cons, evs_nil, ev_v0, ev_v1, tst_f, bind_ok, g]
    cases refuse [120, 121] 4 s <;> rfl
  have s2 : evS (callF F (k + 10)) true (S.tryPl 0 2 (Ss.cons (S.ex (E.call 92 (Es.cons (E.v 0) (Es.cons (E.v 1) (Es.nil))))) (Ss.nil))) [some (.str [115, 117, 114, 102, 97, 99, 101]), some (.str s), none] st = match refuse [120, 121] 4 s with
      | none => .ok (.nx [some (.str [115, 117, 114, 102, 97, 99, 101]), some (.str s), none]) st
      | some e => .ok (.rt (.int e)) st := by
    show (match evSs (callF F (k + 10)) true (Ss.cons (S.ex (E.call 92 (Es.cons (E.v 0) (Es.cons (E.v 1) (Es.nil))))) (Ss.nil)) [some (.str [115, 117, 114, 102, 97, 99, 101]), some (.str s), none] st with
      | .exc c' p δ1 st1 => match Nat.beq 0 0 && Nat.beq c' 0 && Nat.blt 2 δ1.length with
        | true => RS.ok (.rt p) st1
        | false => .bad
      | r => r) = _
    rw [s1]
    cases refuse [120, 121] 4 s <;> rfl
  simp only [f96]
  rw [evSs_cons]
  simp only [evS_ite, ev_or, ev_not, ev_bf, evs_cons, evs_nil, ev_v0, ev_c, tst_f, tst_t, bind_ok, b1, truth_b, okO_s, onB_t, onB_f, ev_cmp, c2, thn_ok, evSs_nil, seq_nx]
  rw [evSs_cons]
  simp only [evS_ex, ev_call, evs_cons, evs_nil, ev_v1, tst_f, bind_ok, n1, thn_ok, seq_nx]
  rw [evSs_cons, s2]
  cases refuse [120, 121] 4 s <;> rfl
end
/-! ### powers in short texts -/
theorem powP_le {most : Nat} {s : List Nat} {i a j : Nat} (hm : 1 ≤ most) (h : powP most s i = .ok a j) : a ≤ most := by
  unfold powP at h
  split at h
  · exact whole_le h
  · injection h with h1 h2; omega
theorem factP_le {U : List Nat} {most : Nat} {fr : Bool} {s : List Nat} {i : Nat} {v : FV} {j : Nat} (hm : 1 ≤ most) (h : factP U most fr s i = .ok v j) : v.1.1 ≤ most ∧ v.1.2 ≤ most := by
  unfold factP at h
  split at h
  · split at h
    · cases e : fracP s (sk s i) FAR with
      | err j => rw [e] at h; cases h
      | ok b l => rw [e, P.bind_ok] at h; injection h with h1 h2; subst h1; exact ⟨Nat.zero_le _, Nat.zero_le _⟩
    · cases e : whole s (sk s i) 0 1000000 with
      | err j => rw [e] at h; cases h
      | ok b l => rw [e, P.bind_ok] at h; injection h with h1 h2; subst h1; exact ⟨Nat.zero_le _, Nat.zero_le _⟩
  · cases e : wordP U s (sk s i) with
    | err j => rw [e] at h; cases h
    | ok b l =>
      rw [e, P.bind_ok] at h
      cases e2 : powP most s l with
      | err j => rw [e2] at h; cases h
      | ok b2 l2 =>
        rw [e2, P.bind_ok] at h
        have := powP_le hm e2
        injection h with h1 h2
        subst h1
        dsimp only
        split
        · exact ⟨this, Nat.zero_le _⟩
        · exact ⟨Nat.zero_le _, this⟩
theorem termP_le {U : List Nat} {most : Nat} {fr : Bool} {s : List Nat} {i : Nat} {v : FV} {j : Nat} (hm : 1 ≤ most) (h : termP U most fr s i = .ok v j) : 2 * v.1.1 ≤ most * (j - i + 1) ∧ 2 * v.1.2 ≤ most * (j - i + 1) ∧ j ≤ s.length := by
  unfold termP at h
  cases e : factP U most fr s i with
  | err l => rw [e] at h; cases h
  | ok w l =>
    rw [e, P.bind_ok] at h
    have h1 := factP_end e
    have h2 := factP_le hm e
    have base : most * 2 ≤ most * (l - i + 1) := Nat.mul_le_mul_left _ (by omega)
    refine (loopP_inv (fun v j => i < j ∧ 2 * v.1.1 ≤ most * (j - i + 1) ∧ 2 * v.1.2 ≤ most * (j - i + 1) ∧ j ≤ s.length) ?_ ⟨h1.1, by omega, by omega, h1.2⟩ h).2
    intro x l y j ⟨k0, k1, k2, k3⟩ q e3
    unfold termS at e3
    cases e4 : factP U most fr s (sk s l + 1) with
    | err l => rw [e4] at e3; cases e3
    | ok w l2 =>
      rw [e4, P.bind_ok] at e3
      have h3 := factP_end e4
      have h4 := factP_le hm e4
      have h5 := sk_ge s l
      injection e3 with z1 z2
      subst z1 z2
      have : most * (l - i + 1) + most * 2 ≤ most * (l2 - i + 1) := by
        rw [← Nat.mul_add]
        exact Nat.mul_le_mul_left _ (by omega)
      refine ⟨by omega, ?_, ?_, h3.2⟩
      · show 2 * (x.1.1 + w.1.1) ≤ _; omega
      · show 2 * (x.1.2 + w.1.2) ≤ _; omega
theorem pwOk_short {U : List Nat} {most : Nat} {fr : Bool} {s : List Nat} (hm : 1 ≤ most) (hm8 : most ≤ 8) (hs : s.length ≤ 60) (i0 : Nat) : PwOk U most fr s i0 := by
  intro i v j _ h
  obtain ⟨h1, h2, h3⟩ := termP_le hm h
  have : most * (j - i + 1) ≤ 8 * 61 := Nat.mul_le_mul hm8 (by omega)
  omega
end PVL
set_option Elab.async false
set_option linter.all false
set_option maxRecDepth 10000
/-! PL14: what is read where a text stands. -/
namespace PVL
open PV
variable {s t u : List Nat} {i : Nat}
theorem at_get {c : Nat} (h : s.drop i = c :: t) : s[i]? = some c := by
  have := congrArg (fun l => l[0]?) h
  simpa using this
theorem at_next {c : Nat} (h : s.drop i = c :: t) : s.drop (i + 1) = t := by
  rw [← List.drop_drop, h]; rfl
theorem at_none (h : s.drop i = []) : s[i]? = none := by
  have := congrArg (fun l => l[0]?) h
  simpa using this
theorem at_app (h : s.drop i = u ++ t) : s.drop (i + u.length) = t := by
  rw [← List.drop_drop, h]; simp
def bl (b : Nat) : List Nat := List.replicate b 32
theorem bl_len (b : Nat) : (bl b).length = b := by simp [bl]
/-- no blank ahead -/
def NoB (t : List Nat) : Prop := t.head? ≠ some 32
theorem blanks_nob (h : NoB t) : blanks t = 0 := by
  cases t with
  | nil => rfl
  | cons c r =>
    have : c ≠ 32 := fun z => h (by simp [z])
    simp [blanks, this]
theorem blanks_bl (b : Nat) (h : NoB t) : blanks (bl b ++ t) = b := by
  induction b with
  | zero => simpa [bl] using blanks_nob h
  | succ b ih =>
    have : bl (b + 1) ++ t = 32 :: (bl b ++ t) := by simp [bl, List.replicate_succ]
    rw [this]
    simp [blanks, ih]
    try omega
theorem sk_at {b : Nat} (h : s.drop i = bl b ++ t) (n : NoB t) : sk s i = i + b := by
  unfold sk
  rw [h, blanks_bl b n]
theorem sk_drop {b : Nat} (h : s.drop i = bl b ++ t) (n : NoB t) : s.drop (sk s i) = t := by
  rw [sk_at h n]
  have := at_app h
  rwa [bl_len] at this
theorem sgn_at {b c : Nat} (h : s.drop i = bl b ++ c :: t) (n : c ≠ 32) : sgn s i = [c] := by
  have nb : NoB (c :: t) := by simp [NoB, n]
  rw [sgn_eq]
  exact at_get (sk_drop h nb)
theorem sgn_end {b : Nat} (h : s.drop i = bl b) : sgn s i = [] := by
  have h' : s.drop i = bl b ++ [] := by simpa using h
  have nb : NoB [] := by simp [NoB]
  unfold sgn
  rw [at_none (sk_drop h' nb)]
/-! ### numbers -/
def dval (f : Nat) (ds : List Nat) : Nat := ds.foldl (fun f c => 10 * f + (c - 48)) f
theorem dval_ge : ∀ (ds : List Nat) (f : Nat), f ≤ dval f ds
  | [], f => Nat.le_refl _
  | c :: ds, f => Nat.le_trans (by omega) (dval_ge ds (10 * f + (c - 48)))
theorem digs_run : ∀ (f n : Nat) (acc : List Nat), n < 2 ^ (f + 1) → ∃ c ds, digs (f + 1) n acc = c :: (ds ++ acc) ∧ isDig c = true ∧ (∀ d ∈ ds, isDig d = true) ∧ dval (c - 48) ds = n ∧ (n ≠ 0 → c ≠ 48) ∧ (c ≠ 48 ∨ ds = [])
  | f, n, acc, h => by
    unfold digs
    by_cases c : n < 10
    · rw [if_pos c]
      refine ⟨48 + n, [], rfl, by simp [isDig]; omega, fun d h => (nomatch h), by simp [dval], fun h => by omega, .inr rfl⟩
    · rw [if_neg c]
      cases f with
      | zero => exact absurd h (by omega)
      | succ f =>
        obtain ⟨a, ds, e, h1, h2, h3, h4, _⟩ := digs_run f (n / 10) ((48 + n % 10) :: acc) (by rw [Nat.pow_succ] at h; omega)
        refine ⟨a, ds ++ [48 + n % 10], by rw [e]; simp, h1, fun d hd => ?_, ?_, fun _ => h4 (by omega), .inl (h4 (by omega))⟩
        · rcases List.mem_append.mp hd with q | q
          · exact h2 d q
          · simp at q
            subst q
            simp [isDig]
            omega
        · unfold dval at h3 ⊢
          rw [List.foldl_append, h3]
          simp
          omega
theorem natText_run (n : Nat) : ∃ c ds, natText n = c :: ds ∧ isDig c = true ∧ (∀ d ∈ ds, isDig d = true) ∧ dval (c - 48) ds = n ∧ (n ≠ 0 → c ≠ 48) ∧ (c ≠ 48 ∨ ds = []) := by
  obtain ⟨c, ds, e, r⟩ := digs_run n.log2 n [] Nat.lt_log2_self
  exact ⟨c, ds, by unfold natText; rw [e]; simp, r⟩
/-- no figure ahead -/
def NoD (t : List Nat) : Prop := ∀ c, t.head? = some c → isDig c = false
theorem dgs_run {most : Nat} {t : List Nat} (ht : NoD t) : ∀ (ds : List Nat) (f i : Nat), (∀ d ∈ ds, isDig d = true) → (f ≠ 0 ∨ ds = []) → dval f ds ≤ most → dgs most f i (ds ++ t) = .ok (dval f ds) (i + ds.length)
  | [], f, i, _, _, _ => by
    cases t with
    | nil => rfl
    | cons c r =>
      have h := ht c rfl
      simp [dgs, h, dval]
  | c :: ds, f, i, hd, hf, hm => by
    have h1 := hd c List.mem_cons_self
    have hf : f ≠ 0 := by rcases hf with q | q <;> first | exact q | cases q
    have hm' : dval (10 * f + (c - 48)) ds ≤ most := hm
    have hge := dval_ge ds (10 * f + (c - 48))
    show dgs most f i (c :: (ds ++ t)) = _
    unfold dgs
    rw [if_pos h1, if_neg (by omega), dgs_run ht ds _ (i + 1) (fun d h => hd d (List.mem_cons_of_mem _ h)) (.inl (by omega)) hm']
    simp [dval]
    omega
theorem whole_run {s t : List Nat} {i n least most : Nat} (h : s.drop i = natText n ++ t) (ht : NoD t) (h1 : least ≤ n) (h2 : n ≤ most) : whole s i least most = .ok n (i + (natText n).length) := by
  obtain ⟨c, ds, e, k1, k2, k3, k4, k5⟩ := natText_run n
  rw [e] at h ⊢
  have hc : s[i]? = some c := at_get h
  have hn : s.drop (i + 1) = ds ++ t := at_next h
  have hz : c - 48 ≠ 0 ∨ ds = [] := by
    have k := (dig_cases k1).1
    rcases k5 with q | q
    · exact .inl (by omega)
    · exact .inr q
  unfold whole
  rw [hc]
  dsimp only
  have hle : c - 48 ≤ n := by rw [← k3]; exact dval_ge _ _
  rw [if_neg (by
    rintro (z | ⟨z1, z2⟩)
    · rw [k1] at z; cases z
    · exact k4 (by omega) z2), if_neg (by omega), hn, dgs_run ht ds _ _ k2 hz (by rw [k3]; exact h2), k3]
  simp
  omega
/-! ### what comes next -/
def nxt (t : List Nat) : Option Nat := t[blanks t]?
theorem nxt_at (s : List Nat) (i : Nat) : s[sk s i]? = nxt (s.drop i) := by
  unfold sk nxt
  rw [List.getElem?_drop]
theorem nxt_bl {b c : Nat} {t : List Nat} (n : c ≠ 32) : nxt (bl b ++ c :: t) = some c := by
  have nb : NoB (c :: t) := by simp [NoB, n]
  unfold nxt
  rw [blanks_bl b nb, List.getElem?_append_right (by simp [bl])]
  simp [bl]
theorem nxt_end {b : Nat} : nxt (bl b) = none := by
  have nb : NoB [] := by simp [NoB]
  have h := blanks_bl b nb
  simp only [List.append_nil] at h
  unfold nxt
  rw [h]
  simp [bl]
theorem sgn_nxt (s : List Nat) (i c : Nat) : sgn s i = [c] ↔ nxt (s.drop i) = some c := by
  rw [sgn_eq, nxt_at]
theorem pow_one {most : Nat} {s : List Nat} {i : Nat} (h : nxt (s.drop i) ≠ some 94) : powP most s i = .ok 1 i := by
  unfold powP
  rw [if_neg (fun z => h ((sgn_nxt s i 94).mp z))]
theorem natText_nob (n : Nat) (t : List Nat) : NoB (natText n ++ t) := by
  obtain ⟨c, ds, e, k1, _⟩ := natText_run n
  have := (dig_cases k1).1
  rw [e]
  simp [NoB]
  omega
theorem pow_run {most p : Nat} {s t : List Nat} {i b b' : Nat} (h : s.drop i = bl b ++ 94 :: (bl b' ++ (natText p ++ t))) (ht : NoD t) (hp : p ≤ most) : powP most s i = .ok p (i + b + 1 + b' + (natText p).length) := by
  have nb : NoB (94 :: (bl b' ++ (natText p ++ t))) := by simp [NoB]
  have e1 := sk_at h nb
  have e2 := at_next (sk_drop h nb)
  unfold powP
  rw [if_pos ((sgn_nxt s i 94).mpr (by rw [h]; exact nxt_bl (by decide)))]
  have e3 := sk_at e2 (natText_nob p t)
  have e4 := sk_drop e2 (natText_nob p t)
  rw [whole_run e4 ht (Nat.zero_le _) hp, e3, e1]
end PVL
set_option Elab.async false
set_option linter.all false
set_option maxRecDepth 10000
/-! PL15: factors and terms read. -/
namespace PVL
open PV
/-- what may stand behind a factor -/
structure StopF (t : List Nat) : Prop where
  nd : NoD t
  np : nxt t ≠ some 94
  nc : t.head? ≠ some 58
def FacR (U : List Nat) (most : Nat) (fr : Bool) (u : List Nat) (v : FV) : Prop := ∀ (s : List Nat) (i : Nat) (t : List Nat), s.drop i = u ++ t → StopF t → factP U most fr s i = .ok v (i + u.length)
theorem dgAt_some {s : List Nat} {i c : Nat} (h : s[i]? = some c) : dgAt s i = isDig c := by unfold dgAt; rw [h]
theorem fac_num {U : List Nat} {most b n : Nat} (hn : n ≤ 1000000) : FacR U most false (bl b ++ natText n) ((0, 0), ((n : Int), 1), false) := by
  intro s i t h st
  rw [List.append_assoc] at h
  have e1 := sk_at h (natText_nob n t)
  have e2 := sk_drop h (natText_nob n t)
  obtain ⟨c, ds, e, k1, _⟩ := natText_run n
  have hc : s[sk s i]? = some c := at_get (t := ds ++ t) (by rw [e2, e]; rfl)
  unfold factP
  rw [dgAt_some hc, if_pos k1, if_neg (by simp), whole_run e2 st.nd (Nat.zero_le _) hn, e1]
  simp [bl]
  omega
theorem word_run {U s t : List Nat} {i c : Nat} (h : s.drop i = c :: t) (hc : c ∈ U) (n : c ≠ 32) : wordP U s i = .ok c (i + 1) := by
  have e := sk_some (at_get h) n
  unfold wordP
  rw [e, at_get h]
  simp [hc]
theorem fac_one {U : List Nat} {most b c : Nat} {fr : Bool} (hc : c ∈ U) (n : c ≠ 32) (d : isDig c = false) : FacR U most fr (bl b ++ [c]) (if c = 120 then (1, 0) else (0, 1), (1, 1), true) := by
  intro s i t h st
  rw [List.append_assoc] at h
  have nb : NoB ([c] ++ t) := by simp [NoB, n]
  have e1 := sk_at h nb
  have e2 : s.drop (sk s i) = c :: t := sk_drop h nb
  unfold factP
  rw [dgAt_some (at_get e2), d, if_neg (by simp), word_run e2 hc n]
  have e3 := at_next e2
  simp only [P.bind_ok]
  rw [pow_one (by rw [e3]; exact st.np)]
  simp only [P.bind_ok]
  rw [e1]
  simp [bl]
  omega
theorem fac_pow {U : List Nat} {most b b1 b2 c p : Nat} {fr : Bool} (hc : c ∈ U) (n : c ≠ 32) (d : isDig c = false) (hp : p ≤ most) : FacR U most fr (bl b ++ c :: (bl b1 ++ 94 :: (bl b2 ++ natText p))) (if c = 120 then (p, 0) else (0, p), (1, 1), true) := by
  intro s i t h st
  have h : s.drop i = bl b ++ (c :: (bl b1 ++ 94 :: (bl b2 ++ (natText p ++ t)))) := by rw [h]; simp
  have nb : NoB (c :: (bl b1 ++ 94 :: (bl b2 ++ (natText p ++ t)))) := by simp [NoB, n]
  have e1 := sk_at h nb
  have e2 := sk_drop h nb
  unfold factP
  rw [dgAt_some (at_get e2), d, if_neg (by simp), word_run e2 hc n]
  have e3 := at_next e2
  simp only [P.bind_ok]
  rw [pow_run e3 st.nd hp]
  simp only [P.bind_ok]
  rw [e1]
  simp [bl]
  omega
/-! ### terms -/
structure StopT (t : List Nat) : Prop extends StopF t where
  ns : nxt t ≠ some 42
def TermR (U : List Nat) (most : Nat) (fr : Bool) (u : List Nat) (v : FV) : Prop := ∀ (s : List Nat) (i : Nat) (t : List Nat), s.drop i = u ++ t → StopT t → termP U most fr s i = .ok v (i + u.length)
/-- factors behind one another: blanks, a star, a factor -/
def moreTx : List (Nat × List Nat × FV) → List Nat
  | [] => []
  | (b, u, _) :: r => bl b ++ 42 :: (u ++ moreTx r)
def moreV : FV → List (Nat × List Nat × FV) → FV
  | v, [] => v
  | v, (_, _, w) :: r => moreV (joinF v w) r
theorem stop_star {b : Nat} {t : List Nat} : StopF (bl b ++ 42 :: t) := by
  refine ⟨fun c h => ?_, ?_, ?_⟩
  · cases b with
    | zero => simp [bl] at h; subst h; rfl
    | succ b => simp [bl, List.replicate_succ] at h; subst h; rfl
  · rw [nxt_bl (by decide)]; decide
  · cases b with
    | zero => simp [bl]
    | succ b => simp [bl, List.replicate_succ]
theorem stop_more {r : List (Nat × List Nat × FV)} {t : List Nat} (st : StopT t) : StopF (moreTx r ++ t) := by
  cases r with
  | nil => exact st.toStopF
  | cons q r =>
    obtain ⟨b, u, w⟩ := q
    show StopF ((bl b ++ 42 :: (u ++ moreTx r)) ++ t)
    rw [List.append_assoc]
    exact stop_star
theorem loop_more {U : List Nat} {most : Nat} {fr : Bool} {s t : List Nat} (st : StopT t) : ∀ (r : List (Nat × List Nat × FV)) (v : FV) (j m : Nat), (∀ q ∈ r, FacR U most fr q.2.1 q.2.2) → s.drop j = moreTx r ++ t → r.length < m → loopP (termC s) (termS U most fr s) m v j = .ok (moreV v r) (j + (moreTx r).length)
  | [], v, j, m, _, h, hm => by
    cases m with
    | zero => rfl
    | succ m =>
      have h : s.drop j = t := h
      unfold loopP
      have e : termC s v j = false := by
        unfold termC
        rw [decide_eq_false_iff_not, sgn_nxt, h]
        exact st.ns
      rw [e]
      simp [moreV, moreTx]
  | (b, u, w) :: r, v, j, m, hq, h, hm => by
    cases m with
    | zero => simp at hm
    | succ m =>
      have h : s.drop j = bl b ++ 42 :: (u ++ (moreTx r ++ t)) := by rw [h]; simp [moreTx]
      have nb : NoB (42 :: (u ++ (moreTx r ++ t))) := by simp [NoB]
      have e1 := sk_at h nb
      have e2 := at_next (sk_drop h nb)
      unfold loopP
      have e : termC s v j = true := by
        unfold termC
        rw [decide_eq_true_eq, sgn_nxt, h]
        exact nxt_bl (by decide)
      rw [e, if_pos rfl]
      have e4 : termS U most fr s v j = .ok (joinF v w) (sk s j + 1 + u.length) := by
        unfold termS
        rw [hq _ List.mem_cons_self s (sk s j + 1) (moreTx r ++ t) e2 (stop_more st)]
        rfl
      rw [e4, P.bind_ok]
      have e3 := at_app e2
      rw [loop_more st r (joinF v w) _ m (fun q hh => hq q (List.mem_cons_of_mem _ hh)) e3 (by simpa using hm), e1]
      simp [moreV, moreTx, bl]
      omega
theorem more_len : ∀ r : List (Nat × List Nat × FV), r.length ≤ (moreTx r).length
  | [] => Nat.le_refl _
  | (b, u, w) :: r => by
    have := more_len r
    simp [moreTx]
    omega
theorem term_run {U : List Nat} {most : Nat} {fr : Bool} {u : List Nat} {v : FV} (hu : FacR U most fr u v) (r : List (Nat × List Nat × FV)) (hr : ∀ q ∈ r, FacR U most fr q.2.1 q.2.2) : TermR U most fr (u ++ moreTx r) (moreV v r) := by
  intro s i t h st
  rw [List.append_assoc] at h
  unfold termP
  rw [hu s i _ h (stop_more st)]
  simp only [P.bind_ok]
  have e := at_app h
  have hl : (moreTx r).length ≤ s.length := by
    have := congrArg List.length e
    simp at this
    omega
  rw [loop_more st r v _ _ hr e (by have := more_len r; omega)]
  simp
  omega
end PVL
set_option Elab.async false
set_option linter.all false
set_option maxRecDepth 10000
/-! PL16: sums of terms read. -/
namespace PVL
open PV
/-- what may stand behind a sum -/
structure StopS (t : List Nat) : Prop extends StopT t where
  npl : nxt t ≠ some 43
  nmi : nxt t ≠ some 45
/-- terms behind one another: blanks, a sign, a term -/
def sgC (g : Int) : Nat := if g = 1 then 43 else 45
def tailTx : List (Nat × Int × List Nat × FV) → List Nat
  | [] => []
  | (b, g, u, _) :: r => bl b ++ sgC g :: (u ++ tailTx r)
def sumV : Tm → List (Nat × Int × List Nat × FV) → Tm
  | l, [] => l
  | l, (_, g, _, v) :: r => sumV (addT l g v) r
theorem stop_sign {b c : Nat} {t : List Nat} (hc : c = 43 ∨ c = 45) : StopT (bl b ++ c :: t) := by
  have h32 : c ≠ 32 := by omega
  refine ⟨⟨fun d h => ?_, ?_, ?_⟩, ?_⟩
  · cases b with
    | zero => simp [bl] at h; subst h; rcases hc with q | q <;> subst q <;> rfl
    | succ b => simp [bl, List.replicate_succ] at h; subst h; rfl
  · rw [nxt_bl h32]; simp; omega
  · cases b with
    | zero => simp [bl]; omega
    | succ b => simp [bl, List.replicate_succ]
  · rw [nxt_bl h32]; simp; omega
theorem sgC_or (g : Int) : sgC g = 43 ∨ sgC g = 45 := by unfold sgC; split <;> simp
theorem stop_tail {r : List (Nat × Int × List Nat × FV)} {t : List Nat} (st : StopS t) : StopT (tailTx r ++ t) := by
  cases r with
  | nil => exact st.toStopT
  | cons q r =>
    obtain ⟨b, g, u, w⟩ := q
    show StopT ((bl b ++ sgC g :: (u ++ tailTx r)) ++ t)
    rw [List.append_assoc]
    exact stop_sign (sgC_or g)
theorem loop_sum {U : List Nat} {most : Nat} {fr : Bool} {s t : List Nat} (st : StopS t) : ∀ (r : List (Nat × Int × List Nat × FV)) (l : Tm) (g : Int) (u : List Nat) (v : FV) (j m : Nat), TermR U most fr u v → (∀ q ∈ r, (q.2.1 = 1 ∨ q.2.1 = -1) ∧ TermR U most fr q.2.2.1 q.2.2.2) → s.drop j = u ++ (tailTx r ++ t) → r.length < m →
    termsLoop U most fr s m l g j = .ok (sumV (addT l g v) r) (j + u.length + (tailTx r).length)
  | r, l, g, u, v, j, 0, _, _, _, hm => by omega
  | [], l, g, u, v, j, m + 1, hu, _, h, hm => by
    have h : s.drop j = u ++ t := h
    have e := at_app h
    unfold termsLoop
    rw [hu s j t h st.toStopT]
    simp only [P.bind_ok]
    rw [if_neg (fun z => st.npl (by rw [← e]; exact (sgn_nxt _ _ _).mp z)), if_neg (fun z => st.nmi (by rw [← e]; exact (sgn_nxt _ _ _).mp z))]
    simp [sumV, tailTx]
  | (b, g', u', v') :: r, l, g, u, v, j, m + 1, hu, hq, h, hm => by
    have e := at_app h
    have e : s.drop (j + u.length) = bl b ++ sgC g' :: (u' ++ (tailTx r ++ t)) := by rw [e]; simp [tailTx]
    obtain ⟨hg, hu'⟩ := hq _ List.mem_cons_self
    have h32 : sgC g' ≠ 32 := by have := sgC_or g'; omega
    have nb : NoB (sgC g' :: (u' ++ (tailTx r ++ t))) := by simp [NoB, h32]
    have e1 := sk_at e nb
    have e2 := at_next (sk_drop e nb)
    have hn : nxt (s.drop (j + u.length)) = some (sgC g') := by rw [e]; exact nxt_bl h32
    have ih := loop_sum st r (addT l g v) g' u' v' (sk s (j + u.length) + 1) m hu' (fun q hh => hq q (List.mem_cons_of_mem _ hh)) e2 (by simpa using hm)
    unfold termsLoop
    rw [hu s j (tailTx ((b, g', u', v') :: r) ++ t) h (stop_tail st)]
    simp only [P.bind_ok]
    rcases hg with hg | hg
    · have hg : g' = 1 := hg
      subst hg
      have hn : nxt (s.drop (j + u.length)) = some 43 := hn
      rw [if_pos ((sgn_nxt _ _ _).mpr hn), ih, e1]
      simp [sumV, tailTx, bl]
      omega
    · have hg : g' = -1 := hg
      subst hg
      have hn : nxt (s.drop (j + u.length)) = some 45 := hn
      rw [if_neg (fun z => by have := (sgn_nxt _ _ _).mp z; rw [hn] at this; cases this), if_pos ((sgn_nxt _ _ _).mpr hn), ih, e1]
      simp [sumV, tailTx, bl]
      omega
theorem tail_len : ∀ r : List (Nat × Int × List Nat × FV), r.length ≤ (tailTx r).length
  | [] => Nat.le_refl _
  | (b, g, u, w) :: r => by
    have := tail_len r
    simp [tailTx]
    omega
/-- the first term without a sign -/
theorem terms_run {U : List Nat} {most : Nat} {fr : Bool} {s t u : List Nat} {v : FV} {i : Nat} {r : List (Nat × Int × List Nat × FV)} (st : StopS t) (hu : TermR U most fr u v) (hr : ∀ q ∈ r, (q.2.1 = 1 ∨ q.2.1 = -1) ∧ TermR U most fr q.2.2.1 q.2.2.2)
    (h : s.drop i = u ++ (tailTx r ++ t)) (hn : nxt (u ++ (tailTx r ++ t)) ≠ some 45) : termsP U most fr s i = .ok (sumV (addT [] 1 v) r) (i + u.length + (tailTx r).length) := by
  have hl : (tailTx r).length ≤ s.length := by
    have := congrArg List.length h
    simp at this
    omega
  unfold termsP
  rw [if_neg (fun z => hn (by rw [← h]; exact (sgn_nxt _ _ _).mp z)), loop_sum st r [] 1 u v i _ hu hr h (by have := tail_len r; omega)]
/-- the first term behind a - -/
theorem terms_runM {U : List Nat} {most : Nat} {fr : Bool} {s t u : List Nat} {v : FV} {i b : Nat} {r : List (Nat × Int × List Nat × FV)} (st : StopS t) (hu : TermR U most fr u v) (hr : ∀ q ∈ r, (q.2.1 = 1 ∨ q.2.1 = -1) ∧ TermR U most fr q.2.2.1 q.2.2.2)
    (h : s.drop i = bl b ++ 45 :: (u ++ (tailTx r ++ t))) : termsP U most fr s i = .ok (sumV (addT [] (-1) v) r) (i + b + 1 + u.length + (tailTx r).length) := by
  have nb : NoB (45 :: (u ++ (tailTx r ++ t))) := by simp [NoB]
  have e1 := sk_at h nb
  have e2 := at_next (sk_drop h nb)
  have hl : (tailTx r).length ≤ s.length := by
    have := congrArg List.length e2
    simp at this
    omega
  unfold termsP
  rw [if_pos ((sgn_nxt _ _ _).mpr (by rw [h]; exact nxt_bl (by decide))), loop_sum st r [] (-1) u v _ _ hu hr e2 (by have := tail_len r; omega), e1]
end PVL
set_option Elab.async false
set_option linter.all false
set_option maxRecDepth 10000
/-! PL17: what a sum of whole numbers comes to. -/
namespace PVL
open PV
theorem mk_one (a : Int) : mk a 1 = (a, 1) := by
  unfold mk
  have : Int.gcd a 1 = 1 := by simp
  rw [this]
  simp
theorem times_one (a b : Int) : times (a, 1) (b, 1) = (a * b, 1) := by unfold times; simp [mk_one]
theorem plus_one (a b : Int) : plus (a, 1) (b, 1) = (a + b, 1) := by unfold plus; simp [mk_one]
theorem getT_putT (x : Fr) (p q : Nat × Nat) : ∀ l : Tm, getT (putT x p l) q = if q = p then x else getT l q
  | [] => by
    unfold putT getT
    by_cases h : q = p
    · subst h; simp
    · have hb : (q == p) = false := by simpa using h
      simp [List.lookup_cons, hb, h]
  | r :: l => by
    have ih := getT_putT x p q l
    unfold putT
    by_cases h : r.1 = p
    · rw [if_pos h]
      unfold getT at ih ⊢
      by_cases h2 : q = p
      · subst h2; simp
      · have hb : (q == p) = false := by simpa using h2
        have hb2 : (q == r.1) = false := by rw [h]; exact hb
        obtain ⟨r1, r2⟩ := r
        dsimp only at hb2
        simp [List.lookup_cons, hb, hb2, h2]
    · rw [if_neg h]
      unfold getT at ih ⊢
      obtain ⟨r1, r2⟩ := r
      dsimp only at h
      by_cases h2 : q = r1
      · subst h2
        simp [h]
      · have hb : (q == r1) = false := by simpa using h2
        rw [List.lookup_cons, hb, List.lookup_cons, hb]
        exact ih
def cI (l : Tm) (p : Nat × Nat) : Int := (getT l p).1
/-- all of it whole -/
def IntT (l : Tm) : Prop := ∀ p, (getT l p).2 = 1
theorem intT_nil : IntT [] := fun p => rfl
theorem getT_int {l : Tm} (h : IntT l) (p : Nat × Nat) : getT l p = (cI l p, 1) := by
  have := h p
  unfold cI
  rw [← this]
theorem addT_int {l : Tm} (h : IntT l) {g n : Int} {p : Nat × Nat} {k : Bool} : IntT (addT l g (p, (n, 1), k)) ∧ ∀ q, cI (addT l g (p, (n, 1), k)) q = cI l q + if q = p then g * n else 0 := by
  have e : addT l g (p, (n, 1), k) = putT (cI l p + g * n, 1) p l := by
    unfold addT
    rw [getT_int h, times_one, plus_one]
  rw [e]
  refine ⟨fun q => ?_, fun q => ?_⟩
  · rw [getT_putT]
    split
    · rfl
    · exact h q
  · unfold cI
    rw [getT_putT]
    split
    · rename_i z; subst z; rfl
    · simp
theorem putT_nil (x : Fr) (p : Nat × Nat) (l : Tm) : putT x p l ≠ [] := putT_ne x p l
/-- whole terms: (sign, powers, number) -/
def intR : List (Nat × Int × List Nat × FV) → List (Int × (Nat × Nat) × Int) := fun r => r.map fun q => (q.2.1, q.2.2.2.1, q.2.2.2.2.1.1)
def cSum (p : Nat × Nat) : List (Int × (Nat × Nat) × Int) → Int
  | [] => 0
  | q :: r => (if p = q.2.1 then q.1 * q.2.2 else 0) + cSum p r
theorem sumV_int : ∀ (r : List (Nat × Int × List Nat × FV)) (l : Tm), IntT l → (∀ q ∈ r, q.2.2.2.2.1.2 = 1) → IntT (sumV l r) ∧ ∀ p, cI (sumV l r) p = cI l p + cSum p (intR r)
  | [], l, h, _ => ⟨h, fun p => by simp [sumV, cSum, intR]⟩
  | (b, g, u, (pw, (n, d), k)) :: r, l, h, hr => by
    have hd : d = 1 := hr _ List.mem_cons_self
    subst hd
    obtain ⟨a1, a2⟩ := addT_int (g := g) (n := n) (p := pw) (k := k) h
    obtain ⟨i1, i2⟩ := sumV_int r _ a1 (fun q hq => hr q (List.mem_cons_of_mem _ hq))
    refine ⟨i1, fun p => ?_⟩
    show cI (sumV (addT l g (pw, (n, 1), k)) r) p = cI l p + ((if p = pw then g * n else 0) + cSum p (intR r))
    rw [i2, a2]
    omega
/-- whole factors -/
theorem moreV_int : ∀ (r : List (Nat × List Nat × FV)) (a b : Nat) (n : Int) (k : Bool), (∀ q ∈ r, q.2.2.2.1.2 = 1) → ∃ k', moreV ((a, b), (n, 1), k) r = ((a + (r.map fun q => q.2.2.1.1).sum, b + (r.map fun q => q.2.2.1.2).sum), (n * (r.map fun q => q.2.2.2.1.1).foldr (· * ·) 1, 1), k')
  | [], a, b, n, k, _ => ⟨k, by simp [moreV]⟩
  | (x, u, ((c, d), (m, e), k2)) :: r, a, b, n, k, h => by
    have he : e = 1 := h _ List.mem_cons_self
    subst he
    obtain ⟨k', ih⟩ := moreV_int r (a + c) (b + d) (n * m) false (fun q hq => h q (List.mem_cons_of_mem _ hq))
    refine ⟨k', ?_⟩
    show moreV (joinF ((a, b), (n, 1), k) ((c, d), (m, 1), k2)) r = _
    have e : joinF ((a, b), (n, 1), k) ((c, d), (m, 1), k2) = ((a + c, b + d), (n * m, 1), false) := by
      unfold joinF
      simp [times_one]
    rw [e, ih]
    simp [Nat.add_assoc, Int.mul_assoc]
end PVL
set_option Elab.async false
set_option linter.all false
set_option maxRecDepth 10000
/-! PL18: a line's tuple of integers. -/
namespace PVL
open PV
def NoZ (xs : List Int) : Prop := ∀ x, xs.getLast? = some x → x ≠ 0
theorem getD_app (xs : List Int) (k : Nat) : (xs ++ [0]).getD k 0 = xs.getD k 0 := by
  simp only [List.getD_eq_getElem?_getD]
  by_cases h : k < xs.length
  · rw [List.getElem?_append_left h]
  · rw [List.getElem?_append_right (by omega), List.getElem?_eq_none (l := xs) (by omega)]
    by_cases h2 : k - xs.length = 0
    · rw [h2]; rfl
    · rw [List.getElem?_eq_none (by simp; omega)]
theorem trimR_getD : ∀ (ys : List Int) (k : Nat), (trimR ys).reverse.getD k 0 = ys.reverse.getD k 0
  | [], k => rfl
  | y :: ys, k => by
    unfold trimR
    split
    · rename_i h
      subst h
      rw [trimR_getD ys k, List.reverse_cons, getD_app]
    · rfl
theorem trimR_noz : ∀ ys : List Int, NoZ (trimR ys).reverse
  | [] => fun x h => by simp [trimR] at h
  | y :: ys => by
    unfold trimR
    split
    · exact trimR_noz ys
    · rename_i h
      intro x hx
      simp at hx
      subst hx
      exact h
theorem trimZ_getD (xs : List Int) (k : Nat) : (trimZ xs).getD k 0 = xs.getD k 0 := by
  unfold trimZ
  rw [trimR_getD, List.reverse_reverse]
theorem trimZ_noz (xs : List Int) : NoZ (trimZ xs) := trimR_noz _
theorem noz_len {a b : List Int} (hb : NoZ b) (h : ∀ k, a.getD k 0 = b.getD k 0) : b.length ≤ a.length := by
  rcases Nat.lt_or_ge a.length b.length with q | q
  · exfalso
    cases e : b.getLast? with
    | none => rw [List.getLast?_eq_none_iff] at e; subst e; simp at q
    | some x =>
      have h1 := h (b.length - 1)
      rw [List.getLast?_eq_getElem?] at e
      simp only [List.getD_eq_getElem?_getD] at h1
      rw [e, List.getElem?_eq_none (by omega)] at h1
      exact hb x (by rw [List.getLast?_eq_getElem?]; exact e) h1.symm
  · exact q
theorem noz_ext {a b : List Int} (ha : NoZ a) (hb : NoZ b) (h : ∀ k, a.getD k 0 = b.getD k 0) : a = b := by
  have l1 := noz_len hb h
  have l2 := noz_len ha fun k => (h k).symm
  refine List.ext_getElem (by omega) fun k h1 h2 => ?_
  have := h k
  simp only [List.getD_eq_getElem?_getD] at this
  rw [List.getElem?_eq_getElem h1, List.getElem?_eq_getElem h2] at this
  exact this
theorem trimZ_ext {a b : List Int} (h : ∀ k, a.getD k 0 = b.getD k 0) : trimZ a = trimZ b :=
  noz_ext (trimZ_noz a) (trimZ_noz b) fun k => by rw [trimZ_getD, trimZ_getD, h]
/-- keys of a line -/
def LineT (l : Tm) : Prop := ∀ q ∈ l, q.1.2 = 0
theorem set_getD (xs : List Int) (i k : Nat) (x : Int) (h : i < xs.length) : (xs.set i x).getD k 0 = if k = i then x else xs.getD k 0 := by
  simp only [List.getD_eq_getElem?_getD]
  by_cases e : k = i
  · subst e
    rw [List.getElem?_set_self h]
    simp
  · rw [List.getElem?_set_ne (fun z => e z.symm), if_neg e]
theorem setsL_getD : ∀ (l : Tm) (xs : List Int) (k : Nat), UniT l → LineT l → (∀ q ∈ l, q.1.1 < xs.length) → (setsL l xs).getD k 0 = match l.lookup (k, 0) with
    | some x => x.1
    | none => xs.getD k 0
  | [], xs, k, _, _, _ => rfl
  | ((a, b), x) :: l, xs, k, u, hl, hx => by
    have hb : b = 0 := hl _ List.mem_cons_self
    subst hb
    have ih := setsL_getD l (xs.set a x.1) k u.2 (fun q hq => hl q (List.mem_cons_of_mem _ hq)) (fun q hq => by rw [List.length_set]; exact hx q (List.mem_cons_of_mem _ hq))
    show (setsL l (xs.set a x.1)).getD k 0 = _
    rw [ih, set_getD _ _ _ _ (hx _ List.mem_cons_self), List.lookup_cons]
    by_cases e : k = a
    · subst e
      have hn : l.lookup (k, 0) = none := by
        have u1 := u.1
        cases q : l.lookup (k, 0) with
        | none => rfl
        | some y =>
          have := getT_mem q
          rw [List.any_eq_false] at u1
          exact absurd (by simp) (u1 _ this)
      rw [hn]
      simp
    · have hb : (((k, 0) : Nat × Nat) == (a, 0)) = false := by simpa using e
      rw [hb, if_neg e]
theorem lineV_getD {l : Tm} (u : UniT l) (hl : LineT l) (k : Nat) : (setsL l (List.replicate (1 + maxP l) 0)).getD k 0 = cI l (k, 0) := by
  rw [setsL_getD l _ k u hl (fun q hq => by have := maxP_le hq; simp; omega)]
  unfold cI getT
  cases l.lookup (k, 0) with
  | some x => rfl
  | none =>
    simp only [List.getD_eq_getElem?_getD, List.getElem?_replicate]
    split <;> rfl
theorem lineV_trim {l : Tm} (u : UniT l) (hl : LineT l) {xs : List Int} (h : ∀ k, cI l (k, 0) = xs.getD k 0) : lineV l = trimZ xs := by
  unfold lineV
  exact trimZ_ext fun k => by rw [lineV_getD u hl, h]
end PVL
set_option Elab.async false
set_option linter.all false
set_option maxRecDepth 10000
/-! PL19: where terms stand in a sum that is told. -/
namespace PVL
open PV
def PwV (v : FV) : Prop := v.1.1 < 256 ∧ v.1.2 < 256
def RunT (U : List Nat) (most : Nat) (fr : Bool) (q : Nat × Int × List Nat × FV) : Prop := (q.2.1 = 1 ∨ q.2.1 = -1) ∧ TermR U most fr q.2.2.1 q.2.2.2
theorem rch_more {U : List Nat} {most : Nat} {fr : Bool} {s t : List Nat} {i0 : Nat} (st : StopS t) (P0 : ∃ u v r, TermR U most fr u v ∧ PwV v ∧ (∀ q ∈ r, RunT U most fr q ∧ PwV q.2.2.2) ∧ s.drop (if sgn s i0 = [45] then sk s i0 + 1 else i0) = u ++ (tailTx r ++ t)) {i : Nat}
    (h : Rch U most fr s i0 i) : ∃ u v r, TermR U most fr u v ∧ PwV v ∧ (∀ q ∈ r, RunT U most fr q ∧ PwV q.2.2.2) ∧ s.drop i = u ++ (tailTx r ++ t) := by
  induction h with
  | here => exact P0
  | @more i j v hr e q ih =>
    obtain ⟨u, v', r, hu, hp, hq, hd⟩ := ih
    have e2 := hu s i _ hd (stop_tail st)
    rw [e] at e2
    injection e2 with e3 e4
    subst e3 e4
    have ea := at_app hd
    cases r with
    | nil =>
      exfalso
      have ea : s.drop (i + u.length) = t := ea
      rcases q with q | q
      · exact st.npl (by rw [← ea]; exact (sgn_nxt _ _ _).mp q)
      · exact st.nmi (by rw [← ea]; exact (sgn_nxt _ _ _).mp q)
    | cons p r =>
      obtain ⟨b, g, u', w⟩ := p
      have e : s.drop (i + u.length) = bl b ++ sgC g :: (u' ++ (tailTx r ++ t)) := by rw [ea]; simp [tailTx]
      have h32 : sgC g ≠ 32 := by have := sgC_or g; omega
      have nb : NoB (sgC g :: (u' ++ (tailTx r ++ t))) := by simp [NoB, h32]
      obtain ⟨k1, k2⟩ := hq _ List.mem_cons_self
      exact ⟨u', w, r, k1.2, k2, fun z hz => hq z (List.mem_cons_of_mem _ hz), at_next (sk_drop e nb)⟩
theorem rch_run {U : List Nat} {most : Nat} {fr : Bool} {s t u : List Nat} {v : FV} {i : Nat} {r : List (Nat × Int × List Nat × FV)} (st : StopS t) (hu : TermR U most fr u v) (hp : PwV v) (hr : ∀ q ∈ r, RunT U most fr q ∧ PwV q.2.2.2)
    (h : s.drop i = u ++ (tailTx r ++ t)) (hn : nxt (u ++ (tailTx r ++ t)) ≠ some 45) : PwOk U most fr s i := by
  intro i' v' j hR e
  obtain ⟨u2, v2, r2, h1, h2, h3, h4⟩ := rch_more st (i0 := i) ⟨u, v, r, hu, hp, hr, by rw [if_neg (fun z => hn (by rw [← h]; exact (sgn_nxt _ _ _).mp z))]; exact h⟩ hR
  have e2 := h1 s i' _ h4 (stop_tail st)
  rw [e] at e2
  injection e2 with e3 e4
  subst e3
  exact h2
theorem rch_runM {U : List Nat} {most : Nat} {fr : Bool} {s t u : List Nat} {v : FV} {i b : Nat} {r : List (Nat × Int × List Nat × FV)} (st : StopS t) (hu : TermR U most fr u v) (hp : PwV v) (hr : ∀ q ∈ r, RunT U most fr q ∧ PwV q.2.2.2)
    (h : s.drop i = bl b ++ 45 :: (u ++ (tailTx r ++ t))) : PwOk U most fr s i := by
  have nb : NoB (45 :: (u ++ (tailTx r ++ t))) := by simp [NoB]
  have e2 := at_next (sk_drop h nb)
  intro i' v' j hR e
  obtain ⟨u2, v2, r2, h1, h2, h3, h4⟩ := rch_more st (i0 := i) ⟨u, v, r, hu, hp, hr, by rw [if_pos ((sgn_nxt _ _ _).mpr (by rw [h]; exact nxt_bl (by decide)))]; exact e2⟩ hR
  have e2 := h1 s i' _ h4 (stop_tail st)
  rw [e] at e2
  injection e2 with e3 e4
  subst e3
  exact h2
/-- a whole text: an own sign ahead (+ is left out), terms -/
theorem stop_nil {b : Nat} : StopS (bl b) := by
  refine ⟨⟨⟨fun c h => ?_, ?_, ?_⟩, ?_⟩, ?_, ?_⟩
  · cases b with
    | zero => simp [bl] at h
    | succ b => simp [bl, List.replicate_succ] at h; subst h; rfl
  · rw [nxt_end]; simp
  · cases b with
    | zero => simp [bl]
    | succ b => simp [bl, List.replicate_succ]
  · rw [nxt_end]; simp
  · rw [nxt_end]; simp
  · rw [nxt_end]; simp
/-- the text of signed terms from its start: the first one's + is left out -/
def headTx : List (Nat × Int × List Nat × FV) → List Nat
  | [] => []
  | (b, g, u, _) :: r => bl b ++ (if g = 1 then [] else [45]) ++ (u ++ tailTx r)
theorem head_run {U : List Nat} {most : Nat} {fr : Bool} {s t u : List Nat} {v : FV} {g : Int} {i b : Nat} {r : List (Nat × Int × List Nat × FV)} (st : StopS t) (hu : RunT U most fr (b, g, u, v)) (hu' : ∀ b, ∃ b', TermR U most fr (bl b' ++ u) v ∧ (bl b ++ u = bl b' ++ u)) (hn : ∀ x, nxt (bl b ++ (u ++ x)) ≠ some 45) (hp : PwV v) (hr : ∀ q ∈ r, RunT U most fr q ∧ PwV q.2.2.2)
    (h : s.drop i = headTx ((b, g, u, v) :: r) ++ t) : PwOk U most fr s i ∧ termsP U most fr s i = .ok (sumV [] ((b, g, u, v) :: r)) (i + (headTx ((b, g, u, v) :: r)).length) := by
  obtain ⟨hg, hT⟩ := hu
  rcases hg with hg | hg
  · have hg : g = 1 := hg
    subst hg
    obtain ⟨b', t1, t2⟩ := hu' b
    have hd : s.drop i = (bl b' ++ u) ++ (tailTx r ++ t) := by rw [h, ← t2]; simp [headTx]
    have hn : nxt ((bl b' ++ u) ++ (tailTx r ++ t)) ≠ some 45 := by rw [← t2, List.append_assoc]; exact hn _
    refine ⟨rch_run st t1 hp hr hd hn, ?_⟩
    rw [terms_run st t1 (fun q hq => (hr q hq).1) hd hn, ← t2]
    simp [headTx, sumV]
    omega
  · have hg : g = -1 := hg
    subst hg
    have hd : s.drop i = bl b ++ 45 :: (u ++ (tailTx r ++ t)) := by rw [h]; simp [headTx]
    refine ⟨rch_runM st hT hp hr hd, ?_⟩
    rw [terms_runM st hT (fun q hq => (hr q hq).1) hd]
    simp [headTx, sumV, bl]
    omega
end PVL
set_option Elab.async false
set_option linter.all false
set_option maxRecDepth 10000
/-! PL20: lines that fit; read_line; write_line. -/
namespace PVL
open PV
/-- a table of defs -/
def look (T : List (Nat × Fn)) : Nat → Option Fn := fun n => T.lookup n
theorem look_cl {T : List (Nat × Fn)} (h : (T.all fun p => clSs p.2.body) = true) : ClF (look T) := by
  intro f fn e
  rw [List.all_eq_true] at h
  have : (f, fn) ∈ T := by
    unfold look at e
    clear h
    induction T with
    | nil => simp at e
    | cons p T ih =>
      obtain ⟨a, b⟩ := p
      rw [List.lookup_cons] at e
      cases q : f == a with
      | true =>
        rw [q] at e
        injection e with e
        have : f = a := by simpa using q
        subst this e
        exact List.mem_cons_self
      | false =>
        rw [q] at e
        exact List.mem_cons_of_mem _ (ih e)
  exact h _ this
theorem look_map {A : Type} (l : List (Nat × A)) (g : A → Fn) : (fun n => (l.lookup n).map g) = look (l.map fun p => (p.1, g p.2)) := by
  funext n
  unfold look
  induction l with
  | nil => rfl
  | cons p l ih =>
    obtain ⟨a, b⟩ := p
    rw [List.map_cons, List.lookup_cons, List.lookup_cons]
    cases n == a with
    | true => rfl
    | false => exact ih
structure FitL (xs : List Int) : Prop where
  len : xs.length ≤ 9
  co : ∀ x ∈ xs, -1000000 ≤ x ∧ x ≤ 1000000
  nz : NoZ xs
theorem len_tup (b : Bool) (ds : List D) (st : Sto) : bfD .len [.tup b ds] st = .ok (.int ds.length) st := rfl
theorem isin_tup (b : Bool) (ds : List D) (st : Sto) : bfD (.isinst .tuple) [.tup b ds] st = .ok (.bl true) st := rfl
theorem isin_int (i : Int) (st : Sto) : bfD (.isinst .int) [.int i] st = .ok (.bl true) st := rfl
theorem isin_ibl (i : Int) (st : Sto) : bfD (.isinst .bool) [.int i] st = .ok (.bl false) st := rfl
theorem all_true {α : Type} (l : List α) (st : Sto) : bfD .all [.lst (l.map fun _ => D.bl true)] st = .ok (.bl true) st := by
  have : boolsD (l.map fun _ => D.bl true) = some (l.map fun _ => true) := boolsD_map (fun _ => true) l
  simp [bfD, this]
theorem eq_nilD (xs : List Int) : cmpD .eq (lineD xs) (.tup false []) = some (decide (xs = [])) := by
  unfold lineD
  have : D.data 20 (.tup false (xs.map D.int)) = true := data_ints 19 xs
  simp only [cmpD, this, show D.data 20 (.tup false []) = true from rfl, Bool.and_self, if_true]
  cases xs with
  | nil => rfl
  | cons x xs => simp [D.eqv, D.eqvs]
section
variable {F : Nat → Option Fn}
theorem istup_ok (h100 : F 100 = some f100) (k : Nat) {b : Bool} {ds : List D} {lo hi : Int} (h1 : lo ≤ ds.length) (h2 : (ds.length : Int) ≤ hi) (st : Sto) : callF F (k + 1) 100 [.tup b ds, .int lo, .int hi] st = .ok (.bl true) st := by
  rw [callF_at [some (.tup b ds), some (.int lo), some (.int hi)] h100 rfl rfl]
  simp [f100, isin_tup, len_tup, h1, h2]
theorem iswhole_ok (h102 : F 102 = some f102) (k : Nat) {i lo hi : Int} (h1 : lo ≤ i) (h2 : i ≤ hi) (st : Sto) : callF F (k + 1) 102 [.int i, .int lo, .int hi] st = .ok (.bl true) st := by
  rw [callF_at [some (.int i), some (.int lo), some (.int hi)] h102 rfl rfl]
  simp [f102, isin_int, isin_ibl, h1, h2]
theorem fitsL_ok (h100 : F 100 = some f100) (h102 : F 102 = some f102) (h104 : F 104 = some f104) (k : Nat) {xs : List Int} (h : FitL xs) (st : Sto) : callF F (k + 2) 104 [lineD xs] st = .ok (.bl true) st := by
  rw [callF_at [some (lineD xs), none] h104 rfl rfl]
  have t1 : callF F (k + 1) 100 [lineD xs, .int 0, .int 9] st = .ok (.bl true) st := istup_ok h100 k (by omega) (by have := h.len; simp; omega) st
  have e1 := lc_ok (call := callF F (k + 1)) (t := false) (δ := [some (lineD xs), none]) (st := st) (st1 := st) (ws := [1]) (tg := T.n 1) (it := I.of (E.v 0)) (cond := Eo.none)
    (e := E.call 102 (Es.cons (E.v 1) (Es.cons (E.neg (E.c (D.int 1000000))) (Es.cons (E.c (D.int 1000000)) (Es.nil))))) (ds := xs.map .int) (fun _ => true) (fun _ => .bl true)
    (by simp [seqOf, lineD]) (by decide) (fun d hd => by
      obtain ⟨x, hx, rfl⟩ := List.mem_map.mp hd
      have hw := iswhole_ok h102 k (h.co x hx).1 (h.co x hx).2
      refine ⟨[some (lineD xs), some (.int x)], rfl, rfl, fun _ => ?_⟩
      simp [hw]) (by rw [List.length_map]; exact Nat.ble_eq_true_of_le (by have := h.len; omega))
  rw [show (xs.map D.int).filter (fun _ => true) = xs.map D.int from by simp, List.map_map] at e1
  have e2 : ∀ st, bfD .all [.lst (xs.map ((fun _ => D.bl true) ∘ D.int))] st = .ok (.bl true) st := fun st => all_true xs st
  simp only [f104]
  simp only [evSs_cons, evSs_nil, evS_ite, ev_or, ev_not, ev_call, evs_cons, evs_nil, ev_v0, ev_c, ev_bin, add_int, tst_f, tst_t, bind_ok, show (8 + 1 : Int) = 9 from rfl, t1, truth_b, okO_s, onB_t, onB_f, ev_bf, e1, e2, thn_ok, seq_nx, evS_ret, ev_cmp, ev_tup, List.length_nil, show fits 0 = true from rfl, okb_t, eq_nilD, onB_d]
  by_cases q : xs = []
  · simp [q]
  · rw [if_neg q]
    obtain ⟨ys, x, rfl⟩ : ∃ ys x, xs = ys ++ [x] := ⟨xs.dropLast, xs.getLast q, (List.dropLast_concat_getLast q).symm⟩
    have hx : x ≠ 0 := h.nz x (by simp)
    have : idxD (lineD (ys ++ [x])) (.int (-1)) st = .ok (.int x) st := by
      show okd (atI ((ys ++ [x]).map D.int) (-1)) st = _
      rw [List.map_append, List.map_cons, List.map_nil, atI_last]
      rfl
    simp [this, hx]
theorem needL_ok (h100 : F 100 = some f100) (h102 : F 102 = some f102) (h104 : F 104 = some f104) (h107 : F 107 = some f107) (k : Nat) {xs : List Int} (h : FitL xs) (st : Sto) : callF F (k + 3) 107 [lineD xs] st = .ok .non st := by
  rw [callF_at [some (lineD xs)] h107 rfl rfl]
  have := fitsL_ok h100 h102 h104 k h st
  simp [f107, this]
/-- a text that is read -/
theorem readL_ok (TB : Tab F) (h100 : F 100 = some f100) (h102 : F 102 = some f102) (h104 : F 104 = some f104) (h54 : F 54 = some f54) (k : Nat) {s : List Nat} (h : Ok s) (hl : s.length ≤ 1300) (hp : PwOk [120] 8 false s 0) {l : Tm} {j : Nat} (ht : termsP [120] 8 false s 0 = .ok l j)
    (he : s[sk s j]? = none) (hf : FitL (lineV l)) (st : Sto) : callF F (k + 10) 54 [.str s] st = .ok (lineD (lineV l)) (st ++ [none]) := by
  rw [callF_at [some (.str s), none, none] h54 rfl rfl]
  obtain ⟨_, _, hj, _⟩ := termsP_ok hp (by omega) ht
  have n1 : ∀ st, callF F (k + 9) 37 [.str s] st = .ok .non st := fun st => need_ok TB.h37 h (k + 5) st
  have l1 : callF F (k + 9) 46 [.str s, .int 0] st = .ok (.tup false [lineD (lineV l), .int j]) (st ++ [none]) := by
    have := lineAt_ok TB h hl k 0 (by omega) hp st
    rw [ht] at this
    exact this
  have e1 : ∀ st, callF F (k + 9) 36 [.str s, .int j] st = .ok .non st := fun st => by
    have := ended_ok TB.h30 TB.h36 h (k + 5) j hj st
    rw [if_pos he] at this
    exact this
  have f1 : ∀ st, callF F (k + 9) 104 [lineD (lineV l)] st = .ok (.bl true) st := fun st => fitsL_ok h100 h102 h104 (k + 7) hf st
  simp only [f54]
  simp only [evSs_cons, evSs_nil, evS_ex, ev_call, evs_cons, evs_nil, ev_v0, ev_c, tst_f, bind_ok, n1, thn_ok, seq_nx, evS_asg, l1]
  rw [show asgT (T.t2 (T.n 1) (T.n 2)) (D.tup false [lineD (lineV l), D.int j]) [some (.str s), none, none] = some [some (.str s), some (lineD (lineV l)), some (.int j)] from rfl]
  simp [e1, f1]
/-! ### written -/
theorem pow49_ok (h49 : F 49 = some f49) (k : Nat) {c p : Nat} (hp : p < 2 ^ 1900) (st : Sto) : callF F (k + 1) 49 [.str [c], .int p] st = .ok (.lst ((powTx c p).map .str)) st := by
  rw [callF_at [some (.str [c]), some (.int p)] h49 rfl rfl]
  have l1 := natText_len hp (by decide)
  by_cases q : 0 < p
  · by_cases q2 : 1 < p
    · have s1 := str_int (i := (p : Int)) (by omega) (by simpa using hp) st
      have e1 := add_str (a := [94]) (b := natText p) (by simp; omega) st
      have e2 := add_str (a := [c]) (b := 94 :: natText p) (by simp; omega) st
      simp at s1 e1 e2
      have h3 : (1 : Int) < p := by omega
      simp [f49, q, q2, h3, powTx, s1, e1, e2, show fits 1 = true from rfl]
    · have h3 : ¬ (1 : Int) < p := by omega
      have e2 := add_str (a := [c]) (b := []) (by simp) st
      simp at e2
      simp [f49, q, q2, h3, powTx, e2, show fits 1 = true from rfl]
  · simp [f49, q, powTx, show fits 0 = true from rfl]
theorem num48_ok (h48 : F 48 = some f48) (k : Nat) {a b : Int} {q : Bool} (ha : 0 ≤ a) (ha2 : a.natAbs < 2 ^ 1900) (hb : 0 ≤ b) (hb2 : b.natAbs < 2 ^ 1900) (st : Sto) : callF F (k + 1) 48 [.tup q [.int a, .int b]] st = .ok (.str (numTx a b)) st := by
  rw [callF_at [some (.tup q [.int a, .int b])] h48 rfl rfl]
  simp only [f48]
  have l1 := natText_len ha2 (by decide)
  have l2 := natText_len hb2 (by decide)
  by_cases h : b = 1
  · have e := add_str (a := natText a.natAbs) (b := []) (by simp; omega) st
    simp [str_int ha ha2, h, e, numTx]
  · have e1 := add_str (a := [58]) (b := natText b.natAbs) (by simp; omega) st
    have e2 := add_str (a := natText a.natAbs) (b := 58 :: natText b.natAbs) (by simp; omega) st
    simp [str_int ha ha2, str_int hb hb2, h, e1, e2, numTx]
theorem add_lst {a b : List D} (h : a.length + b.length ≤ 1000000) (st : Sto) : binD .add (.lst a) (.lst b) st = .ok (.lst (a ++ b)) st := by
  have : fits (a.length + b.length) = true := Nat.ble_eq_true_of_le h
  show okb (fits (a.length + b.length)) _ _ = _
  rw [this]; rfl
theorem powTx_l1 (c p : Nat) : (powTx c p).length ≤ 1 := by unfold powTx; split <;> simp
theorem powTx_nil (c p : Nat) : powTx c p = [] ↔ p = 0 := by unfold powTx; split <;> simp <;> omega
theorem ne_one (a b : Int) (q r : Bool) : cmpD .ne (.tup q [.int a, .int b]) (.tup r [.int 1, .int 1]) = some (!decide (a = 1 ∧ b = 1)) := by
  have e : cmpD .ne (.tup q [.int a, .int b]) (.tup r [.int 1, .int 1]) = some (!(decide (a = 1) && (decide (b = 1) && true))) := rfl
  rw [e]
  congr 1
  rw [Bool.eq_iff_iff]
  simp
theorem eq_nilL (ps : List (List Nat)) (h : ∀ t ∈ ps, asc t = true) : cmpD .eq (.lst (ps.map .str)) (.lst []) = some (decide (ps = [])) := by
  have : D.data 20 (.lst (ps.map D.str)) = true := by
    show (ps.map D.str).all (D.data 19) = true
    rw [List.all_eq_true]
    intro d hd
    obtain ⟨t, ht, rfl⟩ := List.mem_map.mp hd
    have := h t ht
    unfold asc at this
    show (t.all fun c => Nat.blt c 1114112) = true
    rw [List.all_eq_true] at this ⊢
    intro c hc
    have := this c hc
    exact Nat.ble_eq_true_of_le (by have := Nat.le_of_ble_eq_true this; omega)
  simp only [cmpD, this, show D.data 20 (.lst []) = true from rfl, Bool.and_self, if_true]
  cases ps with
  | nil => rfl
  | cons x xs => simp [D.eqv, D.eqvs]
theorem join_ok {ps : List (List Nat)} (h : (ps.map List.length).foldl (· + ·) (1 * ps.length) ≤ 1000000) (st : Sto) : mtD .join (.str [42]) [.lst (ps.map .str)] st = .ok (.str (joinD [42] ps)) st := by
  simp only [mtD, strsD_map]
  have : fits ((ps.map List.length).foldl (· + ·) ([42].length * ps.length)) = true := Nat.ble_eq_true_of_le h
  rw [this]; rfl
theorem term50_ok (h48 : F 48 = some f48) (h49 : F 49 = some f49) (h50 : F 50 = some f50) (k : Nat) {p : Nat × Nat} {x : Fr} {q : Bool} (ht : TxOk p x) (hx : (x.1.natAbs : Int) = x.2 → x.2 = 1) (st : Sto) : callF F (k + 2) 50 [pwD p, frD q x] st = .ok (.str (termTx p x)) st := by
  obtain ⟨p1, p2⟩ := p
  obtain ⟨a, b⟩ := x
  obtain ⟨q1, q2, x1, x0, x2⟩ := ht
  dsimp only at q1 q2 x1 x0 x2
  rw [callF_at [some (pwD (p1, p2)), some (frD q (a, b)), none, none] h50 rfl rfl]
  have y1 := pow49_ok h49 k (c := 120) q1 st
  have y2 := pow49_ok h49 k (c := 121) q2 st
  have ad := add_lst (a := (powTx 120 p1).map .str) (b := (powTx 121 p2).map .str) (by have := powTx_l1 120 p1; have := powTx_l1 121 p2; simp; omega) st
  rw [← List.map_append] at ad
  have as : ∀ t ∈ powTx 120 p1 ++ powTx 121 p2, asc t = true := fun t h => by
    rcases List.mem_append.mp h with h | h
    · exact powTx_asc (by decide) t h
    · exact powTx_asc (by decide) t h
  have en := eq_nilL _ as
  have ab : (if a < 0 then -a else a) = (a.natAbs : Int) := by split <;> omega
  have nm : callF F (k + 1) 48 [.tup false [.int (a.natAbs : Int), .int b]] st = .ok (.str (numTx a.natAbs b)) st := num48_ok h48 k (by omega) (by simpa using x1) (by omega) x2 st
  have ea : bfD .abs [.int a] st = .ok (.int (a.natAbs : Int)) st := by show R.ok (D.int (if a < 0 then -a else a)) st = _; rw [ab]
  have l1 := natText_len x1 (by decide)
  have l2 := natText_len x2 (by decide)
  have l3 := natText_len q1 (by decide)
  have l4 := natText_len q2 (by decide)
  have nl : (numTx a.natAbs b).length ≤ 3801 := by unfold numTx; split <;> simp <;> omega
  -- the parts
  have ps : ∀ z : List (List Nat), (z = [] ∨ z = [numTx a.natAbs b]) → (((z ++ (powTx 120 p1 ++ powTx 121 p2)).map List.length).foldl (· + ·) (1 * (z ++ (powTx 120 p1 ++ powTx 121 p2)).length)) ≤ 1000000 := by
    intro z hz
    have f1 : ∀ c p, (powTx c p) = [] ∨ ∃ t, powTx c p = [t] ∧ t.length ≤ (natText p).length + 2 := fun c p => by
      unfold powTx
      split
      · refine .inr ⟨_, rfl, ?_⟩
        split <;> simp
      · exact .inl rfl
    rcases hz with rfl | rfl <;> rcases f1 120 p1 with h1 | ⟨t1, h1, h1'⟩ <;> rcases f1 121 p2 with h2 | ⟨t2, h2, h2'⟩ <;> simp [h1, h2] <;> omega
  have tx : termTx (p1, p2) (a, b) = joinD [42] ((if (a.natAbs : Int) = 1 ∧ b = 1 ∧ powTx 120 p1 ++ powTx 121 p2 ≠ [] then [] else [numTx a.natAbs b]) ++ (powTx 120 p1 ++ powTx 121 p2)) := by
    have c : ((a.natAbs : Int) = b ∧ (p1, p2) ≠ (0, 0)) ↔ ((a.natAbs : Int) = 1 ∧ b = 1 ∧ powTx 120 p1 ++ powTx 121 p2 ≠ []) := by
      have n : powTx 120 p1 ++ powTx 121 p2 ≠ [] ↔ (p1, p2) ≠ (0, 0) := by
        rw [ne_eq, ne_eq, List.append_eq_nil_iff, powTx_nil, powTx_nil, Prod.mk.injEq]
      rw [n]
      constructor
      · rintro ⟨h1, h2⟩
        have := hx h1
        exact ⟨by omega, this, h2⟩
      · rintro ⟨h1, h2, h3⟩
        exact ⟨by omega, h3⟩
    unfold termTx termPs
    dsimp only
    rw [List.append_assoc]
    simp only [c]
  have r1 := ne_one (a.natAbs : Int) b false true
  have l0 : fits (0 + 1) = true := rfl
  simp only [f50, evSs_cons, evSs_nil, evS_asg, ev_bin, ev_call, evs_cons, evs_nil, ev_c, ev_v0, ev_v1, ev_idx, pwD, frD, idx_tup0, idx_tup1, tst_f, bind_ok, y1, y2, ad, thn_ok]
  rw [show asgT (T.n 2) (D.lst ((powTx 120 p1 ++ powTx 121 p2).map .str)) [some (D.tup false [D.int ↑p1, D.int ↑p2]), some (D.tup q [D.int a, D.int b]), none, none] = some [some (D.tup false [D.int ↑p1, D.int ↑p2]), some (D.tup q [D.int a, D.int b]), some (D.lst ((powTx 120 p1 ++ powTx 121 p2).map .str)), none] from rfl, nxt_s, seq_nx]
  simp only [ev_tup, evs_cons, evs_nil, ev_bf, ev_idx, ev_v1, ev_c, tst_f, bind_ok, idx_tup0, idx_tup1, ea, List.length_cons, List.length_nil, show fits (0 + 1 + 1) = true from rfl, okb_t, thn_ok]
  rw [show asgT (T.n 3) (D.tup false [D.int ↑a.natAbs, D.int b]) [some (D.tup false [D.int ↑p1, D.int ↑p2]), some (D.tup q [D.int a, D.int b]), some (D.lst ((powTx 120 p1 ++ powTx 121 p2).map .str)), none] = some [some (D.tup false [D.int ↑p1, D.int ↑p2]), some (D.tup q [D.int a, D.int b]), some (D.lst ((powTx 120 p1 ++ powTx 121 p2).map .str)), some (D.tup false [D.int ↑a.natAbs, D.int b])] from rfl, nxt_s, seq_nx]
  generalize hP : powTx 120 p1 ++ powTx 121 p2 = P at ps tx en ⊢
  have hPl : P.length ≤ 2 := by subst hP; have := powTx_l1 120 p1; have := powTx_l1 121 p2; simp; omega
  rw [tx]
  have c0 : ev (callF F (k + 1)) (E.or (E.cmp (CO.ne) (E.v 3) (E.c (D.tup true [D.int 1, D.int 1]))) (E.cmp (CO.eq) (E.v 2) (E.lst false (Es.nil)))) true [some (D.tup false [D.int ↑p1, D.int ↑p2]), some (D.tup q [D.int a, D.int b]), some (D.lst (P.map .str)), some (D.tup false [D.int ↑a.natAbs, D.int b])] st
      = .ok (.bl (!decide ((a.natAbs : Int) = 1 ∧ b = 1 ∧ P ≠ []))) st := by
    have e0 : ∀ δ, ev (callF F (k + 1)) (E.lst false (Es.nil)) false δ st = .ok (.lst []) st := fun δ => rfl
    simp only [ev_or, ev_cmp, ev_v3, ev_v2, ev_c, tst_f, bind_ok, r1, okO_s, e0, en]
    by_cases c1 : (a.natAbs : Int) = 1 ∧ b = 1
    · rw [decide_eq_true c1]
      simp only [Bool.not_true, onB_f]
      congr 2
      rw [Bool.eq_iff_iff]
      simp [c1.1, c1.2]
    · rw [decide_eq_false c1, show decide ((a.natAbs : Int) = 1 ∧ b = 1 ∧ P ≠ []) = false from decide_eq_false (fun z => c1 ⟨z.1, z.2.1⟩)]
      rfl
  have z0 : ev (callF F (k + 1)) (E.ite (E.or (E.cmp (CO.ne) (E.v 3) (E.c (D.tup true [D.int 1, D.int 1]))) (E.cmp (CO.eq) (E.v 2) (E.lst false (Es.nil)))) (E.lst false (Es.cons (E.call 48 (Es.cons (E.v 3) (Es.nil))) (Es.nil))) (E.lst false (Es.nil))) false [some (D.tup false [D.int ↑p1, D.int ↑p2]), some (D.tup q [D.int a, D.int b]), some (D.lst (P.map .str)), some (D.tup false [D.int ↑a.natAbs, D.int b])] st
      = .ok (.lst ((if (a.natAbs : Int) = 1 ∧ b = 1 ∧ P ≠ [] then [] else [numTx a.natAbs b]).map .str)) st := by
    rw [ev_ite, c0]
    by_cases c1 : (a.natAbs : Int) = 1 ∧ b = 1 ∧ P ≠ []
    · rw [decide_eq_true c1, if_pos c1]; rfl
    · rw [decide_eq_false c1, if_neg c1]
      simp only [bind_ok, Bool.not_false, onB_t, ev_lst, evs_cons, evs_nil, ev_call, ev_v3, tst_f, nm, List.length_cons, List.length_nil, l0, okb_t, List.map_cons, List.map_nil]
  have hz : (if (a.natAbs : Int) = 1 ∧ b = 1 ∧ P ≠ [] then [] else [numTx a.natAbs b]) = [] ∨ (if (a.natAbs : Int) = 1 ∧ b = 1 ∧ P ≠ [] then [] else [numTx a.natAbs b]) = [numTx a.natAbs b] := by split <;> simp
  generalize (if (a.natAbs : Int) = 1 ∧ b = 1 ∧ P ≠ [] then [] else [numTx a.natAbs b]) = z at hz z0 ⊢
  have ea : binD .add (.lst (z.map .str)) (.lst (P.map .str)) st = .ok (.lst ((z ++ P).map .str)) st := by
    rw [List.map_append]
    exact add_lst (by rcases hz with rfl | rfl <;> simp <;> omega) st
  have ej := join_ok (ps z hz) st
  simp only [evS_ret, ev_mtK, ev_c, ev_bin, z0, ev_v2, tst_f, bind_ok, mtTy_join, mtK_t, evs_cons, evs_nil, ea, ej, thn_ok, seq_rt, outR_rt]
/-! ### a sum -/
def ltI (a b : (Nat × Nat) × Fr) : Bool := ltS (itemD a) (itemD b)
theorem insR_mapI (x : (Nat × Nat) × Fr) : ∀ ys : Tm, insR ltS (itemD x) (ys.map itemD) = (insB ltI x ys).map itemD
  | [] => rfl
  | y :: ys => by
    rw [List.map_cons]
    unfold insR insB
    rw [insR_mapI x ys]
    show (if ltS (itemD y) (itemD x) = true then _ else _) = _
    unfold ltI
    split <;> rfl
theorem isort_mapI : ∀ xs : Tm, isort ltS (xs.map itemD) = (srt ltI xs).map itemD
  | [] => rfl
  | x :: xs => by
    rw [List.map_cons]
    unfold isort srt
    rw [isort_mapI xs, insR_mapI]
theorem ltI_eq (a b : (Nat × Nat) × Fr) (h : a.1 ≠ b.1) : ltI a b = ltR a b := by
  obtain ⟨⟨a1, a2⟩, x⟩ := a
  obtain ⟨⟨b1, b2⟩, y⟩ := b
  have e1 : ltI ((a1, a2), x) ((b1, b2), y) = (decide (-(a1 : Int) - a2 < -(b1 : Int) - b2) || (decide (-(a1 : Int) - a2 = -(b1 : Int) - b2) && decide (-(a1 : Int) < -(b1 : Int)))) := rfl
  have ne : ¬ ((a1 : Int) + a2 = b1 + b2 ∧ (a1 : Int) = b1) := fun ⟨h1, h2⟩ => h (by simp; omega)
  unfold ltR rankD
  simp only [D.lt, D.lts, D.eqv, D.eqvs, Bool.and_true]
  rw [e1]
  by_cases c1 : (a1 : Int) + a2 = b1 + b2
  · have c2 : ¬ (a1 : Int) = b1 := fun z => ne ⟨c1, z⟩
    have d1 : (0 - (a1 : Int) - a2 = 0 - b1 - b2) := by omega
    have d2 : ¬ (0 - (a1 : Int) = 0 - b1) := by omega
    simp only [d1, d2, decide_true, decide_false, if_true, if_false, Bool.false_eq_true, Bool.true_and, Bool.and_false, Bool.false_and, ite_true, ite_false]
    rw [Bool.eq_iff_iff]
    simp only [Bool.or_eq_true, Bool.and_eq_true, decide_eq_true_eq]
    omega
  · have d1 : ¬ (0 - (a1 : Int) - a2 = 0 - b1 - b2) := by omega
    simp only [d1, decide_true, decide_false, if_true, if_false, Bool.false_eq_true, Bool.true_and, Bool.and_false, Bool.false_and, ite_true, ite_false]
    rw [Bool.eq_iff_iff]
    simp only [Bool.or_eq_true, Bool.and_eq_true, decide_eq_true_eq]
    omega
theorem insB_eq {x : (Nat × Nat) × Fr} : ∀ {ys : Tm}, (∀ y ∈ ys, y.1 ≠ x.1) → insB ltI x ys = insB ltR x ys
  | [], _ => rfl
  | y :: ys, h => by
    unfold insB
    rw [ltI_eq y x (h y List.mem_cons_self), insB_eq fun z hz => h z (List.mem_cons_of_mem _ hz)]
theorem srt_eq : ∀ {xs : Tm}, UniT xs → srt ltI xs = srt ltR xs
  | [], _ => rfl
  | x :: xs, u => by
    unfold srt
    rw [srt_eq u.2]
    refine insB_eq fun y hy => ?_
    have := srt_mem.mp hy
    have u1 := u.1
    rw [List.any_eq_false] at u1
    exact fun z => u1 y this (by simp [z])
end
end PVL
set_option Elab.async false
set_option linter.all false
set_option maxRecDepth 10000
/-! PL21: texts of sums that are told, read. -/
namespace PVL
open PV
/-- no blank, no minus ahead -/
def Hd (f : List Nat) : Prop := ∃ c r, f = c :: r ∧ c ≠ 32 ∧ c ≠ 45
theorem Hd.app {f : List Nat} (h : Hd f) (t : List Nat) : Hd (f ++ t) := by
  obtain ⟨c, r, rfl, h1, h2⟩ := h
  exact ⟨c, r ++ t, rfl, h1, h2⟩
theorem Hd.nxt {f : List Nat} (h : Hd f) (n : Nat) : nxt (bl n ++ f) ≠ some 45 := by
  obtain ⟨c, r, rfl, h1, h2⟩ := h
  rw [nxt_bl h1]
  simpa using h2
theorem natText_hd (n : Nat) : Hd (natText n) := by
  obtain ⟨c, ds, e, k1, _⟩ := natText_run n
  have := (dig_cases k1).1
  exact ⟨c, ds, e, by omega, by omega⟩
def FacB (U : List Nat) (most : Nat) (fr : Bool) (f : List Nat) (v : FV) : Prop := (∀ n, FacR U most fr (bl n ++ f) v) ∧ Hd f
def TermB (U : List Nat) (most : Nat) (fr : Bool) (f : List Nat) (v : FV) : Prop := (∀ n, TermR U most fr (bl n ++ f) v) ∧ Hd f
theorem facB_num {U : List Nat} {most n : Nat} (hn : n ≤ 1000000) : FacB U most false (natText n) ((0, 0), ((n : Int), 1), false) := ⟨fun b => fac_num hn, natText_hd n⟩
theorem facB_one {U : List Nat} {most c : Nat} {fr : Bool} (hc : c ∈ U) (n : c ≠ 32) (n2 : c ≠ 45) (d : isDig c = false) : FacB U most fr [c] (if c = 120 then (1, 0) else (0, 1), (1, 1), true) := ⟨fun b => fac_one hc n d, c, [], rfl, n, n2⟩
theorem facB_pow {U : List Nat} {most b1 b2 c p : Nat} {fr : Bool} (hc : c ∈ U) (n : c ≠ 32) (n2 : c ≠ 45) (d : isDig c = false) (hp : p ≤ most) : FacB U most fr (c :: (bl b1 ++ 94 :: (bl b2 ++ natText p))) (if c = 120 then (p, 0) else (0, p), (1, 1), true) := ⟨fun b => fac_pow hc n d hp, c, _, rfl, n, n2⟩
/-- factors joined -/
def jTx (b c : Nat) (fs : List (List Nat × FV)) : List (Nat × List Nat × FV) := fs.map fun q => (b, bl c ++ q.1, q.2)
theorem joinD_more (b c : Nat) : ∀ (f : List Nat) (fs : List (List Nat × FV)), joinD (bl b ++ 42 :: bl c) (f :: fs.map (·.1)) = f ++ moreTx (jTx b c fs)
  | f, [] => by simp [joinD, moreTx, jTx]
  | f, q :: fs => by
    show f ++ (bl b ++ 42 :: bl c) ++ joinD (bl b ++ 42 :: bl c) (q.1 :: fs.map (·.1)) = f ++ (bl b ++ 42 :: ((bl c ++ q.1) ++ moreTx (jTx b c fs)))
    rw [joinD_more b c q.1 fs]
    simp
theorem join_run {U : List Nat} {most : Nat} {fr : Bool} {f : List Nat} {v : FV} {fs : List (List Nat × FV)} (b c : Nat) (hf : FacB U most fr f v) (hs : ∀ q ∈ fs, FacB U most fr q.1 q.2) : TermB U most fr (joinD (bl b ++ 42 :: bl c) (f :: fs.map (·.1))) (moreV v (jTx b c fs)) := by
  rw [joinD_more]
  refine ⟨fun n => ?_, hf.2.app _⟩
  rw [← List.append_assoc]
  refine term_run (hf.1 n) _ fun q hq => ?_
  obtain ⟨p, hp, rfl⟩ := List.mem_map.mp hq
  exact (hs p hp).1 c
/-- texts of signed terms -/
inductive TxR (U : List Nat) (most : Nat) (fr : Bool) : List Nat → List (Int × FV) → Prop where
  | one {g : Int} {f : List Nat} {v : FV} (b c : Nat) : (g = 1 ∨ g = -1) → TermB U most fr f v → PwV v → TxR U most fr (bl b ++ ((if g = 1 then [] else [45]) ++ (bl c ++ f))) [(g, v)]
  | more {s : List Nat} {l : List (Int × FV)} {g : Int} {f : List Nat} {v : FV} (b c : Nat) : TxR U most fr s l → (g = 1 ∨ g = -1) → TermB U most fr f v → PwV v → TxR U most fr (s ++ (bl b ++ sgC g :: (bl c ++ f))) (l ++ [(g, v)])
def sumL (l : List (Int × FV)) : Tm := l.foldl (fun t q => addT t q.1 q.2) []
theorem tail_app (r : List (Nat × Int × List Nat × FV)) (b : Nat) (g : Int) (u : List Nat) (v : FV) : tailTx (r ++ [(b, g, u, v)]) = tailTx r ++ (bl b ++ sgC g :: u) := by
  induction r with
  | nil => simp [tailTx]
  | cons q r ih =>
    obtain ⟨b', g', u', v'⟩ := q
    simp [tailTx, ih]
theorem sumV_fold : ∀ (r : List (Nat × Int × List Nat × FV)) (l : Tm), sumV l r = (r.map fun q => (q.2.1, q.2.2.2)).foldl (fun t q => addT t q.1 q.2) l
  | [], l => rfl
  | (b, g, u, v) :: r, l => by simp only [sumV, List.map_cons, List.foldl_cons, sumV_fold r]
theorem TxR.parts {U : List Nat} {most : Nat} {fr : Bool} {s : List Nat} {l : List (Int × FV)} (h : TxR U most fr s l) : ∃ (b c : Nat) (g : Int) (f : List Nat) (v : FV) (r : List (Nat × Int × List Nat × FV)), (g = 1 ∨ g = -1) ∧ TermB U most fr f v ∧ PwV v ∧ (∀ q ∈ r, RunT U most fr q ∧ PwV q.2.2.2) ∧
    s = bl b ++ ((if g = 1 then [] else [45]) ++ (bl c ++ f)) ++ tailTx r ∧ l = (g, v) :: r.map fun q => (q.2.1, q.2.2.2) := by
  induction h with
  | @one g f v b c hg hT hp => exact ⟨b, c, g, f, v, [], hg, hT, hp, fun q hq => (nomatch hq), by simp [tailTx], rfl⟩
  | @more s l g f v b c hs hg hT hp ih =>
    obtain ⟨b0, c0, g0, f0, v0, r, h1, h2, h3, h4, h5, h6⟩ := ih
    refine ⟨b0, c0, g0, f0, v0, r ++ [(b, g, bl c ++ f, v)], h1, h2, h3, fun q hq => ?_, ?_, ?_⟩
    · rcases List.mem_append.mp hq with z | z
      · exact h4 q z
      · rw [List.mem_singleton] at z
        subst z
        exact ⟨⟨hg, hT.1 c⟩, hp⟩
    · rw [tail_app, h5, List.append_assoc]
    · rw [h6]; simp
theorem TxR.run {U : List Nat} {most : Nat} {fr : Bool} {s u t : List Nat} {l : List (Int × FV)} {i : Nat} (h : TxR U most fr u l) (st : StopS t) (hd : s.drop i = u ++ t) : PwOk U most fr s i ∧ termsP U most fr s i = .ok (sumL l) (i + u.length) := by
  obtain ⟨b, c, g, f, v, r, hg, hT, hp, hr, h5, h6⟩ := h.parts
  have hl : sumL l = sumV (addT [] g v) r := by
    rw [sumV_fold, h6]; rfl
  rcases hg with hg | hg
  · subst hg
    have bb : bl b ++ bl c = bl (b + c) := by simp [bl, List.replicate_append_replicate]
    have hd' : s.drop i = (bl (b + c) ++ f) ++ (tailTx r ++ t) := by rw [hd, h5, ← bb]; simp
    have hn : nxt ((bl (b + c) ++ f) ++ (tailTx r ++ t)) ≠ some 45 := by
      rw [List.append_assoc]
      exact (hT.2.app _).nxt _
    refine ⟨rch_run st (hT.1 _) hp hr hd' hn, ?_⟩
    rw [terms_run st (hT.1 _) (fun q hq => (hr q hq).1) hd' hn, hl, h5]
    simp [bl]
    omega
  · subst hg
    have hd' : s.drop i = bl b ++ 45 :: ((bl c ++ f) ++ (tailTx r ++ t)) := by rw [hd, h5]; simp
    refine ⟨rch_runM st (hT.1 _) hp hr hd', ?_⟩
    rw [terms_runM st (hT.1 _) (fun q hq => (hr q hq).1) hd', hl, h5]
    simp [bl]
    omega
/-- a whole text, blanks behind -/
theorem TxR.whole {U : List Nat} {most : Nat} {fr : Bool} {u : List Nat} {l : List (Int × FV)} (b : Nat) (h : TxR U most fr u l) : PwOk U most fr (u ++ bl b) 0 ∧ termsP U most fr (u ++ bl b) 0 = .ok (sumL l) u.length ∧ (u ++ bl b)[sk (u ++ bl b) u.length]? = none := by
  obtain ⟨h1, h2⟩ := h.run (s := u ++ bl b) (i := 0) (t := bl b) stop_nil rfl
  refine ⟨h1, by simpa using h2, ?_⟩
  have hd : (u ++ bl b).drop u.length = bl b ++ [] := by simp
  have nb : NoB [] := by simp [NoB]
  exact at_none (sk_drop hd nb)
/-! ### whole numbers -/
def IntV (q : Int × FV) : Prop := q.2.2.1.2 = 1
def cL (p : Nat × Nat) : List (Int × FV) → Int
  | [] => 0
  | q :: l => (if p = q.2.1 then q.1 * q.2.2.1.1 else 0) + cL p l
theorem foldL_int : ∀ (l : List (Int × FV)) (t : Tm), IntT t → (∀ q ∈ l, IntV q) → IntT (l.foldl (fun t q => addT t q.1 q.2) t) ∧ ∀ p, cI (l.foldl (fun t q => addT t q.1 q.2) t) p = cI t p + cL p l
  | [], t, h, _ => ⟨h, fun p => by simp [cL]⟩
  | (g, (pw, (n, d), k)) :: l, t, h, hr => by
    have hd : d = 1 := hr _ List.mem_cons_self
    subst hd
    obtain ⟨a1, a2⟩ := addT_int (g := g) (n := n) (p := pw) (k := k) h
    obtain ⟨i1, i2⟩ := foldL_int l _ a1 fun q hq => hr q (List.mem_cons_of_mem _ hq)
    refine ⟨i1, fun p => ?_⟩
    show cI (l.foldl (fun t q => addT t q.1 q.2) (addT t g (pw, (n, 1), k))) p = cI t p + ((if p = pw then g * n else 0) + cL p l)
    rw [i2, a2]
    omega
theorem sumL_int {l : List (Int × FV)} (h : ∀ q ∈ l, IntV q) : IntT (sumL l) ∧ ∀ p, cI (sumL l) p = cL p l := by
  obtain ⟨h1, h2⟩ := foldL_int l [] intT_nil h
  exact ⟨h1, fun p => by rw [sumL, h2]; show 0 + _ = _; omega⟩
theorem foldL_all {Q : Nat × Nat → Prop} : ∀ (l : List (Int × FV)) (t : Tm), (∀ q ∈ t, Q q.1) → (∀ q ∈ l, Q q.2.1) → ∀ q ∈ l.foldl (fun t q => addT t q.1 q.2) t, Q q.1
  | [], t, h, _ => h
  | x :: l, t, h, hr => foldL_all l _ (putT_all (Q := fun q => Q q.1) _ _ (hr x List.mem_cons_self) t h) fun q hq => hr q (List.mem_cons_of_mem _ hq)
theorem foldL_uni : ∀ (l : List (Int × FV)) (t : Tm), UniT t → UniT (l.foldl (fun t q => addT t q.1 q.2) t)
  | [], t, h => h
  | x :: l, t, h => foldL_uni l _ (putT_uni _ _ t h)
theorem sumL_uni (l : List (Int × FV)) : UniT (sumL l) := foldL_uni l [] trivial
/-- a line's terms -/
theorem sumL_line {l : List (Int × FV)} {xs : List Int} (hi : ∀ q ∈ l, IntV q) (h0 : ∀ q ∈ l, q.2.1.2 = 0) (hx : ∀ k, cL (k, 0) l = xs.getD k 0) : lineV (sumL l) = trimZ xs := by
  obtain ⟨_, h2⟩ := sumL_int hi
  exact lineV_trim (sumL_uni l) (fun q hq => foldL_all (Q := fun p => p.2 = 0) l [] (fun q hq => (nomatch hq)) h0 q hq) fun k => by rw [h2, hx]
/-- a text of whole terms of a line is read -/
theorem readL_run {F : Nat → Option Fn} (TB : Tab F) (h100 : F 100 = some f100) (h102 : F 102 = some f102) (h104 : F 104 = some f104) (h54 : F 54 = some f54) (k : Nat) {u : List Nat} {l : List (Int × FV)} (hT : TxR [120] 8 false u l) (ha : asc u = true) (hl : u.length ≤ 1300)
    (hi : ∀ q ∈ l, IntV q) (h0 : ∀ q ∈ l, q.2.1.2 = 0) {xs : List Int} (hx : ∀ k, cL (k, 0) l = xs.getD k 0) (hf : FitL (trimZ xs)) (st : Sto) : callF F (k + 10) 54 [.str u] st = .ok (lineD (trimZ xs)) (st ++ [none]) := by
  obtain ⟨p1, p2, p3⟩ := hT.whole 0
  simp only [bl, List.replicate_zero, List.append_nil] at p1 p2 p3
  have e := sumL_line hi h0 hx
  have := readL_ok TB h100 h102 h104 h54 k (s := u) ⟨by omega, ha⟩ hl p1 p2 p3 (by rw [e]; exact hf) st
  rwa [e] at this
/-- and is refused nowhere -/
theorem refuse_run {F : Nat → Option Fn} (TB : Tab F) (k : Nat) {u : List Nat} {l : List (Int × FV)} (hT : TxR [120] 8 false u l) (ha : asc u = true) (hl : u.length ≤ 1300) (st : Sto) : ∃ z, callF F (k + 11) 96 [.str [108, 105, 110, 101], .str u] st = .ok .non (st ++ z) := by
  obtain ⟨p1, p2, p3⟩ := hT.whole 0
  simp only [bl, List.replicate_zero, List.append_nil] at p1 p2 p3
  have := refused_line TB (s := u) ⟨by omega, ha⟩ hl k p1 st
  unfold refuse at this
  rw [p2] at this
  dsimp only at this
  rw [p3] at this
  exact this
end PVL
set_option Elab.async false
set_option linter.all false
set_option maxRecDepth 10000
/-! PL22: sums that are written can be read. -/
namespace PVL
open PV
abbrev Fs := List (List Nat × FV)
def totP (fs : Fs) : Nat × Nat := ((fs.map (·.2.1.1)).sum, (fs.map (·.2.1.2)).sum)
def totN (fs : Fs) : Int := (fs.map (·.2.2.1.1)).foldr (· * ·) 1
theorem totP_app (a b : Fs) : totP (a ++ b) = ((totP a).1 + (totP b).1, (totP a).2 + (totP b).2) := by simp [totP]
theorem totN_app : ∀ (a b : Fs), totN (a ++ b) = totN a * totN b
  | [], b => by simp [totN]
  | q :: a, b => by
    have ih := totN_app a b
    unfold totN at ih ⊢
    simp only [List.cons_append, List.map_cons, List.foldr_cons, ih, Int.mul_assoc]
def IntF (fs : Fs) : Prop := ∀ q ∈ fs, q.2.2.1.2 = 1
theorem join_int {U : List Nat} {most : Nat} {fr : Bool} (b c : Nat) {fs : Fs} (h0 : fs ≠ []) (hs : ∀ q ∈ fs, FacB U most fr q.1 q.2) (hi : IntF fs) : ∃ k, TermB U most fr (joinD (bl b ++ 42 :: bl c) (fs.map (·.1))) (totP fs, (totN fs, 1), k) := by
  cases fs with
  | nil => exact absurd rfl h0
  | cons f fs =>
    obtain ⟨f, pp, nn, k⟩ := f
    obtain ⟨p1, p2⟩ := pp
    obtain ⟨n, d⟩ := nn
    have hd : d = 1 := hi _ List.mem_cons_self
    subst hd
    have r := join_run b c (hs _ List.mem_cons_self) (fs := fs) fun q hq => hs q (List.mem_cons_of_mem _ hq)
    obtain ⟨k', e⟩ := moreV_int (jTx b c fs) p1 p2 n k fun q hq => by
      obtain ⟨p, hp, rfl⟩ := List.mem_map.mp hq
      exact hi p (List.mem_cons_of_mem _ hp)
    rw [e] at r
    refine ⟨k', ?_⟩
    have e2 : ((p1 + ((jTx b c fs).map fun q => q.2.2.1.1).sum, p2 + ((jTx b c fs).map fun q => q.2.2.1.2).sum), ((n * ((jTx b c fs).map fun q => q.2.2.2.1.1).foldr (· * ·) 1, (1 : Int)), k')) = ((totP ((f, ((p1, p2), (n, 1), k)) :: fs), (totN ((f, ((p1, p2), (n, 1), k)) :: fs), 1), k') : FV) := by
      simp [totP, totN, jTx, Function.comp_def]
    rw [e2] at r
    exact r
theorem powTx_fs {U : List Nat} {most c p : Nat} {fr : Bool} (hc : p ≠ 0 → c ∈ U) (h : c = 120 ∨ c = 121) (hp : p ≤ most) : ∃ fs : Fs, fs.map (·.1) = powTx c p ∧ (∀ q ∈ fs, FacB U most fr q.1 q.2) ∧ IntF fs ∧ totP fs = (if c = 120 then (p, 0) else (0, p)) ∧ totN fs = 1 := by
  by_cases q0 : p = 0
  · subst q0
    exact ⟨[], rfl, fun q hq => (nomatch hq), fun q hq => (nomatch hq), by split <;> rfl, rfl⟩
  · have m := hc q0
    by_cases q1 : p = 1
    · subst q1
      refine ⟨[([c], (if c = 120 then (1, 0) else (0, 1), (1, 1), true))], by simp [powTx], fun q hq => ?_, fun q hq => ?_, ?_, by simp [totN]⟩
      · rw [List.mem_singleton] at hq
        subst hq
        exact facB_one m (by omega) (by omega) (by rcases h with rfl | rfl <;> rfl)
      · rw [List.mem_singleton] at hq
        subst hq
        rfl
      · simp only [totP, List.map_cons, List.map_nil, List.sum_cons, List.sum_nil]
        split <;> rfl
    · refine ⟨[(c :: (bl 0 ++ 94 :: (bl 0 ++ natText p)), (if c = 120 then (p, 0) else (0, p), (1, 1), true))], ?_, fun q hq => ?_, fun q hq => ?_, ?_, by simp [totN]⟩
      · unfold powTx
        rw [if_pos (show 0 < p by omega), if_pos (show 1 < p by omega)]
        simp [bl]
      · rw [List.mem_singleton] at hq
        subst hq
        exact facB_pow m (by omega) (by omega) (by rcases h with rfl | rfl <;> rfl) hp
      · rw [List.mem_singleton] at hq
        subst hq
        rfl
      · simp only [totP, List.map_cons, List.map_nil, List.sum_cons, List.sum_nil]
        split <;> rfl
theorem termTx_run {U : List Nat} {most : Nat} {p : Nat × Nat} {x : Int} (h1 : p.1 ≠ 0 → 120 ∈ U) (h2 : p.2 ≠ 0 → 121 ∈ U) (m1 : p.1 ≤ most) (m2 : p.2 ≤ most) (hx : x.natAbs ≤ 1000000) : ∃ k, TermB U most false (termTx p (x, 1)) (p, ((x.natAbs : Int), 1), k) := by
  obtain ⟨f1, a1, a2, a3, a4, a5⟩ := powTx_fs (fr := false) h1 (.inl rfl) m1
  obtain ⟨f2, b1, b2, b3, b4, b5⟩ := powTx_fs (fr := false) h2 (.inr rfl) m2
  have hN : ∃ f0 : Fs, f0.map (·.1) = (if (x.natAbs : Int) = 1 ∧ p ≠ (0, 0) then [] else [numTx x.natAbs 1]) ∧ (∀ q ∈ f0, FacB U most false q.1 q.2) ∧ IntF f0 ∧ totP f0 = (0, 0) ∧ totN f0 = x.natAbs ∧ (f0 = [] → p ≠ (0, 0)) := by
    by_cases c : (x.natAbs : Int) = 1 ∧ p ≠ (0, 0)
    · rw [if_pos c]
      exact ⟨[], rfl, fun q hq => (nomatch hq), fun q hq => (nomatch hq), rfl, by rw [c.1]; rfl, fun _ => c.2⟩
    · rw [if_neg c]
      refine ⟨[(natText x.natAbs, ((0, 0), ((x.natAbs : Int), 1), false))], by simp [numTx], fun q hq => ?_, fun q hq => ?_, by simp [totP], by simp [totN], fun z => (nomatch z)⟩
      · rw [List.mem_singleton] at hq
        subst hq
        exact facB_num hx
      · rw [List.mem_singleton] at hq
        subst hq
        rfl
  obtain ⟨f0, c1, c2, c3, c4, c5, c6⟩ := hN
  have ne : (f0 ++ f1) ++ f2 ≠ [] := by
    intro z
    rw [List.append_eq_nil_iff, List.append_eq_nil_iff] at z
    obtain ⟨⟨z0, z1⟩, z2⟩ := z
    have := c6 z0
    subst z1 z2
    have e1 := (powTx_nil 120 p.1).mp a1.symm
    have e2 := (powTx_nil 121 p.2).mp b1.symm
    exact this (Prod.ext e1 e2)
  obtain ⟨k, r⟩ := join_int (U := U) (most := most) (fr := false) 0 0 ne (fun q hq => by
    rcases List.mem_append.mp hq with h | h
    · rcases List.mem_append.mp h with h | h
      · exact c2 q h
      · exact a2 q h
    · exact b2 q h) (fun q hq => by
    rcases List.mem_append.mp hq with h | h
    · rcases List.mem_append.mp h with h | h
      · exact c3 q h
      · exact a3 q h
    · exact b3 q h)
  refine ⟨k, ?_⟩
  have e1 : ((f0 ++ f1) ++ f2).map (·.1) = termPs p (x, 1) := by
    rw [List.map_append, List.map_append, a1, b1, c1]
    rfl
  have e2 : totP ((f0 ++ f1) ++ f2) = p := by
    rw [totP_app, totP_app, a4, b4, c4]
    simp
  have e3 : totN ((f0 ++ f1) ++ f2) = x.natAbs := by rw [totN_app, totN_app, a5, b5, c5]; simp
  rw [e1, e2, e3] at r
  exact r
/-! ### sums -/
def sgn1 (x : Int) : Int := if x < 0 then -1 else 1
theorem sgn1_or (x : Int) : sgn1 x = 1 ∨ sgn1 x = -1 := by unfold sgn1; split <;> simp
theorem sgn1_mul (x : Int) : sgn1 x * (x.natAbs : Int) = x := by unfold sgn1; split <;> omega
structure TmW (U : List Nat) (most : Nat) (q : (Nat × Nat) × Fr) : Prop where
  h1 : q.1.1 ≠ 0 → 120 ∈ U
  h2 : q.1.2 ≠ 0 → 121 ∈ U
  m1 : q.1.1 ≤ most
  m2 : q.1.2 ≤ most
  hx : q.2.1.natAbs ≤ 1000000
  w : q.2.2 = 1
theorem sumStep_run {U : List Nat} {most : Nat} (hm : most < 256) {q : (Nat × Nat) × Fr} (h : TmW U most q) {t : List Nat} {l : List (Int × FV)} (ht : (t = [] ∧ l = []) ∨ TxR U most false t l) : ∃ k, TxR U most false (sumStep t q) (l ++ [(sgn1 q.2.1, (q.1, ((q.2.1.natAbs : Int), 1), k))]) := by
  obtain ⟨p, x, d⟩ := q
  have hd : d = 1 := h.w
  subst hd
  obtain ⟨k, r⟩ := termTx_run h.h1 h.h2 h.m1 h.m2 h.hx
  have pv : PwV (p, ((x.natAbs : Int), (1 : Int)), k) := ⟨by have : p.1 ≤ most := h.m1; show p.1 < 256; omega, by have : p.2 ≤ most := h.m2; show p.2 < 256; omega⟩
  refine ⟨k, ?_⟩
  rcases ht with ⟨rfl, rfl⟩ | ht
  · have e := TxR.one (U := U) (most := most) (fr := false) 0 0 (sgn1_or x) r pv
    have e2 : sumStep [] (p, x, 1) = bl 0 ++ ((if sgn1 x = 1 then [] else [45]) ++ (bl 0 ++ termTx p (x, 1))) := by
      unfold sumStep sgn1
      by_cases c : x < 0 <;> simp [c, bl]
    rw [e2]
    exact e
  · have e := TxR.more 0 0 ht (sgn1_or x) r pv
    have tn : t ≠ [] := by
      intro z
      subst z
      obtain ⟨b, c, g, f, v, r, _, hT, _, _, h5, _⟩ := ht.parts
      have := congrArg List.length h5
      obtain ⟨c', r', rfl, _⟩ := hT.2
      simp at this
    have e2 : sumStep t (p, x, 1) = t ++ (bl 0 ++ sgC (sgn1 x) :: (bl 0 ++ termTx p (x, 1))) := by
      unfold sumStep sgn1
      by_cases c : x < 0
      · simp [c, bl, sgC]
      · simp [c, bl, sgC, tn]
    rw [e2]
    exact e
theorem sumFold_run {U : List Nat} {most : Nat} (hm : most < 256) : ∀ (L : Tm) {t : List Nat} {l : List (Int × FV)}, (∀ q ∈ L, TmW U most q) → ((t = [] ∧ l = []) ∨ TxR U most false t l) → ∃ l', ((L.foldl sumStep t = [] ∧ l ++ l' = []) ∨ TxR U most false (L.foldl sumStep t) (l ++ l')) ∧ l'.map (fun q => (q.2.1, q.1 * q.2.2.1.1)) = L.map (fun q => (q.1, q.2.1)) ∧ (∀ q ∈ l', IntV q)
  | [], t, l, _, h => ⟨[], by simpa using h, rfl, fun q hq => (nomatch hq)⟩
  | q :: L, t, l, hq, h => by
    obtain ⟨k, r⟩ := sumStep_run hm (hq _ List.mem_cons_self) h
    obtain ⟨l', r1, r2, r3⟩ := sumFold_run hm L (fun z hz => hq z (List.mem_cons_of_mem _ hz)) (.inr r)
    refine ⟨(sgn1 q.2.1, (q.1, ((q.2.1.natAbs : Int), 1), k)) :: l', ?_, ?_, fun z hz => ?_⟩
    · simpa using r1
    · simp only [List.map_cons, r2, sgn1_mul]
    · rcases List.mem_cons.mp hz with z | z
      · subst z; rfl
      · exact r3 _ z
/-- what is told by a row: the integer at powers -/
def cR (p : Nat × Nat) : List ((Nat × Nat) × Int) → Int
  | [] => 0
  | q :: l => (if p = q.1 then q.2 else 0) + cR p l
theorem cL_cR (p : Nat × Nat) : ∀ l : List (Int × FV), cL p l = cR p (l.map fun q => (q.2.1, q.1 * q.2.2.1.1))
  | [] => rfl
  | q :: l => by simp only [cL, List.map_cons, cR, cL_cR p l]
theorem sumTx_run {U : List Nat} {most : Nat} (hm : most < 256) {L : Tm} (h : ∀ q ∈ L, TmW U most q) : ∃ l, TxR U most false (sumTx L) l ∧ (∀ q ∈ l, IntV q) ∧ (∀ p, cL p l = cR p ((srt ltR L).map fun q => (q.1, q.2.1))) ∧ (∀ q ∈ l, q.2.1 ∈ (0, 0) :: L.map (·.1)) := by
  obtain ⟨l', r1, r2, r3⟩ := sumFold_run hm (srt ltR L) (t := []) (l := []) (fun q hq => h q (srt_mem.mp hq)) (.inl ⟨rfl, rfl⟩)
  rw [List.nil_append] at r1
  unfold sumTx
  rcases r1 with ⟨z1, z2⟩ | r1
  · rw [if_neg (by simp [z1])]
    subst z2
    refine ⟨[(1, ((0, 0), (((0 : Nat) : Int), 1), false))], ?_, fun q hq => ?_, fun p => ?_, fun q hq => ?_⟩
    · have : TermB U most false (natText 0) ((0, 0), (((0 : Nat) : Int), 1), false) := by
        have := facB_num (U := U) (most := most) (n := 0) (by decide)
        have r := join_run 0 0 this (fs := []) fun q hq => (nomatch hq)
        exact r
      exact TxR.one (U := U) (most := most) (fr := false) 0 0 (.inl rfl) this ⟨by decide, by decide⟩
    · rw [List.mem_singleton] at hq
      subst hq
      rfl
    · rw [← r2]
      simp [cL, cR]
    · rw [List.mem_singleton] at hq
      subst hq
      exact List.mem_cons_self
  · have tn : (srt ltR L).foldl sumStep [] ≠ [] := by
      intro z
      rw [z] at r1
      obtain ⟨b, c, g, f, v, r, _, hT, _, _, h5, _⟩ := r1.parts
      have := congrArg List.length h5
      obtain ⟨c', r', rfl, _⟩ := hT.2
      simp at this
    rw [if_pos tn]
    refine ⟨l', r1, r3, fun p => by rw [cL_cR, r2], fun q hq => ?_⟩
    have : (q.2.1, q.1 * q.2.2.1.1) ∈ (srt ltR L).map fun q => (q.1, q.2.1) := by rw [← r2]; exact List.mem_map.mpr ⟨q, hq, rfl⟩
    obtain ⟨z, hz, e⟩ := List.mem_map.mp this
    refine List.mem_cons_of_mem _ (List.mem_map.mpr ⟨z, srt_mem.mp hz, ?_⟩)
    injection e
theorem cR_ins (p : Nat × Nat) (x : (Nat × Nat) × Fr) : ∀ ys : Tm, cR p ((insB ltR x ys).map fun q => (q.1, q.2.1)) = (if p = x.1 then x.2.1 else 0) + cR p (ys.map fun q => (q.1, q.2.1))
  | [] => rfl
  | y :: ys => by
    unfold insB
    split
    · simp only [List.map_cons, cR, cR_ins p x ys]
      omega
    · rfl
theorem cR_srt (p : Nat × Nat) : ∀ xs : Tm, cR p ((srt ltR xs).map fun q => (q.1, q.2.1)) = cR p (xs.map fun q => (q.1, q.2.1))
  | [] => rfl
  | x :: xs => by
    unfold srt
    rw [cR_ins, cR_srt p xs]
    rfl
end PVL
set_option Elab.async false
set_option linter.all false
set_option maxRecDepth 10000
/-! PL23: sum_text, row_of_line, write_line. -/
namespace PVL
open PV
structure TxLo (q : (Nat × Nat) × Fr) : Prop where
  ok : TxOk q.1 q.2
  lo : (q.2.1.natAbs : Int) = q.2.2 → q.2.2 = 1
theorem foldStep_len (l : Tm) (t : List Nat) (h : ∀ q ∈ l, TxOk q.1 q.2) : (l.foldl sumStep t).length ≤ t.length + l.length * 12101 := sumFold_len (n := 12100) l t fun q hq => termTx_len (h q hq)
def b51 : Ss := Ss.cons (S.asg (T.n 4) (E.ite (E.cmp (CO.lt) (E.idx (E.v 3) (E.c (D.int 0))) (E.c (D.int 0))) (E.c (D.str [45])) (E.ite (E.cmp (CO.ne) (E.v 1) (E.c (D.str []))) (E.c (D.str [43])) (E.c (D.str [])))))
  (Ss.cons (S.asg (T.n 1) (E.bin (BO.add) (E.bin (BO.add) (E.v 1) (E.v 4)) (E.call 50 (Es.cons (E.v 2) (Es.cons (E.v 3) (Es.nil)))))) (Ss.nil))
section
variable {F : Nat → Option Fn}
theorem sum51_loop (h48 : F 48 = some f48) (h49 : F 49 = some f49) (h50 : F 50 = some f50) (k : Nat) {room : Bool} {r : D} (st : Sto) : ∀ (l : Tm) (t : List Nat) (o2 o3 o4 : Option D), (∀ q ∈ l, TxLo q) → asc t = true → t.length + l.length * 12101 ≤ 1000000 →
    ∃ (u2 u3 u4 : Option D), forR (T.t2 (T.n 2) (T.n 3)) (fun δ st => evSs (callF F (k + 2)) room b51 δ st) (l.map itemD) [some r, some (.str t), o2, o3, o4] st = .ok (.nx [some r, some (.str (l.foldl sumStep t)), u2, u3, u4]) st
  | [], t, o2, o3, o4, _, _, _ => ⟨o2, o3, o4, rfl⟩
  | q :: l, t, o2, o3, o4, h, ha, hl => by
    have hq := h q List.mem_cons_self
    have tt := term50_ok h48 h49 h50 k (p := q.1) (x := q.2) (q := false) hq.ok hq.lo st
    have tl := termTx_len hq.ok
    have sl := sumStep_len t q tl
    rw [List.length_cons, Nat.add_mul] at hl
    let sg : List Nat := if q.2.1 < 0 then [45] else if t ≠ [] then [43] else []
    have sgl : sg.length ≤ 1 := by show (if q.2.1 < 0 then [45] else if t ≠ [] then [43] else []).length ≤ 1; repeat' split
                                   all_goals simp
    obtain ⟨u2, u3, u4, ih⟩ := sum51_loop h48 h49 h50 k (room := room) (r := r) st l (sumStep t q) (some (pwD q.1)) (some (frD false q.2)) (some (.str sg)) (fun z hz => h z (List.mem_cons_of_mem _ hz)) (sumStep_asc ha q) (by omega)
    refine ⟨u2, u3, u4, ?_⟩
    rw [List.map_cons]
    unfold forR
    rw [show asgT (T.t2 (T.n 2) (T.n 3)) (itemD q) [some r, some (.str t), o2, o3, o4] = some [some r, some (.str t), some (pwD q.1), some (frD false q.2), o4] from rfl]
    dsimp only
    have i0 : idxD (frD false q.2) (.int 0) st = .ok (.int q.2.1) st := by unfold frD; exact idx_tup0 _ _ _ _
    have nt : cmpD .ne (.str t) (.str []) = some (decide (t ≠ [])) := ne_str ha (by rfl)
    have a1 : binD .add (.str t) (.str sg) st = .ok (.str (t ++ sg)) st := add_str (by omega) st
    have a2 : binD .add (.str (t ++ sg)) (.str (termTx q.1 q.2)) st = .ok (.str ((t ++ sg) ++ termTx q.1 q.2)) st := add_str (by rw [List.length_append]; omega) _
    have e1 : ev (callF F (k + 2)) (E.ite (E.cmp (CO.lt) (E.idx (E.v 3) (E.c (D.int 0))) (E.c (D.int 0))) (E.c (D.str [45])) (E.ite (E.cmp (CO.ne) (E.v 1) (E.c (D.str []))) (E.c (D.str [43])) (E.c (D.str [])))) false [some r, some (.str t), some (pwD q.1), some (frD false q.2), o4] st = .ok (.str sg) st := by
      show _ = R.ok (D.str (if q.2.1 < 0 then [45] else if t ≠ [] then [43] else [])) st
      by_cases c1 : q.2.1 < 0
      · simp only [ev_ite, ev_cmp, ev_idx, ev_v3, ev_c, tst_f, bind_ok, i0, lt_int, okO_s, c1, decide_true, onB_t, if_pos]
      · by_cases c2 : t = []
        · subst c2
          have nt2 : cmpD .ne (.str []) (.str []) = some false := rfl
          simp only [ev_ite, ev_cmp, ev_idx, ev_v3, ev_v1, ev_c, tst_f, bind_ok, i0, lt_int, okO_s, c1, decide_false, onB_f, nt2]
          simp
        · have nt2 : cmpD .ne (.str t) (.str []) = some true := by rw [nt]; simp [c2]
          simp only [ev_ite, ev_cmp, ev_idx, ev_v3, ev_v1, ev_c, tst_f, bind_ok, i0, lt_int, okO_s, c1, decide_false, onB_f, onB_t, nt2]
          simp [c2]
    have ss : sumStep t q = (t ++ sg) ++ termTx q.1 q.2 := rfl
    have st1 : evSs (callF F (k + 2)) room b51 [some r, some (.str t), some (pwD q.1), some (frD false q.2), o4] st = .ok (.nx [some r, some (.str (sumStep t q)), some (pwD q.1), some (frD false q.2), some (.str sg)]) st := by
      rw [ss, b51, evSs_cons, evS_asg, e1, thn_ok]
      rw [show asgT (T.n 4) (D.str sg) [some r, some (.str t), some (pwD q.1), some (frD false q.2), o4] = some [some r, some (.str t), some (pwD q.1), some (frD false q.2), some (.str sg)] from rfl, nxt_s, seq_nx]
      simp only [evSs_cons, evSs_nil, evS_asg, ev_bin, ev_v1, ev_v4, tst_f, bind_ok, a1, ev_call, evs_cons, evs_nil, ev_v2, ev_v3, tt, a2, thn_ok]
      rfl
    rw [st1]
    dsimp only
    rw [ih, List.foldl_cons]
theorem okS_all (l : Tm) : (l.map itemD).all okS = true := by
  rw [List.all_eq_true]
  intro d hd
  obtain ⟨q, _, rfl⟩ := List.mem_map.mp hd
  rfl
theorem sum51_ok (h48 : F 48 = some f48) (h49 : F 49 = some f49) (h50 : F 50 = some f50) (h51 : F 51 = some f51) (k : Nat) {l : Tm} (u : UniT l) (hl : l.length ≤ 80) (hq : ∀ q ∈ l, TxLo q) (st : Sto) : callF F (k + 3) 51 [.lst (l.map itemD)] st = .ok (.str (sumTx l)) st := by
  rw [callF_at [some (.lst (l.map itemD)), none, none, none, none] h51 rfl rfl]
  obtain ⟨u2, u3, u4, lp⟩ := sum51_loop h48 h49 h50 k (room := Nat.blt 2 (k + 2)) (r := .lst (l.map itemD)) st (srt ltR l) [] none none none (fun q h => hq q (srt_mem.mp h)) rfl (by rw [srt_len]; simp; omega)
  rw [show f51.body = Ss.cons (S.asg (T.n 1) (E.c (D.str []))) (Ss.cons (S.fr (T.t2 (T.n 2) (T.n 3)) (I.of (E.srtS (E.v 0))) b51) (Ss.cons (S.ret (E.ite (E.cmp (CO.ne) (E.v 1) (E.c (D.str []))) (E.v 1) (E.c (D.str [48])))) (Ss.nil))) from rfl]
  have ei : evI (callF F (k + 2)) (I.of (E.srtS (E.v 0))) [some (.lst (l.map itemD)), some (.str []), none, none, none] st = .ok ((srt ltR l).map itemD) st := by
    have e : ev (callF F (k + 2)) (E.srtS (E.v 0)) false [some (.lst (l.map itemD)), some (.str []), none, none, none] st = .ok (.lst ((srt ltR l).map itemD)) st := by
      show okb ((l.map itemD).all okS) (.lst (isort ltS (l.map itemD))) st = _
      rw [okS_all, isort_mapI, srt_eq u]
      rfl
    rw [evI_of, e]
    rfl
  rw [evSs_cons, evS_asg, ev_c, tst_f, thn_ok, show asgT (T.n 1) (D.str []) [some (.lst (l.map itemD)), none, none, none, none] = some [some (.lst (l.map itemD)), some (.str []), none, none, none] from rfl, nxt_s, seq_nx, evSs_cons, evS_fr]
  rw [ei, thn_ok, lp, seq_nx]
  have nt : cmpD .ne (.str ((srt ltR l).foldl sumStep [])) (.str []) = some (decide ((srt ltR l).foldl sumStep [] ≠ [])) := ne_str (sumFold_asc _ rfl) (by rfl)
  unfold sumTx
  generalize (srt ltR l).foldl sumStep [] = t at nt ⊢
  by_cases c : t = []
  · subst c
    simp [show cmpD .ne (.str []) (.str []) = some false from rfl]
  · simp [nt, c]
end
/-! ### rows of lines -/
def rowL : Nat → List Int → Tm
  | _, [] => []
  | i, x :: xs => if x ≠ 0 then ((i, 0), (x, 1)) :: rowL (i + 1) xs else rowL (i + 1) xs
theorem rowL_ge : ∀ (xs : List Int) (i : Nat), ∀ q ∈ rowL i xs, i ≤ q.1.1 ∧ q.1.1 < i + xs.length ∧ q.1.2 = 0 ∧ q.2.2 = 1 ∧ q.2.1 ∈ xs
  | [], i, q, h => by cases h
  | x :: xs, i, q, h => by
    unfold rowL at h
    have r : ∀ q ∈ rowL (i + 1) xs, i ≤ q.1.1 ∧ q.1.1 < i + (x :: xs).length ∧ q.1.2 = 0 ∧ q.2.2 = 1 ∧ q.2.1 ∈ x :: xs := fun q h => by
      obtain ⟨a, b, c, d, e⟩ := rowL_ge xs (i + 1) q h
      exact ⟨by omega, by simp; omega, c, d, List.mem_cons_of_mem _ e⟩
    split at h
    · rcases List.mem_cons.mp h with z | z
      · subst z
        exact ⟨Nat.le_refl _, by simp, rfl, rfl, List.mem_cons_self⟩
      · exact r q z
    · exact r q h
theorem rowL_uni : ∀ (xs : List Int) (i : Nat), UniT (rowL i xs)
  | [], _ => trivial
  | x :: xs, i => by
    unfold rowL
    split
    · refine ⟨?_, rowL_uni xs (i + 1)⟩
      rw [List.any_eq_false]
      intro q hq
      have := (rowL_ge xs (i + 1) q hq).1
      simp only [decide_eq_true_eq]
      intro z
      rw [z] at this
      simp at this
      omega
    · exact rowL_uni xs (i + 1)
theorem rowL_len : ∀ (xs : List Int) (i : Nat), (rowL i xs).length ≤ xs.length
  | [], _ => Nat.le_refl _
  | x :: xs, i => by
    have := rowL_len xs (i + 1)
    unfold rowL
    split <;> simp <;> omega
theorem rowL_c : ∀ (xs : List Int) (i k : Nat), cR (i + k, 0) ((rowL i xs).map fun q => (q.1, q.2.1)) = xs.getD k 0
  | [], i, k => rfl
  | x :: xs, i, k => by
    unfold rowL
    cases k with
    | zero =>
      have h0 : cR (i + 0, 0) ((rowL (i + 1) xs).map fun q => (q.1, q.2.1)) = 0 := by
        have : ∀ (l : Tm), (∀ q ∈ l, i + 1 ≤ q.1.1) → cR (i + 0, 0) (l.map fun q => (q.1, q.2.1)) = 0 := by
          intro l
          induction l with
          | nil => intro _; rfl
          | cons q l ih =>
            intro h
            have h1 := h q List.mem_cons_self
            rw [List.map_cons]
            unfold cR
            rw [ih fun z hz => h z (List.mem_cons_of_mem _ hz), if_neg]
            · rfl
            · intro z
              have : i + 0 = q.1.1 := congrArg Prod.fst z
              omega
        exact this _ fun q hq => (rowL_ge xs (i + 1) q hq).1
      split
      · simp only [List.map_cons, cR, h0]
        simp
      · rename_i hx
        rw [h0]
        have : x = 0 := Classical.not_not.mp hx
        simp [this]
    | succ k =>
      have ih := rowL_c xs (i + 1) k
      rw [show i + 1 + k = i + (k + 1) by omega] at ih
      split
      · simp only [List.map_cons, cR, ih]
        rw [if_neg (by intro z; have : i + (k + 1) = i := congrArg Prod.fst z; omega)]
        simp
      · rw [ih]; simp
theorem rowL_map : ∀ (xs : List Int) (i : Nat), ((enumD (i : Int) (xs.map .int)).filter (fun d => match d with | .tup _ [_, .int n] => decide (n ≠ 0) | _ => false)).map (fun d => match d with | .tup _ [a, b] => .tup false [.tup false [a, .int 0], .tup false [b, .int 1]] | _ => .non) = (rowL i xs).map itemD
  | [], i => rfl
  | x :: xs, i => by
    have ih := rowL_map xs (i + 1)
    have e : enumD (i : Int) ((x :: xs).map D.int) = .tup false [.int i, .int x] :: enumD ((i + 1 : Nat) : Int) (xs.map .int) := by
      show D.tup false [.int i, .int x] :: enumD ((i : Int) + 1) (xs.map .int) = _
      rfl
    rw [e]
    unfold rowL
    by_cases hx : x = 0
    · rw [List.filter_cons_of_neg (by simp [hx]), if_neg (by simp [hx])]
      exact ih
    · rw [List.filter_cons_of_pos (by simp [hx]), if_pos hx, List.map_cons, List.map_cons, ih]
      rfl
section
variable {F : Nat → Option Fn}
theorem enum_len : ∀ (ds : List D) (i : Int), (enumD i ds).length = ds.length
  | [], _ => rfl
  | d :: ds, i => by show (enumD (i + 1) ds).length + 1 = _; rw [enum_len]; rfl
/-- the comprehension that makes a row of a line -/
theorem rowc_ok {call : Nat → List D → Sto → R D} {a b : Nat} {e0 : E} {c : Eo} {e : E} {δ : Sl} {st : Sto} {xs : List Int} (he : ev call e0 false δ st = .ok (lineD xs) st ∨ ev call e0 false δ st = .ok (.lst (xs.map .int)) st) (hl : xs.length ≤ 1000)
    (hs : ∀ i x : Int, ∃ δ1, asgT (T.t2 (T.n a) (T.n b)) (.tup false [.int i, .int x]) (wipe δ [a, b]) = some δ1 ∧ evc call c δ1 st = .ok (decide (x ≠ 0)) st ∧ (decide (x ≠ 0) = true → ev call e false δ1 st = .ok (.tup false [.tup false [.int i, .int 0], .tup false [.int x, .int 1]]) st)) :
    ev call (.lc [a, b] (T.t2 (T.n a) (T.n b)) (I.enum e0) c e) false δ st = .ok (.lst ((rowL 0 xs).map itemD)) st := by
  have ei : evI call (I.enum e0) δ st = .ok (enumD ((0 : Nat) : Int) (xs.map .int)) st := by
    rw [evI_enum]
    rcases he with he | he <;> rw [he] <;> rfl
  rw [lc_ok (fun d => match d with | .tup _ [_, .int n] => decide (n ≠ 0) | _ => false) (fun d => match d with | .tup _ [a, b] => .tup false [.tup false [a, .int 0], .tup false [b, .int 1]] | _ => .non) ei (by simp [T.ix]) ?_ (by rw [enum_len, List.length_map]; exact Nat.ble_eq_true_of_le (by omega)), rowL_map]
  · rfl
  · intro d hd
    have : ∀ (ys : List Int) (i : Int), d ∈ enumD i (ys.map D.int) → ∃ j x : Int, d = .tup false [.int j, .int x] := by
      intro ys
      induction ys with
      | nil => intro i h; cases h
      | cons y ys ih =>
        intro i h
        rcases List.mem_cons.mp h with z | z
        · exact ⟨i, y, z⟩
        · exact ih (i + 1) z
    obtain ⟨j, x, rfl⟩ := this _ _ hd
    exact hs j x
theorem row52_ok (h52 : F 52 = some f52) (k : Nat) {xs : List Int} (hl : xs.length ≤ 1000) (st : Sto) : callF F (k + 1) 52 [lineD xs] st = .ok (.lst ((rowL 0 xs).map itemD)) st := by
  rw [callF_at [some (lineD xs), none, none] h52 rfl rfl]
  have e := rowc_ok (call := callF F k) (a := 1) (b := 2) (e0 := E.v 0) (c := Eo.some (E.cmp (CO.ne) (E.v 2) (E.c (D.int 0)))) (e := E.tup (Es.cons (E.tup (Es.cons (E.v 1) (Es.cons (E.c (D.int 0)) (Es.nil)))) (Es.cons (E.tup (Es.cons (E.v 2) (Es.cons (E.c (D.int 1)) (Es.nil)))) (Es.nil)))) (δ := [some (lineD xs), none, none]) (st := st) (xs := xs) (.inl rfl) hl
    (fun i x => ⟨[some (lineD xs), some (.int i), some (.int x)], rfl, by by_cases q : x = 0 <;> simp [q], fun _ => by simp [fits2]⟩)
  simp only [f52, evSs_cons, evSs_nil, evS_ret]
  rw [e]
  rfl
/-- lines' rows -/
theorem rowL_lo {xs : List Int} (h : FitL xs) : ∀ q ∈ rowL 0 xs, TxLo q := fun q hq => by
  obtain ⟨_, h2, h3, h4, h5⟩ := rowL_ge xs 0 q hq
  have hc := h.co _ h5
  have big : ∀ n : Nat, n < 2 ^ 64 → n < 2 ^ 1900 := fun n hn => Nat.lt_of_lt_of_le hn (Nat.pow_le_pow_right (by decide) (by decide))
  have hl := h.len
  exact ⟨⟨big _ (by omega), big _ (by omega), big _ (by omega), by rw [h4]; decide, by rw [h4]; exact big _ (by decide)⟩, fun _ => h4⟩
theorem rowL_w {xs : List Int} (h : FitL xs) : ∀ q ∈ rowL 0 xs, TmW [120] 8 q := fun q hq => by
  obtain ⟨_, h2, h3, h4, h5⟩ := rowL_ge xs 0 q hq
  have hc := h.co _ h5
  have hl := h.len
  exact ⟨fun _ => by simp, fun z => absurd h3 z, by omega, by omega, by omega, h4⟩
theorem nat7 : ∀ n, n ≤ 1000000 → (natText n).length ≤ 20 := fun n h => natText_len (m := 20) (by omega) (by decide)
theorem rowL_tx {xs : List Int} (h : FitL xs) : (sumTx (rowL 0 xs)).length ≤ 700 ∧ asc (sumTx (rowL 0 xs)) = true := by
  refine ⟨?_, sumTx_asc _⟩
  have := sumTx_len (n := 68) (l := rowL 0 xs) fun q hq => by
    obtain ⟨_, h2, h3, h4, h5⟩ := rowL_ge xs 0 q hq
    have hc := h.co _ h5
    have hl := h.len
    refine termTx_lenB (n := 20) (nat7 _ (by omega)) (nat7 _ (by omega)) ?_
    unfold numTx
    rw [h4, if_neg (by simp)]
    have := nat7 q.2.1.natAbs (by omega)
    simp
    omega
  have l2 := rowL_len xs 0
  have hl := h.len
  have : (rowL 0 xs).length * (68 + 1) ≤ 9 * 69 := Nat.mul_le_mul_right _ (by omega)
  omega
theorem write_ok (h48 : F 48 = some f48) (h49 : F 49 = some f49) (h50 : F 50 = some f50) (h51 : F 51 = some f51) (h52 : F 52 = some f52) (h53 : F 53 = some f53) (h100 : F 100 = some f100) (h102 : F 102 = some f102) (h104 : F 104 = some f104) (h107 : F 107 = some f107) (k : Nat) {xs : List Int} (h : FitL xs) (st : Sto) : callF F (k + 4) 53 [lineD xs] st = .ok (.str (sumTx (rowL 0 xs))) st := by
  rw [callF_at [some (lineD xs)] h53 rfl rfl]
  have n1 := needL_ok h100 h102 h104 h107 k h st
  have r1 : callF F (k + 3) 52 [lineD xs] st = .ok (.lst ((rowL 0 xs).map itemD)) st := row52_ok h52 (k + 2) (by have := h.len; omega) st
  have s1 := sum51_ok h48 h49 h50 h51 k (rowL_uni xs 0) (by have := rowL_len xs 0; have := h.len; omega) (rowL_lo h) st
  simp [f53, n1, r1, s1]
/-- what is written is read again -/
theorem reread_ok (TB : Tab F) (h100 : F 100 = some f100) (h102 : F 102 = some f102) (h104 : F 104 = some f104) (h54 : F 54 = some f54) (k : Nat) {xs : List Int} (h : FitL xs) (st : Sto) : callF F (k + 10) 54 [.str (sumTx (rowL 0 xs))] st = .ok (lineD xs) (st ++ [none]) := by
  obtain ⟨l, t1, t2, t3, t4⟩ := sumTx_run (U := [120]) (most := 8) (by decide) (rowL_w h)
  obtain ⟨l1, a1⟩ := rowL_tx h
  have tz : trimZ xs = xs := noz_ext (trimZ_noz _) h.nz fun k => trimZ_getD xs k
  have := readL_run TB h100 h102 h104 h54 k t1 a1 (by omega) t2 (fun q hq => by
    rcases List.mem_cons.mp (t4 q hq) with z | z
    · rw [z]
    · obtain ⟨p, hp, e⟩ := List.mem_map.mp z
      rw [← e]
      exact (rowL_ge xs 0 p hp).2.2.1) (xs := xs) (fun k => by rw [t3, cR_srt]; have := rowL_c xs 0 k; rwa [Nat.zero_add] at this) (by rw [tz]; exact h) st
  rwa [tz] at this
end
end PVL
set_option Elab.async false
set_option linter.all false
set_option maxRecDepth 10000
/-! PL24: the law's own text of a sum: factors in any order, blanks. -/
namespace PVL
open PV
structure FOk (q : List Nat × FV) : Prop where
  fac : FacB [120] 8 false q.1 q.2
  w : q.2.2.1.2 = 1
  a : asc q.1 = true
  l : q.1.length ≤ 20
theorem joinD_le (sep : List Nat) : ∀ ps : List (List Nat), (joinD sep ps).length ≤ (ps.map List.length).sum + sep.length * ps.length
  | [] => by simp [joinD]
  | [x] => by simp [joinD]
  | x :: y :: r => by
    have ih := joinD_le sep (y :: r)
    show (x ++ sep ++ joinD sep (y :: r)).length ≤ _
    rw [List.length_append, List.length_append]
    simp only [List.map_cons, List.sum_cons, List.length_cons, Nat.mul_add] at ih ⊢
    omega
theorem foldl_sum (ns : List Nat) (a : Nat) : ns.foldl (· + ·) a = a + ns.sum := by
  induction ns generalizing a with
  | nil => simp
  | cons n ns ih => rw [List.foldl_cons, ih, List.sum_cons]; omega
theorem joins_ok {sep : List Nat} {ps : List (List Nat)} (h : (ps.map List.length).sum + sep.length * ps.length ≤ 1000000) (st : Sto) : mtD .join (.str sep) [.lst (ps.map .str)] st = .ok (.str (joinD sep ps)) st := by
  simp only [mtD, strsD_map]
  have : fits ((ps.map List.length).foldl (· + ·) (sep.length * ps.length)) = true := Nat.ble_eq_true_of_le (by rw [foldl_sum]; omega)
  rw [this]; rfl
def LenF (fs : Fs) : Nat := (fs.map (·.1.length)).sum
theorem LenF_app (a b : Fs) : LenF (a ++ b) = LenF a + LenF b := by simp [LenF]
theorem LenF_eq (fs : Fs) : ((fs.map (·.1)).map List.length).sum = LenF fs := by simp [LenF, Function.comp_def]
theorem fx_ok {p : Nat} (hp : p ≤ 8) (r : List Nat) (h : r = [94] ++ natText p ∨ r = [32, 94, 32] ++ natText p ∨ (r = [] ∧ p = 1)) : ∃ v, FOk (120 :: r, v) ∧ v.1 = (p, 0) ∧ v.2.1.1 = 1 ∧ (120 :: r).length ≤ 5 := by
  have l1 : (natText p).length ≤ 1 := by
    have : ∀ n, n ≤ 8 → (natText n).length ≤ 1 := by decide
    exact this p hp
  have f : ∀ b1 b2 : Nat, FacB [120] 8 false (120 :: (bl b1 ++ 94 :: (bl b2 ++ natText p))) ((p, 0), (1, 1), true) := fun b1 b2 => facB_pow (U := [120]) (most := 8) (b1 := b1) (b2 := b2) (by simp) (by decide) (by decide) (by rfl) hp
  rcases h with rfl | rfl | ⟨rfl, rfl⟩
  · refine ⟨_, ⟨f 0 0, rfl, ?_, ?_⟩, rfl, rfl, ?_⟩
    · simp [natText_asc]
    · simp; omega
    · simp; omega
  · refine ⟨_, ⟨f 1 1, rfl, ?_, ?_⟩, rfl, rfl, ?_⟩
    · simp [natText_asc]
    · simp; omega
    · simp; omega
  · exact ⟨_, ⟨facB_one (U := [120]) (most := 8) (fr := false) (by simp) (by decide) (by decide) (by rfl), rfl, by rfl, by decide⟩, rfl, rfl, by decide⟩
/-- the law's text of terms, its loops -/
def b138 : Ss := match f138.body with
  | .cons _ (.cons (.fr _ _ b) _) => b
  | _ => .nil
def w138 : Ss := match b138 with
  | .cons _ (.cons (.wh _ b) _) => b
  | _ => .nil
def r138 : Ss := match b138 with
  | .cons _ (.cons _ b) => b
  | _ => .nil
section
variable {F : Nat → Option Fn}
structure FsI (fs : Fs) (p n : Nat) : Prop where
  ok : ∀ q ∈ fs, FOk q
  p : totP fs = (p, 0)
  n : totN fs = n
def fsD (fs : Fs) : D := .lst ((fs.map (·.1)).map .str)
theorem eq_nilF {fs : Fs} (h : ∀ q ∈ fs, FOk q) : cmpD .eq (fsD fs) (.lst []) = some (decide (fs = [])) := by
  unfold fsD
  rw [eq_nilL _ fun t ht => by obtain ⟨q, hq, rfl⟩ := List.mem_map.mp ht; exact (h q hq).a]
  simp
theorem w138_loop (h131 : F 131 = some f131) (h132 : F 132 = some f132) (k : Nat) {room : Bool} {x1 x2 x3 x4 x9 x10 : Option D} {z : Sto} {pw : Nat} (hpw : pw ≤ 8) : ∀ (m left n : Nat) (fs : Fs) (o7 o8 : Option D) (a b : Int), left < n → left < m → left ≤ pw → FsI fs (pw - left) 1 → fs.length ≤ pw - left → LenF fs ≤ 5 * (pw - left) → CupOk a b →
    ∃ (fs' : Fs) (u7 u8 : Option D) (a' b' : Int), whR (fun δ st => ev (callF F (k + 2)) (E.cmp (CO.gt) (E.v 6) (E.c (D.int 0))) true δ st) (fun δ st => evSs (callF F (k + 2)) room w138 δ st) n [some (.ref 0), x1, x2, x3, x4, some (fsD fs), some (.int left), o7, o8, x9, x10] (cupO a b :: z)
      = .ok (.nx [some (.ref 0), x1, x2, x3, x4, some (fsD fs'), some (.int 0), u7, u8, x9, x10]) (cupO a' b' :: z) ∧ FsI fs' pw 1 ∧ fs'.length ≤ pw ∧ LenF fs' ≤ 5 * pw ∧ CupOk a' b'
  | 0, left, n, fs, o7, o8, a, b, _, hm, _, _, _, _, _ => by omega
  | m + 1, left, 0, fs, o7, o8, a, b, hn, _, _, _, _, _, _ => by omega
  | m + 1, left, n + 1, fs, o7, o8, a, b, hn, hm, hl, hI, hL, hF, hc => by
    by_cases h0 : left = 0
    · subst h0
      refine ⟨fs, o7, o8, a, b, ?_, hI, hL, hF, hc⟩
      exact wh_stop (by simp)
    · obtain ⟨v, a1, b1, r1, v0, v1, c1⟩ := roll_ok h131 (k + 1) hc (m := (left : Int)) (by omega) (by omega) z
      obtain ⟨p', rfl⟩ : ∃ n : Nat, v = n := ⟨v.toNat, by omega⟩
      obtain ⟨part, hp⟩ : ∃ part, part = 1 + p' := ⟨_, rfl⟩
      have hpl : part ≤ left := by omega
      have bigp : part < 2 ^ 1900 := Nat.lt_of_lt_of_le (m := 2 ^ 6) (by omega) (Nat.pow_le_pow_right (by decide) (by decide))
      have pt : (1 : Int) + (p' : Int) = (part : Int) := by omega
      have l1 : (natText part).length ≤ 1 := by
        have : ∀ n, n ≤ 8 → (natText n).length ≤ 1 := by decide
        exact this part (by omega)
      -- the ways to write the power
      let ways : List (List Nat) := [[94] ++ natText part, [32, 94, 32] ++ natText part] ++ (if part = 1 then [[]] else [])
      obtain ⟨d, a2, b2, r2, d1, c2⟩ := some_ok h131 h132 k c1 (ds := ways.map .str) (by simp [ways]) (by simp [ways]; split <;> simp) z
      obtain ⟨r, hr, rfl⟩ := List.mem_map.mp d1
      obtain ⟨v, ok, vp, vn, vl⟩ := fx_ok (p := part) (by omega) r (by
        rcases List.mem_append.mp hr with q | q
        · rcases List.mem_cons.mp q with q | q
          · exact .inl q
          · rw [List.mem_singleton] at q; exact .inr (.inl q)
        · split at q
          · rw [List.mem_singleton] at q
            rename_i e
            exact .inr (.inr ⟨q, e⟩)
          · cases q)
      have s1 := fun st => str_int (i := (part : Int)) (by omega) (by simpa using bigp) st
      have e1 := fun st => add_str (a := [94]) (b := natText part) (by simp; omega) st
      have e2 := fun st => add_str (a := [32, 94, 32]) (b := natText part) (by simp; omega) st
      have e3 := fun st => add_str (a := [120]) (b := r) (by simp at vl; simp; omega) st
      have e4 : ∀ st, binD .add (fsD fs) (.lst [.str (120 :: r)]) st = .ok (fsD (fs ++ [(120 :: r, v)])) st := fun st => by
        have : fsD (fs ++ [(120 :: r, v)]) = .lst ((fs.map (·.1)).map .str ++ [.str (120 :: r)]) := by simp [fsD]
        rw [this]
        exact add_lst (by simp; omega) st
      have wy : ∀ (δ : Sl) (st : Sto), δ[7]? = some (some (.int part)) → ev (callF F (k + 2)) (E.bin (BO.add) (E.lst false (Es.cons (E.bin (BO.add) (E.c (D.str [94])) (E.bf (BF.str) (Es.cons (E.v 7) (Es.nil)))) (Es.cons (E.bin (BO.add) (E.c (D.str [32, 94, 32])) (E.bf (BF.str) (Es.cons (E.v 7) (Es.nil)))) (Es.nil))))
                        (E.ite (E.cmp (CO.eq) (E.v 7) (E.c (D.int 1))) (E.lst false (Es.cons (E.c (D.str [])) (Es.nil))) (E.lst false (Es.nil)))) false δ st = .ok (.lst (ways.map .str)) st := fun δ st h => by
        have v7 : ev (callF F (k + 2)) (E.v 7) false δ st = .ok (.int part) st := by rw [ev_v, h]; rfl
        have ea : ev (callF F (k + 2)) (E.lst false (Es.cons (E.bin (BO.add) (E.c (D.str [94])) (E.bf (BF.str) (Es.cons (E.v 7) (Es.nil)))) (Es.cons (E.bin (BO.add) (E.c (D.str [32, 94, 32])) (E.bf (BF.str) (Es.cons (E.v 7) (Es.nil)))) (Es.nil)))) false δ st = .ok (.lst [.str ([94] ++ natText part), .str ([32, 94, 32] ++ natText part)]) st := by
          have s1' := s1 st
          rw [show (part : Int).natAbs = part from Int.natAbs_natCast _] at s1'
          simp only [ev_lst, evs_cons, evs_nil, ev_bin, ev_c, ev_bf, v7, tst_f, bind_ok, s1', e1, e2, List.length_cons, List.length_nil, show fits (0 + 1 + 1) = true from rfl, okb_t]
        have eb : ev (callF F (k + 2)) (E.ite (E.cmp (CO.eq) (E.v 7) (E.c (D.int 1))) (E.lst false (Es.cons (E.c (D.str [])) (Es.nil))) (E.lst false (Es.nil))) false δ st = .ok (.lst ((if part = 1 then [[]] else []).map .str)) st := by
          by_cases q : part = 1
          · have q2 : (part : Int) = 1 := by omega
            simp only [ev_ite, ev_cmp, v7, ev_c, tst_f, bind_ok, eq_int, okO_s, q2, decide_true, onB_t, ev_lst, evs_cons, evs_nil, List.length_cons, List.length_nil, show fits (0 + 1) = true from rfl, okb_t, if_pos q, List.map_cons, List.map_nil]
          · have q2 : ¬ (part : Int) = 1 := by omega
            simp only [ev_ite, ev_cmp, v7, ev_c, tst_f, bind_ok, eq_int, okO_s, q2, decide_false, onB_f, ev_lst, evs_cons, evs_nil, List.length_cons, List.length_nil, show fits 0 = true from rfl, okb_t, if_neg q, List.map_nil]
        rw [ev_bin, ea, bind_ok, eb, bind_ok, tst_f]
        have : ways.map D.str = [.str ([94] ++ natText part), .str ([32, 94, 32] ++ natText part)] ++ (if part = 1 then [[]] else []).map .str := by simp [ways]
        rw [this]
        exact add_lst (by split <;> simp) st
      obtain ⟨fs', u7, u8, a', b', ih, k1, k2, k3, k4⟩ := w138_loop h131 h132 k (room := room) (x1 := x1) (x2 := x2) (x3 := x3) (x4 := x4) (x9 := x9) (x10 := x10) (z := z) hpw m (left - part) n (fs ++ [(120 :: r, v)]) (some (.int part)) (some (.str r)) a2 b2 (by omega) (by omega) (by omega)
        ⟨fun q hq => by
          rcases List.mem_append.mp hq with h | h
          · exact hI.ok q h
          · rw [List.mem_singleton] at h; subst h; exact ok, by rw [totP_app, hI.p]; simp [totP, vp]; omega, by rw [totN_app, hI.n]; simp [totN, vn]⟩ (by simp; omega) (by rw [LenF_app]; simp [LenF] at vl ⊢; unfold LenF at hF; omega) c2
      refine ⟨fs', u7, u8, a', b', ?_, k1, k2, k3, k4⟩
      rw [← ih]
      have hgt : (0 : Int) < left := by omega
      refine wh_go (st1 := cupO a b :: z) (by simp; omega) ?_
      have er : ev (callF F (k + 2)) (E.call 131 (Es.cons (E.v 0) (Es.cons (E.v 6) (Es.nil)))) false [some (.ref 0), x1, x2, x3, x4, some (fsD fs), some (.int left), o7, o8, x9, x10] (cupO a b :: z) = .ok (.int p') (cupO a1 b1 :: z) := by
        simp only [ev_call, evs_cons, evs_nil, ev_v0, ev_v6, tst_f, bind_ok, r1]
      have es : ev (callF F (k + 2)) (E.call 132 (Es.cons (E.v 0) (Es.cons (E.bin (BO.add) (E.lst false (Es.cons (E.bin (BO.add) (E.c (D.str [94])) (E.bf (BF.str) (Es.cons (E.v 7) (Es.nil)))) (Es.cons (E.bin (BO.add) (E.c (D.str [32, 94, 32])) (E.bf (BF.str) (Es.cons (E.v 7) (Es.nil)))) (Es.nil))))
                        (E.ite (E.cmp (CO.eq) (E.v 7) (E.c (D.int 1))) (E.lst false (Es.cons (E.c (D.str [])) (Es.nil))) (E.lst false (Es.nil)))) (Es.nil)))) false [some (.ref 0), x1, x2, x3, x4, some (fsD fs), some (.int left), some (.int part), o8, x9, x10] (cupO a1 b1 :: z) = .ok (.str r) (cupO a2 b2 :: z) := by
        have wy1 := wy [some (.ref 0), x1, x2, x3, x4, some (fsD fs), some (.int left), some (.int part), o8, x9, x10] (cupO a1 b1 :: z) rfl
        rw [ev_call, evs_cons, ev_v0]
        simp only [tst_f, bind_ok]
        rw [evs_cons, wy1]
        simp only [bind_ok, evs_nil, r2]
      rw [show w138 = Ss.cons (S.asg (T.n 7) (E.bin (BO.add) (E.c (D.int 1)) (E.call 131 (Es.cons (E.v 0) (Es.cons (E.v 6) (Es.nil)))))) (Ss.cons (S.asg (T.n 8) (E.call 132 (Es.cons (E.v 0) (Es.cons (E.bin (BO.add) (E.lst false (Es.cons (E.bin (BO.add) (E.c (D.str [94])) (E.bf (BF.str) (Es.cons (E.v 7) (Es.nil)))) (Es.cons (E.bin (BO.add) (E.c (D.str [32, 94, 32])) (E.bf (BF.str) (Es.cons (E.v 7) (Es.nil)))) (Es.nil))))
                        (E.ite (E.cmp (CO.eq) (E.v 7) (E.c (D.int 1))) (E.lst false (Es.cons (E.c (D.str [])) (Es.nil))) (E.lst false (Es.nil)))) (Es.nil)))))
          (Ss.cons (S.par 5 6 (E.bin (BO.add) (E.v 5) (E.lst false (Es.cons (E.bin (BO.add) (E.c (D.str [120])) (E.v 8)) (Es.nil)))) (E.bin (BO.sub) (E.v 6) (E.v 7))) (Ss.nil))) from rfl]
      rw [evSs_cons, evS_asg, ev_bin, ev_c, tst_f, tst_f, bind_ok, er, bind_ok, add_int, pt, thn_ok]
      rw [show asgT (T.n 7) (D.int part) [some (.ref 0), x1, x2, x3, x4, some (fsD fs), some (.int left), o7, o8, x9, x10] = some [some (.ref 0), x1, x2, x3, x4, some (fsD fs), some (.int left), some (.int part), o8, x9, x10] from rfl, nxt_s, seq_nx]
      rw [evSs_cons, evS_asg, es, thn_ok]
      rw [show asgT (T.n 8) (D.str r) [some (.ref 0), x1, x2, x3, x4, some (fsD fs), some (.int left), some (.int part), o8, x9, x10] = some [some (.ref 0), x1, x2, x3, x4, some (fsD fs), some (.int left), some (.int part), some (.str r), x9, x10] from rfl, nxt_s, seq_nx]
      simp only [evSs_cons, evSs_nil, evS_par, ev_bin, ev_v5, ev_lst, evs_cons, evs_nil, ev_c, ev_v8, ev_v6, ev_v7, tst_f, bind_ok, e3, List.length_cons, List.length_nil, show fits (0 + 1) = true from rfl, okb_t, List.singleton_append, e4, sub_int, thn_ok, parS_eq]
      rw [if_pos (by decide), seq_nx, show ((left : Int) - (part : Int)) = ((left - part : Nat) : Int) by omega]
      rfl
end
end PVL
set_option Elab.async false
set_option linter.all false
set_option maxRecDepth 10000
/-! PL25: the law's own text of a sum: a term, all terms. -/
namespace PVL
open PV
theorem cut_takeA {α : Type} (s : List α) (a : Nat) : cut s none (some (a : Int)) = s.take a := by
  unfold cut sIx
  dsimp only
  rw [if_neg (by omega)]
  simp
theorem cut_dropA {α : Type} (s : List α) (a : Nat) : cut s (some (a : Int)) none = s.drop a := by
  unfold cut sIx
  dsimp only
  rw [if_neg (by omega)]
  simp only [Int.toNat_natCast]
  by_cases h : a ≤ s.length
  · rw [Nat.min_eq_left h, List.take_of_length_le (by simp)]
  · rw [Nat.min_eq_right (by omega), List.drop_eq_nil_of_le (Nat.le_refl _), List.drop_eq_nil_of_le (by omega)]
    simp
theorem joinsep_asc {fs : Fs} {sep : List Nat} (hs : asc sep = true) (h : ∀ q ∈ fs, FOk q) : asc (joinD sep (fs.map (·.1))) = true :=
  joinD_asc hs _ fun t ht => by obtain ⟨q, hq, rfl⟩ := List.mem_map.mp ht; exact (h q hq).a
def i138 : S := match r138 with
  | .cons s _ => s
  | _ => .pass
def ins138 : Ss := match i138 with
  | .ite _ b _ => b
  | _ => .nil
section
variable {F : Nat → Option Fn}
/-- the number put in at some place -/
theorem ins_ok (h131 : F 131 = some f131) (k : Nat) {room : Bool} {x1 x2 x3 x6 x7 x8 x9 x10 : Option D} {z : Sto} {pw : Nat} {n : Int} (hn : n.natAbs ≤ 1000000) {fs : Fs} (hI : FsI fs pw 1) (hL : fs.length ≤ 8) {a b : Int} (hc : CupOk a b) :
    ∃ (fs' : Fs) (u9 : Option D) (a' b' : Int), evSs (callF F (k + 2)) room ins138 [some (.ref 0), x1, x2, x3, some (.int n), some (fsD fs), x6, x7, x8, x9, x10] (cupO a b :: z)
      = .ok (.nx [some (.ref 0), x1, x2, x3, some (.int n), some (fsD fs'), x6, x7, x8, u9, x10]) (cupO a' b' :: z) ∧ FsI fs' pw n.natAbs ∧ fs' ≠ [] ∧ fs'.length ≤ fs.length + 1 ∧ LenF fs' ≤ LenF fs + 20 ∧ CupOk a' b' := by
  obtain ⟨v, a1, b1, r1, v0, v1, c1⟩ := roll_ok h131 (k + 1) hc (m := (fs.length : Int) + 1) (by omega) (by omega) z
  obtain ⟨i, rfl⟩ : ∃ n : Nat, v = n := ⟨v.toNat, by omega⟩
  have hi : i ≤ fs.length := by omega
  let w : List Nat × FV := (natText n.natAbs, ((0, 0), ((n.natAbs : Int), 1), false))
  have hw : FOk w := ⟨facB_num hn, rfl, natText_asc _, nat7 _ hn⟩
  have big : n.natAbs < 2 ^ 1900 := Nat.lt_of_lt_of_le (m := 2 ^ 20) (by omega) (Nat.pow_le_pow_right (by decide) (by decide))
  have td : fs = fs.take i ++ fs.drop i := (List.take_append_drop i fs).symm
  refine ⟨(fs.take i ++ [w]) ++ fs.drop i, some (.int i), a1, b1, ?_, ⟨fun q hq => ?_, ?_, ?_⟩, by simp, ?_, ?_, c1⟩
  · have e0 : ∀ st, bfD .len [fsD fs] st = .ok (.int fs.length) st := fun st => by
      show R.ok (D.int ((fs.map (·.1)).map D.str).length) st = _
      rw [List.length_map, List.length_map]
    have ab : (if n < 0 then -n else n) = (n.natAbs : Int) := by split <;> omega
    have e1 : ∀ st, bfD .abs [.int n] st = .ok (.int (n.natAbs : Int)) st := fun st => by show R.ok (D.int (if n < 0 then -n else n)) st = _; rw [ab]
    have e2 : ∀ st, bfD .str [.int (n.natAbs : Int)] st = .ok (.str (natText n.natAbs)) st := fun st => by
      have := str_int (i := (n.natAbs : Int)) (by omega) (by simpa using big) st
      simpa using this
    have e3 : ∀ st, slcD (fsD fs) none (some (i : Int)) st = .ok (fsD (fs.take i)) st := fun st => by
      show R.ok (D.lst (cut ((fs.map (·.1)).map D.str) none (some (i : Int)))) st = _
      rw [cut_takeA]
      simp [fsD, List.map_take]
    have e4 : ∀ st, slcD (fsD fs) (some (i : Int)) none st = .ok (fsD (fs.drop i)) st := fun st => by
      show R.ok (D.lst (cut ((fs.map (·.1)).map D.str) (some (i : Int)) none)) st = _
      rw [cut_dropA]
      simp [fsD, List.map_drop]
    have e5 : ∀ st, binD .add (fsD (fs.take i)) (.lst [.str (natText n.natAbs)]) st = .ok (fsD (fs.take i ++ [w])) st := fun st => by
      have : fsD (fs.take i ++ [w]) = .lst (((fs.take i).map (·.1)).map .str ++ [.str (natText n.natAbs)]) := by simp [fsD, w]
      rw [this]
      exact add_lst (by simp; omega) st
    have e6 : ∀ st, binD .add (fsD (fs.take i ++ [w])) (fsD (fs.drop i)) st = .ok (fsD ((fs.take i ++ [w]) ++ fs.drop i)) st := fun st => by
      have : fsD ((fs.take i ++ [w]) ++ fs.drop i) = .lst (((fs.take i ++ [w]).map (·.1)).map .str ++ ((fs.drop i).map (·.1)).map .str) := by simp [fsD]
      rw [this]
      exact add_lst (by simp; omega) st
    rw [show ins138 = Ss.cons (S.asg (T.n 9) (E.call 131 (Es.cons (E.v 0) (Es.cons (E.bin (BO.add) (E.bf (BF.len) (Es.cons (E.v 5) (Es.nil))) (E.c (D.int 1))) (Es.nil)))))
      (Ss.cons (S.asg (T.n 5) (E.bin (BO.add) (E.bin (BO.add) (E.slc (E.v 5) (Eo.none) (Eo.some (E.v 9))) (E.lst false (Es.cons (E.bf (BF.str) (Es.cons (E.bf (BF.abs) (Es.cons (E.v 4) (Es.nil))) (Es.nil))) (Es.nil)))) (E.slc (E.v 5) (Eo.some (E.v 9)) (Eo.none)))) (Ss.nil)) from rfl]
    simp only [evSs_cons, evSs_nil, evS_asg, ev_call, evs_cons, evs_nil, ev_v0, ev_bin, ev_bf, ev_v5, ev_c, tst_f, bind_ok, e0, add_int, r1, thn_ok]
    rw [show asgT (T.n 9) (D.int i) [some (D.ref 0), x1, x2, x3, some (D.int n), some (fsD fs), x6, x7, x8, x9, x10] = some [some (D.ref 0), x1, x2, x3, some (D.int n), some (fsD fs), x6, x7, x8, some (D.int i), x10] from rfl, nxt_s, seq_nx]
    simp only [ev_slc, ev_v5, ev_v9, ev_v4, evo_none, evo_some, evoK_i, ev_lst, ev_bf, evs_cons, evs_nil, tst_f, bind_ok, e3, e1, e2, List.length_cons, List.length_nil, show fits (0 + 1) = true from rfl, okb_t, e5, e4, e6, thn_ok]
    rfl
  · rcases List.mem_append.mp hq with h | h
    · rcases List.mem_append.mp h with h | h
      · exact hI.ok q (List.mem_of_mem_take h)
      · rw [List.mem_singleton] at h; subst h; exact hw
    · exact hI.ok q (List.mem_of_mem_drop h)
  · have := hI.p
    rw [td, totP_app] at this
    rw [totP_app, totP_app]
    simp only [totP, w, List.map_cons, List.map_nil, List.sum_cons, List.sum_nil] at this ⊢
    simpa using this
  · have := hI.n
    rw [td, totN_app] at this
    rw [totN_app, totN_app]
    have e : totN [w] = n.natAbs := by simp [totN, w]
    rw [e, Int.mul_comm (totN (fs.take i)), Int.mul_assoc, this]
    simp
  · simp; omega
  · have h1 : LenF fs = LenF (fs.take i) + LenF (fs.drop i) := by rw [← LenF_app, ← td]
    have := hw.l
    rw [LenF_app, LenF_app, h1]
    have e : LenF [w] = w.1.length := by simp [LenF]
    rw [e]
    omega
theorem ite_ok (h131 : F 131 = some f131) (k : Nat) {room : Bool} {x1 x2 x3 x6 x7 x8 x9 x10 : Option D} {z : Sto} {pw : Nat} {n : Int} (hn : n.natAbs ≤ 1000000) {fs : Fs} (hI : FsI fs pw 1) (hL : fs.length ≤ 8) {a b : Int} (hc : CupOk a b) :
    ∃ (fs' : Fs) (u9 : Option D) (a' b' : Int), evS (callF F (k + 2)) room i138 [some (.ref 0), x1, x2, x3, some (.int n), some (fsD fs), x6, x7, x8, x9, x10] (cupO a b :: z)
      = .ok (.nx [some (.ref 0), x1, x2, x3, some (.int n), some (fsD fs'), x6, x7, x8, u9, x10]) (cupO a' b' :: z) ∧ FsI fs' pw n.natAbs ∧ fs' ≠ [] ∧ fs'.length ≤ fs.length + 1 ∧ LenF fs' ≤ LenF fs + 20 ∧ CupOk a' b' := by
  have ab : (if n < 0 then -n else n) = (n.natAbs : Int) := by split <;> omega
  have e1 : ∀ st, bfD .abs [.int n] st = .ok (.int (n.natAbs : Int)) st := fun st => by show R.ok (D.int (if n < 0 then -n else n)) st = _; rw [ab]
  have i1 : i138 = S.ite (E.or (E.cmp (CO.ne) (E.bf (BF.abs) (Es.cons (E.v 4) (Es.nil))) (E.c (D.int 1))) (E.or (E.cmp (CO.eq) (E.v 5) (E.lst false (Es.nil))) (E.cmp (CO.eq) (E.call 131 (Es.cons (E.v 0) (Es.cons (E.c (D.int 3)) (Es.nil)))) (E.c (D.int 0))))) ins138 Ss.nil := rfl
  have el : ∀ δ st, ev (callF F (k + 2)) (E.lst false (Es.nil)) false δ st = .ok (.lst []) st := fun δ st => rfl
  have en := eq_nilF hI.ok
  rw [i1]
  by_cases c1 : (n.natAbs : Int) = 1
  · by_cases c2 : fs = []
    · obtain ⟨fs', u9, a', b', g, r⟩ := ins_ok h131 k (room := room) (x1 := x1) (x2 := x2) (x3 := x3) (x6 := x6) (x7 := x7) (x8 := x8) (x9 := x9) (x10 := x10) (z := z) hn hI hL hc
      refine ⟨fs', u9, a', b', ?_, r⟩
      rw [← g]
      have en2 : cmpD .eq (fsD fs) (.lst []) = some true := by rw [en, decide_eq_true c2]
      simp only [evS_ite, ev_or, ev_cmp, ev_bf, evs_cons, evs_nil, ev_v4, ev_v5, ev_c, tst_f, bind_ok, e1, ne_int, okO_s, c1, ne_eq, not_true, decide_false, onB_f, el, en2, onB_t, thn_ok]
    · obtain ⟨v, a1, b1, r1, v0, v1, c3⟩ := roll_ok h131 (k + 1) hc (m := 3) (by omega) (by omega) z
      by_cases c4 : v = 0
      · obtain ⟨fs', u9, a', b', g, r⟩ := ins_ok h131 k (room := room) (x1 := x1) (x2 := x2) (x3 := x3) (x6 := x6) (x7 := x7) (x8 := x8) (x9 := x9) (x10 := x10) (z := z) hn hI hL c3
        refine ⟨fs', u9, a', b', ?_, r⟩
        rw [← g]
        simp only [evS_ite, ev_or, ev_cmp, ev_bf, evs_cons, evs_nil, ev_v4, ev_v5, ev_v0, ev_c, tst_f, bind_ok, e1, ne_int, eq_int, okO_s, c1, ne_eq, not_true, decide_false, onB_f, el, en, c2, ev_call, r1, c4, decide_true, onB_t, thn_ok]
      · refine ⟨fs, x9, a1, b1, ?_, ⟨hI.ok, hI.p, by rw [hI.n]; omega⟩, c2, by omega, by omega, c3⟩
        simp only [evS_ite, ev_or, ev_cmp, ev_bf, evs_cons, evs_nil, ev_v4, ev_v5, ev_v0, ev_c, tst_f, bind_ok, e1, ne_int, eq_int, okO_s, c1, ne_eq, not_true, decide_false, onB_f, el, en, c2, ev_call, r1, c4, thn_ok, evSs_nil]
  · obtain ⟨fs', u9, a', b', g, r⟩ := ins_ok h131 k (room := room) (x1 := x1) (x2 := x2) (x3 := x3) (x6 := x6) (x7 := x7) (x8 := x8) (x9 := x9) (x10 := x10) (z := z) hn hI hL hc
    refine ⟨fs', u9, a', b', ?_, r⟩
    rw [← g]
    simp only [evS_ite, ev_or, ev_cmp, ev_bf, evs_cons, evs_nil, ev_v4, ev_c, tst_f, bind_ok, e1, ne_int, okO_s, c1, ne_eq, not_false_eq_true, decide_true, onB_t, thn_ok]
/-- blanks or none -/
theorem blank_ok (h131 : F 131 = some f131) (h132 : F 132 = some f132) (k : Nat) {a b : Int} (hc : CupOk a b) (z : Sto) : ∃ (n : Nat) (a' b' : Int), (∀ δ : Sl, δ[0]? = some (some (.ref 0)) → ev (callF F (k + 2)) (E.call 132 (Es.cons (E.v 0) (Es.cons (E.lst false (Es.cons (E.c (D.str [])) (Es.cons (E.c (D.str [32])) (Es.nil)))) (Es.nil)))) false δ (cupO a b :: z) = .ok (.str (bl n)) (cupO a' b' :: z)) ∧ n ≤ 1 ∧ CupOk a' b' := by
  obtain ⟨d, a2, b2, r2, d1, c2⟩ := some_ok h131 h132 k hc (ds := [.str [], .str [32]]) (by simp) (by simp) z
  have : ∃ n, n ≤ 1 ∧ d = .str (bl n) := by
    rcases List.mem_cons.mp d1 with h | h
    · exact ⟨0, by omega, h⟩
    · rw [List.mem_singleton] at h; exact ⟨1, by omega, h⟩
  obtain ⟨n, hn, rfl⟩ := this
  refine ⟨n, a2, b2, fun δ h => ?_, hn, c2⟩
  have v0 : ∀ st, ev (callF F (k + 2)) (E.v 0) false δ st = .ok (.ref 0) st := fun st => by rw [ev_v, h]; rfl
  simp only [ev_call, evs_cons, evs_nil, v0, ev_lst, ev_c, tst_f, bind_ok, List.length_cons, List.length_nil, show fits (0 + 1 + 1) = true from rfl, okb_t, r2]
theorem bl_len' (n : Nat) : (bl n).length = n := by simp [bl]
theorem bl_asc (n : Nat) : asc (bl n) = true := by
  unfold asc
  rw [List.all_eq_true]
  intro c hc
  rw [List.eq_of_mem_replicate hc]
  rfl
theorem term138_ok (h131 : F 131 = some f131) (h132 : F 132 = some f132) (k : Nat) {room : Bool} {x1 o5 o6 o7 o8 o9 o10 : Option D} {z : Sto} {pw : Nat} (hpw : pw ≤ 8) {n : Int} (hn : n.natAbs ≤ 1000000) {s : List Nat} {l : List (Int × FV)} (hT : (s = [] ∧ l = []) ∨ TxR [120] 8 false s l) (ha : asc s = true) (hl : s.length ≤ 1200) {a b : Int} (hc : CupOk a b) :
    ∃ (s' : List Nat) (kk : Bool) (u5 u6 u7 u8 u9 u10 : Option D) (a' b' : Int), evSs (callF F (k + 2)) room b138 [some (.ref 0), x1, some (.str s), some (.int pw), some (.int n), o5, o6, o7, o8, o9, o10] (cupO a b :: z)
      = .ok (.nx [some (.ref 0), x1, some (.str s'), some (.int pw), some (.int n), u5, u6, u7, u8, u9, u10]) (cupO a' b' :: z) ∧ TxR [120] 8 false s' (l ++ [(sgn1 n, ((pw, 0), ((n.natAbs : Int), 1), kk))]) ∧ asc s' = true ∧ s'.length ≤ s.length + 100 ∧ CupOk a' b' := by
  obtain ⟨fs, u7, u8, a1, b1, g1, i1, i2, i3, c1⟩ := w138_loop h131 h132 k (room := room) (x1 := x1) (x2 := some (.str s)) (x3 := some (.int pw)) (x4 := some (.int n)) (x9 := o9) (x10 := o10) (z := z) hpw (pw + 1) pw turns [] o7 o8 a b (by rw [turns_eq]; omega) (by omega) (by omega) ⟨fun q hq => (nomatch hq), by simp [totP], by simp [totN]⟩ (by simp) (by simp [LenF]) hc
  obtain ⟨fs2, u9, a2, b2, g2, j1, j2, j3, j4, c2⟩ := ite_ok h131 k (room := room) (x1 := x1) (x2 := some (.str s)) (x3 := some (.int pw)) (x6 := some (.int 0)) (x7 := u7) (x8 := u8) (x9 := o9) (x10 := o10) (z := z) hn i1 (by omega) c1
  obtain ⟨n1, a3, b3, g3, m1, c3⟩ := blank_ok h131 h132 k c2 z
  obtain ⟨n2, a4, b4, g4, m2, c4⟩ := blank_ok h131 h132 k c3 z
  obtain ⟨d, a5, b5, r5, d1, c5⟩ := some_ok h131 h132 k c4 (ds := [.str [42], .str [32, 42, 32]]) (by simp) (by simp) z
  have hsep : ∃ m, m ≤ 1 ∧ d = .str (bl m ++ 42 :: bl m) := by
    rcases List.mem_cons.mp d1 with h | h
    · exact ⟨0, by omega, h⟩
    · rw [List.mem_singleton] at h; exact ⟨1, by omega, h⟩
  obtain ⟨m, hm, rfl⟩ := hsep
  -- the term
  obtain ⟨kk, tb⟩ := join_int (U := [120]) (most := 8) (fr := false) m m j2 (fun q hq => (j1.ok q hq).fac) (fun q hq => (j1.ok q hq).w)
  rw [j1.p, j1.n] at tb
  let J : List Nat := joinD (bl m ++ 42 :: bl m) (fs2.map (·.1))
  have hJ : TermB [120] 8 false J ((pw, 0), ((n.natAbs : Int), 1), kk) := tb
  have jA : asc J = true := joinsep_asc (asc_append (bl_asc m) (by simp [bl_asc])) j1.ok
  have jS : ((fs2.map (·.1)).map List.length).sum + (bl m ++ 42 :: bl m).length * (fs2.map (·.1)).length ≤ 87 := by
    rw [LenF_eq, List.length_map]
    have : (bl m ++ 42 :: bl m).length ≤ 3 := by simp [bl]; omega
    have h1 : (bl m ++ 42 :: bl m).length * fs2.length ≤ 3 * 9 := Nat.mul_le_mul this (by omega)
    omega
  have jL : J.length ≤ 87 := by
    have := joinD_le (bl m ++ 42 :: bl m) (fs2.map (·.1))
    show (joinD (bl m ++ 42 :: bl m) (fs2.map (·.1))).length ≤ 87
    omega
  have jo : ∀ st, mtD .join (.str (bl m ++ 42 :: bl m)) [fsD fs2] st = .ok (.str J) st := fun st => joins_ok (by omega) st
  -- the sign
  let sg : List Nat := if n < 0 then [45] else if s ≠ [] then [43] else []
  have sgl : sg.length ≤ 1 := by
    show (if n < 0 then [45] else if s ≠ [] then [43] else []).length ≤ 1
    repeat' split
    all_goals simp
  have sgA : asc sg = true := by
    show asc (if n < 0 then [45] else if s ≠ [] then [43] else []) = true
    repeat' split
    all_goals rfl
  let s' : List Nat := ((s ++ bl n1) ++ sg) ++ bl n2 ++ J
  have hpv : PwV ((pw, 0), ((n.natAbs : Int), (1 : Int)), kk) := ⟨by show pw < 256; omega, by show 0 < 256; omega⟩
  have hS : TxR [120] 8 false s' (l ++ [(sgn1 n, ((pw, 0), ((n.natAbs : Int), 1), kk))]) := by
    rcases hT with ⟨rfl, rfl⟩ | hT
    · have e := TxR.one (U := [120]) (most := 8) (fr := false) n1 n2 (sgn1_or n) hJ hpv
      have : s' = bl n1 ++ ((if sgn1 n = 1 then [] else [45]) ++ (bl n2 ++ J)) := by
        show ((([] ++ bl n1) ++ (if n < 0 then [45] else if ([] : List Nat) ≠ [] then [43] else [])) ++ bl n2 ++ J) = _
        unfold sgn1
        by_cases q : n < 0 <;> simp [q]
      rw [this]
      exact e
    · have e := TxR.more n1 n2 hT (sgn1_or n) hJ hpv
      have tn : s ≠ [] := by
        intro q
        subst q
        obtain ⟨b, c, g, f, v, r, _, hT, _, _, h5, _⟩ := hT.parts
        have := congrArg List.length h5
        obtain ⟨c', r', rfl, _⟩ := hT.2
        simp at this
      have : s' = s ++ (bl n1 ++ sgC (sgn1 n) :: (bl n2 ++ J)) := by
        show (((s ++ bl n1) ++ (if n < 0 then [45] else if s ≠ [] then [43] else [])) ++ bl n2 ++ J) = _
        unfold sgn1 sgC
        by_cases q : n < 0 <;> simp [q, tn]
      rw [this]
      exact e
  refine ⟨s', kk, some (fsD fs2), some (.int 0), u7, u8, u9, some (.str sg), a5, b5, ?_, hS, ?_, ?_, c5⟩
  · rw [show b138 = Ss.cons (S.par 5 6 (E.lst false (Es.nil)) (E.v 3)) (Ss.cons (S.wh (E.cmp (CO.gt) (E.v 6) (E.c (D.int 0))) w138) (Ss.cons i138
      (Ss.cons (S.asg (T.n 10) (E.ite (E.cmp (CO.lt) (E.v 4) (E.c (D.int 0))) (E.c (D.str [45])) (E.ite (E.cmp (CO.ne) (E.v 2) (E.c (D.str []))) (E.c (D.str [43])) (E.c (D.str [])))))
      (Ss.cons (S.asg (T.n 2) (E.bin (BO.add) (E.bin (BO.add) (E.bin (BO.add) (E.v 2) (E.call 132 (Es.cons (E.v 0) (Es.cons (E.lst false (Es.cons (E.c (D.str [])) (Es.cons (E.c (D.str [32])) (Es.nil)))) (Es.nil))))) (E.v 10)) (E.call 132 (Es.cons (E.v 0) (Es.cons (E.lst false (Es.cons (E.c (D.str [])) (Es.cons (E.c (D.str [32])) (Es.nil)))) (Es.nil))))))
      (Ss.cons (S.asg (T.n 2) (E.bin (BO.add) (E.v 2) (E.mt (MF.join) (E.call 132 (Es.cons (E.v 0) (Es.cons (E.lst false (Es.cons (E.c (D.str [42])) (Es.cons (E.c (D.str [32, 42, 32])) (Es.nil)))) (Es.nil)))) (Es.cons (E.v 5) (Es.nil))))) (Ss.nil)))))) from rfl]
    have p1 : ∀ st, binD .add (.str s) (.str (bl n1)) st = .ok (.str (s ++ bl n1)) st := fun st => add_str (by rw [bl_len']; omega) st
    have p2 : ∀ st, binD .add (.str (s ++ bl n1)) (.str sg) st = .ok (.str ((s ++ bl n1) ++ sg)) st := fun st => add_str (by rw [List.length_append, bl_len']; omega) st
    have p3 : ∀ st, binD .add (.str ((s ++ bl n1) ++ sg)) (.str (bl n2)) st = .ok (.str (((s ++ bl n1) ++ sg) ++ bl n2)) st := fun st => add_str (by rw [List.length_append, List.length_append, bl_len', bl_len']; omega) st
    have p4 : ∀ st, binD .add (.str (((s ++ bl n1) ++ sg) ++ bl n2)) (.str J) st = .ok (.str s') st := fun st => add_str (by rw [List.length_append, List.length_append, List.length_append, bl_len', bl_len']; omega) st
    have nt : cmpD .ne (.str s) (.str []) = some (decide (s ≠ [])) := ne_str ha (by rfl)
    have esg : ∀ (δ : Sl) (st : Sto), δ[4]? = some (some (.int n)) → δ[2]? = some (some (.str s)) → ev (callF F (k + 2)) (E.ite (E.cmp (CO.lt) (E.v 4) (E.c (D.int 0))) (E.c (D.str [45])) (E.ite (E.cmp (CO.ne) (E.v 2) (E.c (D.str []))) (E.c (D.str [43])) (E.c (D.str [])))) false δ st = .ok (.str sg) st := fun δ st h4 h2 => by
      have v4 : ∀ st, ev (callF F (k + 2)) (E.v 4) false δ st = .ok (.int n) st := fun st => by rw [ev_v, h4]; rfl
      have v2 : ∀ st, ev (callF F (k + 2)) (E.v 2) false δ st = .ok (.str s) st := fun st => by rw [ev_v, h2]; rfl
      show _ = R.ok (D.str (if n < 0 then [45] else if s ≠ [] then [43] else [])) st
      by_cases c1 : n < 0
      · simp only [ev_ite, ev_cmp, v4, ev_c, tst_f, bind_ok, lt_int, okO_s, c1, decide_true, onB_t, if_pos]
      · by_cases c2 : s = []
        · have nt2 : cmpD .ne (.str s) (.str []) = some false := by rw [nt]; simp [c2]
          simp only [ev_ite, ev_cmp, v4, v2, ev_c, tst_f, bind_ok, lt_int, okO_s, c1, decide_false, onB_f, nt2]
          simp [c2]
        · have nt2 : cmpD .ne (.str s) (.str []) = some true := by rw [nt]; simp [c2]
          simp only [ev_ite, ev_cmp, v4, v2, ev_c, tst_f, bind_ok, lt_int, okO_s, c1, decide_false, onB_f, onB_t, nt2]
          simp [c2]
    rw [evSs_cons, evS_par]
    rw [show ev (callF F (k + 2)) (E.lst false Es.nil) false [some (D.ref 0), x1, some (D.str s), some (D.int pw), some (D.int n), o5, o6, o7, o8, o9, o10] (cupO a b :: z) = .ok (fsD []) (cupO a b :: z) from rfl, thn_ok, ev_v3, tst_f, thn_ok, parS_eq, if_pos (by simp), seq_nx]
    rw [show ([some (D.ref 0), x1, some (D.str s), some (D.int pw), some (D.int n), o5, o6, o7, o8, o9, o10].set 5 (some (fsD []))).set 6 (some (D.int pw)) = [some (D.ref 0), x1, some (D.str s), some (D.int pw), some (D.int n), some (fsD []), some (D.int pw), o7, o8, o9, o10] from rfl]
    rw [evSs_cons, evS_wh, g1, seq_nx, evSs_cons, g2, seq_nx, evSs_cons, evS_asg, esg _ _ rfl rfl, thn_ok]
    rw [show asgT (T.n 10) (D.str sg) [some (D.ref 0), x1, some (D.str s), some (D.int pw), some (D.int n), some (fsD fs2), some (D.int 0), u7, u8, u9, o10] = some [some (D.ref 0), x1, some (D.str s), some (D.int pw), some (D.int n), some (fsD fs2), some (D.int 0), u7, u8, u9, some (D.str sg)] from rfl, nxt_s, seq_nx]
    have q3 := g3 [some (D.ref 0), x1, some (D.str s), some (D.int pw), some (D.int n), some (fsD fs2), some (D.int 0), u7, u8, u9, some (D.str sg)] rfl
    have q4 := g4 [some (D.ref 0), x1, some (D.str s), some (D.int pw), some (D.int n), some (fsD fs2), some (D.int 0), u7, u8, u9, some (D.str sg)] rfl
    rw [evSs_cons, evS_asg, ev_bin, ev_bin, ev_bin, ev_v2]
    simp only [tst_f, bind_ok]
    rw [q3]
    simp only [bind_ok, p1, ev_v10, tst_f, p2]
    rw [q4]
    simp only [bind_ok, p3, thn_ok]
    rw [show asgT (T.n 2) (D.str (((s ++ bl n1) ++ sg) ++ bl n2)) [some (D.ref 0), x1, some (D.str s), some (D.int pw), some (D.int n), some (fsD fs2), some (D.int 0), u7, u8, u9, some (D.str sg)] = some [some (D.ref 0), x1, some (D.str (((s ++ bl n1) ++ sg) ++ bl n2)), some (D.int pw), some (D.int n), some (fsD fs2), some (D.int 0), u7, u8, u9, some (D.str sg)] from rfl, nxt_s, seq_nx]
    simp only [evSs_cons, evSs_nil, evS_asg, ev_bin, ev_v2, ev_mtK, ev_call, evs_cons, evs_nil, ev_v0, ev_lst, ev_c, tst_f, bind_ok, List.length_cons, List.length_nil, show fits (0 + 1 + 1) = true from rfl, okb_t, r5, mtTy_join, mtK_t, ev_v5, jo, p4, thn_ok]
    rfl
  · exact asc_append (asc_append (asc_append (asc_append ha (bl_asc _)) sgA) (bl_asc _)) jA
  · show (((s ++ bl n1) ++ sg) ++ bl n2 ++ J).length ≤ _
    rw [List.length_append, List.length_append, List.length_append, List.length_append, bl_len', bl_len']
    omega
/-- (power, number) -/
def tmPD (q : Nat × Int) : D := .tup false [.int q.1, .int q.2]
def TvI (ts : List (Nat × Int)) (l : List (Int × FV)) : Prop := l.map (fun q => (q.2.1, q.1 * q.2.2.1.1)) = ts.map (fun q => ((q.1, 0), q.2)) ∧ ∀ q ∈ l, IntV q
theorem loop138 (h131 : F 131 = some f131) (h132 : F 132 = some f132) (k : Nat) {room : Bool} {x1 : Option D} {z : Sto} : ∀ (ts : List (Nat × Int)) (s : List Nat) (l : List (Int × FV)) (o3 o4 o5 o6 o7 o8 o9 o10 : Option D) (a b : Int), (∀ q ∈ ts, q.1 ≤ 8 ∧ q.2.natAbs ≤ 1000000) → ((s = [] ∧ l = []) ∨ TxR [120] 8 false s l) → asc s = true → s.length + 100 * ts.length ≤ 1200 → (∀ q ∈ l, IntV q) → CupOk a b →
    ∃ (s' : List Nat) (l' : List (Int × FV)) (u3 u4 u5 u6 u7 u8 u9 u10 : Option D) (a' b' : Int), forR (T.t2 (T.n 3) (T.n 4)) (fun δ st => evSs (callF F (k + 2)) room b138 δ st) (ts.map tmPD) [some (.ref 0), x1, some (.str s), o3, o4, o5, o6, o7, o8, o9, o10] (cupO a b :: z)
      = .ok (.nx [some (.ref 0), x1, some (.str s'), u3, u4, u5, u6, u7, u8, u9, u10]) (cupO a' b' :: z) ∧ ((s' = [] ∧ l ++ l' = []) ∨ TxR [120] 8 false s' (l ++ l')) ∧ asc s' = true ∧ s'.length ≤ s.length + 100 * ts.length ∧ TvI ts l' ∧ CupOk a' b'
  | [], s, l, o3, o4, o5, o6, o7, o8, o9, o10, a, b, _, hT, ha, hl, hv, hc => ⟨s, [], o3, o4, o5, o6, o7, o8, o9, o10, a, b, rfl, by simpa using hT, ha, by omega, ⟨rfl, fun q hq => (nomatch hq)⟩, hc⟩
  | (p, n) :: ts, s, l, o3, o4, o5, o6, o7, o8, o9, o10, a, b, hq, hT, ha, hl, hv, hc => by
    obtain ⟨hp, hn⟩ := hq _ List.mem_cons_self
    rw [List.length_cons] at hl
    obtain ⟨s1, kk, u5, u6, u7, u8, u9, u10, a1, b1, g, t1, t2, t3, c1⟩ := term138_ok h131 h132 k (room := room) (x1 := x1) (o5 := o5) (o6 := o6) (o7 := o7) (o8 := o8) (o9 := o9) (o10 := o10) (z := z) (pw := p) hp hn hT ha (by omega) hc
    obtain ⟨s2, l2, w3, w4, w5, w6, w7, w8, w9, w10, a2, b2, ih, j1, j2, j3, j4, c2⟩ := loop138 h131 h132 k (room := room) (x1 := x1) (z := z) ts s1 _ (some (.int p)) (some (.int n)) u5 u6 u7 u8 u9 u10 a1 b1 (fun q h => hq q (List.mem_cons_of_mem _ h)) (.inr t1) t2 (by omega) (fun q h => by
      rcases List.mem_append.mp h with h | h
      · exact hv q h
      · rw [List.mem_singleton] at h; subst h; rfl) c1
    refine ⟨s2, (sgn1 n, ((p, 0), ((n.natAbs : Int), 1), kk)) :: l2, w3, w4, w5, w6, w7, w8, w9, w10, a2, b2, ?_, by simpa using j1, j2, by rw [List.length_cons]; omega, ⟨?_, fun q h => ?_⟩, c2⟩
    · rw [List.map_cons]
      unfold forR
      rw [show asgT (T.t2 (T.n 3) (T.n 4)) (tmPD (p, n)) [some (.ref 0), x1, some (.str s), o3, o4, o5, o6, o7, o8, o9, o10] = some [some (.ref 0), x1, some (.str s), some (.int p), some (.int n), o5, o6, o7, o8, o9, o10] from rfl]
      dsimp only
      rw [g]
      exact ih
    · rw [List.map_cons, List.map_cons, j4.1]
      simp only [sgn1_mul]
    · rcases List.mem_cons.mp h with h | h
      · subst h; rfl
      · exact j4.2 q h
theorem text138_ok (h131 : F 131 = some f131) (h132 : F 132 = some f132) (h138 : F 138 = some f138) (k : Nat) {ts : List (Nat × Int)} (h0 : ts ≠ []) (hl : ts.length ≤ 6) (hq : ∀ q ∈ ts, q.1 ≤ 8 ∧ q.2.natAbs ≤ 1000000) {a b : Int} (hc : CupOk a b) (z : Sto) :
    ∃ (s : List Nat) (l : List (Int × FV)) (a' b' : Int), callF F (k + 3) 138 [.ref 0, .lst (ts.map tmPD)] (cupO a b :: z) = .ok (.str s) (cupO a' b' :: z) ∧ TxR [120] 8 false s l ∧ asc s = true ∧ s.length ≤ 600 ∧ TvI ts l ∧ CupOk a' b' := by
  rw [callF_at [some (.ref 0), some (.lst (ts.map tmPD)), none, none, none, none, none, none, none, none, none] h138 rfl rfl]
  obtain ⟨s, l, u3, u4, u5, u6, u7, u8, u9, u10, a', b', g, j1, j2, j3, j4, c⟩ := loop138 h131 h132 k (room := Nat.blt 2 (k + 2)) (x1 := some (.lst (ts.map tmPD))) (z := z) ts [] [] none none none none none none none none a b hq (.inl ⟨rfl, rfl⟩) rfl (by simp; omega) (fun q hq => (nomatch hq)) hc
  refine ⟨s, l, a', b', ?_, ?_, j2, by simp at j3; omega, j4, c⟩
  · rw [show f138.body = Ss.cons (S.asg (T.n 2) (E.c (D.str []))) (Ss.cons (S.fr (T.t2 (T.n 3) (T.n 4)) (I.of (E.v 1)) b138) (Ss.cons (S.ret (E.v 2)) Ss.nil)) from rfl]
    rw [evSs_cons, evS_asg, ev_c, tst_f, thn_ok, show asgT (T.n 2) (D.str []) [some (.ref 0), some (.lst (ts.map tmPD)), none, none, none, none, none, none, none, none, none] = some [some (.ref 0), some (.lst (ts.map tmPD)), some (.str []), none, none, none, none, none, none, none, none] from rfl, nxt_s, seq_nx, evSs_cons, evS_fr]
    rw [show evI (callF F (k + 2)) (I.of (E.v 1)) [some (.ref 0), some (.lst (ts.map tmPD)), some (.str []), none, none, none, none, none, none, none, none] (cupO a b :: z) = .ok (ts.map tmPD) (cupO a b :: z) from rfl, thn_ok, g, seq_nx]
    rfl
  · rcases j1 with ⟨rfl, e⟩ | j1
    · exfalso
      simp at e
      subst e
      have := j4.1
      cases ts with
      | nil => exact h0 rfl
      | cons q ts => simp at this
    · simpa using j1
end
end PVL
set_option Elab.async false
set_option linter.all false
set_option maxRecDepth 100000
/-! L74a: the table of k74; its written rows by the kernel. -/
namespace PVL.L74
open PV PVL
def T74 : List (Nat × Fn) := [(40, f40), (68, f68), (102, f102), (100, f100), (10, f10), (11, f11), (12, f12), (104, f104), (107, f107), (30, f30), (31, f31), (32, f32), (33, f33), (34, f34), (35, f35), (36, f36), (37, f37), (41, f41), (42, f42), (43, f43), (44, f44), (45, f45), (46, f46), (48, f48), (49, f49), (50, f50), (51, f51), (52, f52), (53, f53), (54, f54), (47, f47), (60, f60), (61, f61), (62, f62), (63, f63), (64, f64), (65, f65), (66, f66), (67, f67), (69, f69), (70, f70), (71, f71), (90, f90), (91, f91), (92, f92), (96, f96), (130, f130), (131, f131), (132, f132), (133, f133), (134, f134), (135, f135), (138, f138), (137, f137a)]
abbrev F74 : Nat → Option Fn := look T74
theorem cl74 : ClF F74 := look_cl (by decide +kernel)
/-- the part behind the turns -/
def tail : Ss := match f137a.body with
  | .cons _ (.cons _ b) => b
  | _ => .nil
theorem tail_cl : clSs tail = true := by decide +kernel
theorem tail_k : endB (evSs (callF F74 60) true tail (List.replicate 13 none) []) isT = true := by decide +kernel
end PVL.L74
set_option Elab.async false
set_option linter.all false
set_option maxRecDepth 10000
/-! L74: the law of texts of lines, told by the evaluator. -/
namespace PVL.L74
open PV PVL
theorem forR_inv4 {tg : T} {b : Sl → Sto → RS} {I : Nat → Sl → Sto → Prop} : ∀ (ds : List D) (j : Nat), (∀ d ∈ ds, ∀ (j : Nat) δ st, I j δ st → ∃ δ1 δ' st', asgT tg d δ = some δ1 ∧ b δ1 st = .ok (.nx δ') st' ∧ I (j + 1) δ' st') → ∀ δ st, I j δ st → ∃ δ' st', forR tg b ds δ st = .ok (.nx δ') st' ∧ I (j + ds.length) δ' st'
  | [], j, _, δ, st, h => ⟨δ, st, rfl, h⟩
  | d :: ds, j, hs, δ, st, h => by
    obtain ⟨δ1, δ2, st2, h1, h2, h3⟩ := hs d List.mem_cons_self j δ st h
    obtain ⟨δ3, st3, h4, h5⟩ := forR_inv4 ds (j + 1) (fun e he => hs e (List.mem_cons_of_mem _ he)) δ2 st2 h3
    refine ⟨δ3, st3, ?_, ?_⟩
    · unfold forR
      rw [h1]
      dsimp only
      rw [h2]
      exact h4
    · rw [List.length_cons, show j + (ds.length + 1) = j + 1 + ds.length by omega]
      exact h5
theorem rangeD_len4 : ∀ (n : Nat) (lo : Int), (rangeD lo n).length = n
  | 0, _ => rfl
  | n + 1, lo => by show (rangeD (lo + 1) n).length + 1 = _; rw [rangeD_len4]
def h (i : Nat) (fn : Fn) : Prop := F74 i = some fn
theorem TB : Tab F74 := ⟨rfl, rfl, rfl, rfl, rfl, rfl, rfl, rfl, rfl, rfl, rfl, rfl, rfl, rfl, rfl, rfl, rfl, rfl, rfl, rfl, rfl⟩
theorem h131 : F74 131 = some f131 := rfl
theorem h132 : F74 132 = some f132 := rfl
/-- the trimming of a list -/
theorem trim_any {c : Sl → Sto → R D} {b : Sl → Sto → RS} {st : Sto} (g : List Int → Sl) (hc : ∀ xs : List Int, c (g xs) st = .ok (.bl (match xs.getLast? with | some x => decide (x = 0) | none => false)) st)
    (hb : ∀ (xs : List Int) (x : Int), b (g (xs ++ [x])) st = .ok (.nx (g xs)) st) : ∀ (ys : List Int) (n : Nat), ys.length < n → whR c b n (g ys.reverse) st = .ok (.nx (g (trimR ys).reverse)) st
  | [], 0, h => by simp at h
  | [], n + 1, h => by rw [wh_stop (by rw [hc]; rfl)]; rfl
  | y :: ys, 0, h => by simp at h
  | y :: ys, n + 1, h => by
    have e : (y :: ys).reverse.getLast? = some y := by simp
    unfold trimR
    by_cases q : y = 0
    · rw [if_pos q, wh_go (δ1 := g ys.reverse) (st2 := st) (by rw [hc, e]; simp [q]; rfl) (by rw [List.reverse_cons]; exact hb _ _), trim_any g hc hb ys n (by simp at h; omega)]
    · rw [if_neg q, wh_stop (by rw [hc, e]; simp [q]; rfl)]
theorem trimR_sub : ∀ (ys : List Int), (trimR ys).length ≤ ys.length ∧ ∀ x ∈ trimR ys, x ∈ ys
  | [] => ⟨Nat.le_refl _, fun x h => h⟩
  | y :: ys => by
    obtain ⟨h1, h2⟩ := trimR_sub ys
    unfold trimR
    split
    · exact ⟨by simp; omega, fun x h => List.mem_cons_of_mem _ (h2 x h)⟩
    · exact ⟨Nat.le_refl _, fun x h => h⟩
theorem trimZ_sub (xs : List Int) : (trimZ xs).length ≤ xs.length ∧ ∀ x ∈ trimZ xs, x ∈ xs := by
  obtain ⟨h1, h2⟩ := trimR_sub xs.reverse
  unfold trimZ
  exact ⟨by simpa using h1, fun x h => by simpa using h2 x (by simpa using h)⟩
/-! ### a drawn term -/
def bA : Ss := Ss.cons (S.par 6 7 (E.call 131 (Es.cons (E.v 1) (Es.cons (E.c (D.int 9)) (Es.nil)))) (E.call 132 (Es.cons (E.v 1) (Es.cons (E.lst false (Es.cons (E.c (D.int 1)) (Es.cons (E.neg (E.c (D.int 1))) (Es.cons (E.c (D.int 0)) (Es.cons (E.bin (BO.sub) (E.call 131 (Es.cons (E.v 1) (Es.cons (E.c (D.int 200)) (Es.nil)))) (E.c (D.int 100))) (Es.cons (E.c (D.int 100000)) (Es.nil))))))) (Es.nil)))))
  (Ss.cons (S.asg (T.n 3) (E.bin (BO.add) (E.v 3) (E.lst false (Es.cons (E.tup (Es.cons (E.v 6) (Es.cons (E.v 7) (Es.nil)))) (Es.nil))))) (Ss.cons (S.sub (E.v 4) (E.v 6) (E.bin (BO.add) (E.idx (E.v 4) (E.v 6)) (E.v 7))) (Ss.nil)))
def cT (k : Nat) : List (Nat × Int) → Int
  | [] => 0
  | q :: l => (if k = q.1 then q.2 else 0) + cT k l
theorem cT_app (k : Nat) (a b : List (Nat × Int)) : cT k (a ++ b) = cT k a + cT k b := by
  induction a with
  | nil => simp [cT]
  | cons q a ih => simp only [List.cons_append, cT, ih]; omega
theorem cT_bd (k : Nat) : ∀ (l : List (Nat × Int)), (∀ q ∈ l, q.2.natAbs ≤ 100000) → (cT k l).natAbs ≤ 100000 * l.length
  | [], _ => by simp [cT]
  | q :: l, h => by
    have ih := cT_bd k l fun z hz => h z (List.mem_cons_of_mem _ hz)
    have hq := h q List.mem_cons_self
    unfold cT
    rw [List.length_cons, Nat.mul_add]
    split <;> omega
def DrawI (scr : D) (z : Sto) (j : Nat) (δ : Sl) (st : Sto) : Prop := ∃ (o2 o5 o6 o7 o8 o9 o10 o11 o12 : Option D) (a b : Int) (ts : List (Nat × Int)) (due : List Int), δ = [some scr, some (.ref 0), o2, some (.lst (ts.map tmPD)), some (.ref (z.length + 1)), o5, o6, o7, o8, o9, o10, o11, o12] ∧ st = (cupO a b :: z) ++ [some (.lst (due.map .int))] ∧ CupOk a b ∧ ts.length = j ∧ due.length = 9 ∧ (∀ q ∈ ts, q.1 ≤ 8 ∧ q.2.natAbs ≤ 100000) ∧ ∀ k, due.getD k 0 = cT k ts
theorem draw_ok (k : Nat) {room : Bool} {scr : D} {z : Sto} (d : D) (j : Nat) (δ : Sl) (st : Sto) (hj : j < 6) (h : DrawI scr z j δ st) :
    ∃ δ1 δ' st', asgT (T.n 5) d δ = some δ1 ∧ evSs (callF F74 (k + 2)) room bA δ1 st = .ok (.nx δ') st' ∧ DrawI scr z (j + 1) δ' st' := by
  obtain ⟨o2, o5, o6, o7, o8, o9, o10, o11, o12, a, b, ts, due, rfl, rfl, hc, hl, hd, hq, hx⟩ := h
  obtain ⟨v1, a1, b1, r1, x1, y1, c1⟩ := roll_ok h131 (k + 1) hc (m := 9) (by decide) (by decide) (z ++ [some (.lst (due.map .int))])
  obtain ⟨v2, a2, b2, r2, x2, y2, c2⟩ := roll_ok h131 (k + 1) c1 (m := 200) (by decide) (by decide) (z ++ [some (.lst (due.map .int))])
  obtain ⟨w, a3, b3, r3, w1, c3⟩ := some_ok h131 h132 k c2 (ds := [.int 1, .int (-1), .int 0, .int (v2 - 100), .int 100000]) (by simp) (by simp) (z ++ [some (.lst (due.map .int))])
  obtain ⟨p, rfl⟩ : ∃ n : Nat, v1 = n := ⟨v1.toNat, by omega⟩
  obtain ⟨n, hn, rfl⟩ : ∃ n : Int, n.natAbs ≤ 100000 ∧ w = .int n := by
    simp only [List.mem_cons, List.not_mem_nil, or_false] at w1
    rcases w1 with h | h | h | h | h
    · exact ⟨1, by decide, h⟩
    · exact ⟨-1, by decide, h⟩
    · exact ⟨0, by decide, h⟩
    · exact ⟨v2 - 100, by omega, h⟩
    · exact ⟨100000, by decide, h⟩
  have hp : p < due.length := by omega
  have r1' : callF F74 (k + 2) 131 [.ref 0, .int 9] (cupO a b :: (z ++ [some (.lst (due.map .int))])) = _ := r1
  have r2' : callF F74 (k + 2) 131 [.ref 0, .int 200] (cupO a1 b1 :: (z ++ [some (.lst (due.map .int))])) = _ := r2
  have at1 : ∀ st, binD .add (.lst (ts.map tmPD)) (.lst [.tup false [.int p, .int n]]) st = .ok (.lst ((ts ++ [(p, n)]).map tmPD)) st := fun st => by
    rw [List.map_append]
    exact add_lst (by simp; omega) st
  have mo : getMO (cupO a3 b3 :: (z ++ [some (.lst (due.map .int))])) (z.length + 1) = some (.lst (due.map .int)) := mo_last (cupO a3 b3 :: z) (.lst (due.map .int))
  have gi : (due.map D.int)[p]? = some (.int (due.getD p 0)) := by
    rw [List.getElem?_map, List.getD_eq_getElem?_getD, List.getElem?_eq_getElem hp]
    rfl
  have ix : idxD (.ref (z.length + 1)) (.int p) (cupO a3 b3 :: (z ++ [some (.lst (due.map .int))])) = .ok (.int (due.getD p 0)) (cupO a3 b3 :: (z ++ [some (.lst (due.map .int))])) := by
    show (match getMO (cupO a3 b3 :: (z ++ [some (MO.lst (due.map .int))])) (z.length + 1) with
      | some (.lst ds) => okd (atI ds (p : Int)) _
      | _ => .bad) = _
    rw [mo]
    dsimp only
    rw [atI_nat, gi]
    rfl
  have sd : setD (.ref (z.length + 1)) (.int p) (.int (due.getD p 0 + n)) (cupO a3 b3 :: (z ++ [some (.lst (due.map .int))])) = .ok () (cupO a3 b3 :: (z ++ [some (.lst ((due.set p (due.getD p 0 + n)).map .int))])) := by
    show (match getMO (cupO a3 b3 :: (z ++ [some (MO.lst (due.map .int))])) (z.length + 1) with
      | some (.lst ds) => match ixN ds.length (p : Int) with
        | some m => R.ok () ((cupO a3 b3 :: (z ++ [some (MO.lst (due.map .int))])).set (z.length + 1) (some (.lst (ds.set m (.int (due.getD p 0 + n))))))
        | none => .bad
      | _ => .bad) = _
    rw [mo]
    dsimp only
    have : ixN (due.map D.int).length (p : Int) = some p := by
      unfold ixN
      rw [if_pos (by omega), if_pos (by simp; omega)]
      simp
    rw [this]
    dsimp only
    have s2 := set_last (cupO a3 b3 :: z) (some (.lst (due.map .int))) (some (.lst ((due.map D.int).set p (.int (due.getD p 0 + n)))))
    have s3 : (cupO a3 b3 :: (z ++ [some (MO.lst (due.map .int))])).set (z.length + 1) (some (.lst ((due.map D.int).set p (.int (due.getD p 0 + n))))) = cupO a3 b3 :: (z ++ [some (.lst ((due.map D.int).set p (.int (due.getD p 0 + n))))]) := s2
    rw [s3, List.map_set]
  refine ⟨[some scr, some (.ref 0), o2, some (.lst (ts.map tmPD)), some (.ref (z.length + 1)), some d, o6, o7, o8, o9, o10, o11, o12], [some scr, some (.ref 0), o2, some (.lst ((ts ++ [(p, n)]).map tmPD)), some (.ref (z.length + 1)), some d, some (.int p), some (.int n), o8, o9, o10, o11, o12], cupO a3 b3 :: (z ++ [some (.lst ((due.set p (due.getD p 0 + n)).map .int))]), rfl, ?_, o2, some d, some (.int p), some (.int n), o8, o9, o10, o11, o12, a3, b3, ts ++ [(p, n)], due.set p (due.getD p 0 + n), rfl, rfl, c3, by simp [hl], by simp [hd], fun q hq' => ?_, fun k => ?_⟩
  · have e1 : ev (callF F74 (k + 2)) (E.call 131 (Es.cons (E.v 1) (Es.cons (E.c (D.int 9)) (Es.nil)))) false [some scr, some (.ref 0), o2, some (.lst (ts.map tmPD)), some (.ref (z.length + 1)), some d, o6, o7, o8, o9, o10, o11, o12] (cupO a b :: (z ++ [some (.lst (due.map .int))])) = .ok (.int p) (cupO a1 b1 :: (z ++ [some (.lst (due.map .int))])) := by
      simp only [ev_call, evs_cons, evs_nil, ev_v1, ev_c, tst_f, bind_ok, r1']
    have e2 : ev (callF F74 (k + 2)) (E.call 132 (Es.cons (E.v 1) (Es.cons (E.lst false (Es.cons (E.c (D.int 1)) (Es.cons (E.neg (E.c (D.int 1))) (Es.cons (E.c (D.int 0)) (Es.cons (E.bin (BO.sub) (E.call 131 (Es.cons (E.v 1) (Es.cons (E.c (D.int 200)) (Es.nil)))) (E.c (D.int 100))) (Es.cons (E.c (D.int 100000)) (Es.nil))))))) (Es.nil)))) false [some scr, some (.ref 0), o2, some (.lst (ts.map tmPD)), some (.ref (z.length + 1)), some d, o6, o7, o8, o9, o10, o11, o12] (cupO a1 b1 :: (z ++ [some (.lst (due.map .int))])) = .ok (.int n) (cupO a3 b3 :: (z ++ [some (.lst (due.map .int))])) := by
      simp only [ev_call, evs_cons, evs_nil, ev_v1, ev_c, ev_lst, ev_neg, negD_i, ev_bin, tst_f, bind_ok, r2', sub_int, List.length_cons, List.length_nil, show fits (0 + 1 + 1 + 1 + 1 + 1) = true from rfl, okb_t]
      exact r3
    rw [bA, evSs_cons, evS_par]
    rw [show (cupO a b :: z) ++ [some (MO.lst (due.map D.int))] = cupO a b :: (z ++ [some (MO.lst (due.map D.int))]) from rfl, e1, thn_ok, e2, thn_ok, parS_eq, if_pos (by simp), seq_nx]
    simp only [List.set_cons_succ, List.set_cons_zero]
    simp only [evSs_cons, evSs_nil, evS_asg, ev_bin, ev_v3, ev_lst, ev_tup, evs_cons, evs_nil, ev_v6, ev_v7, tst_f, bind_ok, List.length_cons, List.length_nil, show fits (0 + 1) = true from rfl, show fits (0 + 1 + 1) = true from rfl, okb_t, at1, thn_ok]
    rw [show asgT (T.n 3) (D.lst ((ts ++ [(p, n)]).map tmPD)) [some scr, some (.ref 0), o2, some (.lst (ts.map tmPD)), some (.ref (z.length + 1)), some d, some (.int p), some (.int n), o8, o9, o10, o11, o12] = some [some scr, some (.ref 0), o2, some (.lst ((ts ++ [(p, n)]).map tmPD)), some (.ref (z.length + 1)), some d, some (.int p), some (.int n), o8, o9, o10, o11, o12] from rfl, nxt_s, seq_nx]
    simp only [evS_sub, ev_bin, ev_idx, ev_v4, ev_v6, ev_v7, tst_f, bind_ok, ix, add_int, thn_ok, sd, seq_nx]
  · rcases List.mem_append.mp hq' with h | h
    · exact hq q h
    · rw [List.mem_singleton] at h
      subst h
      exact ⟨by show p ≤ 8; omega, hn⟩
  · rw [set_getD _ _ _ _ hp, cT_app]
    simp only [hx]
    by_cases q : k = p
    · subst q
      simp [cT]
    · simp [cT, q]
/-! ### a turn -/
def bC : Ss := Ss.cons (S.asg (T.n 4) (E.slc (E.v 4) (Eo.none) (Eo.some (E.neg (E.c (D.int 1)))))) (Ss.nil)
def bTurn : Ss := Ss.cons (S.par 3 4 (E.lst false (Es.nil)) (E.rep true (E.lst false (Es.cons (E.c (D.int 0)) (Es.nil))) (E.c (D.int 9)))) (Ss.cons (S.fr (T.n 5) (I.rng (E.bin (BO.add) (E.c (D.int 1)) (E.call 131 (Es.cons (E.v 1) (Es.cons (E.c (D.int 6)) (Es.nil)))))) bA)
  (Ss.cons (S.fz 4) (Ss.cons (S.wh (E.and (E.cmp (CO.ne) (E.v 4) (E.lst false (Es.nil))) (E.cmp (CO.eq) (E.idx (E.v 4) (E.neg (E.c (D.int 1)))) (E.c (D.int 0)))) bC)
  (Ss.cons (S.asg (T.n 8) (E.call 138 (Es.cons (E.v 1) (Es.cons (E.v 3) (Es.nil)))))
  (Ss.cons (S.ite (E.or (E.cmp (CO.ne) (E.call 54 (Es.cons (E.v 8) (Es.nil))) (E.bf (BF.tuple) (Es.cons (E.v 4) (Es.nil)))) (E.cmp (CO.isnot) (E.call 96 (Es.cons (E.c (D.str [108, 105, 110, 101])) (Es.cons (E.v 8) (Es.nil)))) (E.c (D.non)))) (Ss.cons (S.ret (E.c (D.bl false))) (Ss.nil)) (Ss.nil))
  (Ss.cons (S.asg (T.n 9) (E.call 135 (Es.cons (E.lc [12, 7] (T.t2 (T.n 12) (T.n 7)) (I.enum (E.v 4)) (Eo.some (E.cmp (CO.ne) (E.v 7) (E.c (D.int 0)))) (E.tup (Es.cons (E.tup (Es.cons (E.v 12) (Es.cons (E.c (D.int 0)) (Es.nil)))) (Es.cons (E.tup (Es.cons (E.v 7) (Es.cons (E.c (D.int 1)) (Es.nil)))) (Es.nil))))) (Es.nil))))
  (Ss.cons (S.ite (E.or (E.cmp (CO.ne) (E.call 53 (Es.cons (E.bf (BF.tuple) (Es.cons (E.v 4) (Es.nil))) (Es.nil))) (E.v 9)) (E.cmp (CO.ne) (E.call 54 (Es.cons (E.v 9) (Es.nil))) (E.bf (BF.tuple) (Es.cons (E.v 4) (Es.nil))))) (Ss.cons (S.ret (E.c (D.bl false))) (Ss.nil)) (Ss.nil)) (Ss.nil))))))))
theorem ne_line (xs : List Int) : cmpD .ne (lineD xs) (lineD xs) = some false := by
  have h1 : D.data 20 (lineD xs) = true := data_ints 19 xs
  have h2 : D.eqv (lineD xs) (lineD xs) = true := by
    unfold lineD
    show D.eqvs (xs.map D.int) (xs.map D.int) = true
    induction xs with
    | nil => rfl
    | cons x xs ih => simp [D.eqvs, D.eqv, ih (data_ints 19 xs)]
  simp only [cmpD, h1, h2, Bool.and_self, if_true, Bool.not_true]
theorem ne_self {s : List Nat} (ha : asc s = true) : cmpD .ne (.str s) (.str s) = some false := by rw [ne_str ha ha]; simp
def TurnI (scr : D) (_ : Nat) (δ : Sl) (st : Sto) : Prop := ∃ (o2 o3 o4 o5 o6 o7 o8 o9 o10 o11 o12 : Option D) (a b : Int) (z : Sto), δ = [some scr, some (.ref 0), o2, o3, o4, o5, o6, o7, o8, o9, o10, o11, o12] ∧ st = cupO a b :: z ∧ CupOk a b
theorem turn_ok (k : Nat) {room : Bool} {scr : D} (d : D) (j : Nat) (δ : Sl) (st : Sto) (h : TurnI scr j δ st) :
    ∃ δ1 δ' st', asgT (T.n 2) d δ = some δ1 ∧ evSs (callF F74 (k + 11)) room bTurn δ1 st = .ok (.nx δ') st' ∧ TurnI scr (j + 1) δ' st' := by
  obtain ⟨o2, o3, o4, o5, o6, o7, o8, o9, o10, o11, o12, a, b, z, rfl, rfl, hc⟩ := h
  obtain ⟨v, a1, b1, r1, x1, y1, c1⟩ := roll_ok h131 (k + 10) hc (m := 6) (by decide) (by decide) (z ++ [some (.lst ((List.replicate 9 (0 : Int)).map .int))])
  have r1' : callF F74 (k + 11) 131 [.ref 0, .int 6] (cupO a b :: (z ++ [some (.lst ((List.replicate 9 (0 : Int)).map .int))])) = _ := r1
  have ok : okR (1 + v) = true := by
    unfold okR
    rw [Bool.and_eq_true]
    exact ⟨decide_eq_true (by omega), decide_eq_true (by omega)⟩
  -- the terms
  have drawN : ∀ (ds : List D) (j : Nat), j + ds.length ≤ 6 → ∀ δ st, DrawI scr z j δ st → ∃ δ' st', forR (T.n 5) (fun δ st => evSs (callF F74 (k + 11)) room bA δ st) ds δ st = .ok (.nx δ') st' ∧ DrawI scr z (j + ds.length) δ' st' := by
    intro ds
    induction ds with
    | nil => intro j _ δ st h; exact ⟨δ, st, rfl, h⟩
    | cons d ds ih =>
      intro j hj δ st h
      rw [List.length_cons] at hj
      obtain ⟨δ1, δ2, st2, h1, h2, h3⟩ := draw_ok (k + 9) (room := room) d j δ st (by omega) h
      obtain ⟨δ3, st3, h4, h5⟩ := ih (j + 1) (by omega) δ2 st2 h3
      refine ⟨δ3, st3, ?_, by rw [List.length_cons, show j + (ds.length + 1) = j + 1 + ds.length by omega]; exact h5⟩
      unfold forR
      rw [h1]
      dsimp only
      rw [h2]
      exact h4
  obtain ⟨δ2, st2, f1, I2⟩ := drawN (rangeD 0 (1 + v).toNat) 0 (by rw [rangeD_len4]; omega) [some scr, some (.ref 0), some d, some (.lst []), some (.ref (z.length + 1)), o5, o6, o7, o8, o9, o10, o11, o12] (cupO a1 b1 :: (z ++ [some (.lst ((List.replicate 9 (0 : Int)).map .int))]))
    ⟨some d, o5, o6, o7, o8, o9, o10, o11, o12, a1, b1, [], List.replicate 9 0, rfl, rfl, c1, rfl, by simp, fun q hq => (nomatch hq), fun k => by
      simp only [List.getD_eq_getElem?_getD, List.getElem?_replicate]
      split <;> rfl⟩
  obtain ⟨u2, u5, u6, u7, u8, u9, u10, u11, u12, a2, b2, ts, due, rfl, rfl, c2, hl, hd, hq, hx⟩ := I2
  rw [rangeD_len4] at hl
  have ts0 : ts ≠ [] := by intro q; subst q; simp at hl; omega
  -- due is let go and trimmed
  have fz : evS (callF F74 (k + 11)) room (S.fz 4) [some scr, some (.ref 0), u2, some (.lst (ts.map tmPD)), some (.ref (z.length + 1)), u5, u6, u7, u8, u9, u10, u11, u12] ((cupO a2 b2 :: z) ++ [some (.lst (due.map .int))]) = .ok (.nx [some scr, some (.ref 0), u2, some (.lst (ts.map tmPD)), some (.lst (due.map .int)), u5, u6, u7, u8, u9, u10, u11, u12]) ((cupO a2 b2 :: z) ++ [none]) := by
    show (match getMO ((cupO a2 b2 :: z) ++ [some (MO.lst (due.map .int))]) (cupO a2 b2 :: z).length with
      | some (.lst ds) => RS.ok (.nx ([some scr, some (D.ref 0), u2, some (D.lst (ts.map tmPD)), some (D.ref (z.length + 1)), u5, u6, u7, u8, u9, u10, u11, u12].set 4 (some (D.lst ds)))) (((cupO a2 b2 :: z) ++ [some (MO.lst (due.map .int))]).set (cupO a2 b2 :: z).length none)
      | some (.dct ks vs) => RS.ok (.nx ([some scr, some (D.ref 0), u2, some (D.lst (ts.map tmPD)), some (D.ref (z.length + 1)), u5, u6, u7, u8, u9, u10, u11, u12].set 4 (some (D.dct ks vs)))) (((cupO a2 b2 :: z) ++ [some (MO.lst (due.map .int))]).set (cupO a2 b2 :: z).length none)
      | none => .bad) = _
    rw [mo_last, set_last]
    rfl
  have ml : ∀ (xs : List Int) (st : Sto), ev (callF F74 (k + 11)) (E.and (E.cmp (CO.ne) (E.v 4) (E.lst false (Es.nil))) (E.cmp (CO.eq) (E.idx (E.v 4) (E.neg (E.c (D.int 1)))) (E.c (D.int 0)))) true [some scr, some (.ref 0), u2, some (.lst (ts.map tmPD)), some (.lst (xs.map .int)), u5, u6, u7, u8, u9, u10, u11, u12] st = .ok (.bl (match xs.getLast? with | some x => decide (x = 0) | none => false)) st := fun xs st => by
    have el : ∀ δ st, ev (callF F74 (k + 11)) (E.lst false (Es.nil)) false δ st = .ok (.lst []) st := fun _ _ => rfl
    simp only [ev_and, ev_cmp, ev_v4, tst_f, bind_ok, el, ne_nil, okO_s]
    by_cases q : xs = []
    · subst q; rfl
    · obtain ⟨ys, x, rfl⟩ : ∃ ys x, xs = ys ++ [x] := ⟨xs.dropLast, xs.getLast q, (List.dropLast_concat_getLast q).symm⟩
      have ix : idxD (.lst ((ys ++ [x]).map D.int)) (.int (-1)) st = .ok (.int x) st := by
        show okd (atI ((ys ++ [x]).map D.int) (-1)) st = _
        rw [List.map_append, List.map_cons, List.map_nil, atI_last]
        rfl
      rw [show decide (ys ++ [x] ≠ []) = true from decide_eq_true q, onB_t]
      simp only [ev_idx, ev_v4, ev_neg, ev_c, tst_f, bind_ok, negD_i, ix, eq_int, okO_s]
      simp
  have mb : ∀ (xs : List Int) (x : Int) (st : Sto), evSs (callF F74 (k + 11)) room bC [some scr, some (.ref 0), u2, some (.lst (ts.map tmPD)), some (.lst ((xs ++ [x]).map .int)), u5, u6, u7, u8, u9, u10, u11, u12] st = .ok (.nx [some scr, some (.ref 0), u2, some (.lst (ts.map tmPD)), some (.lst (xs.map .int)), u5, u6, u7, u8, u9, u10, u11, u12]) st := fun xs x st => by
    have s1 : slcD (.lst ((xs ++ [x]).map D.int)) none (some (-1)) st = .ok (.lst (xs.map .int)) st := by
      show R.ok (D.lst (cut ((xs ++ [x]).map D.int) none (some (-1)))) st = _
      rw [List.map_append, List.map_cons, List.map_nil, cut_last]
    simp only [bC, evSs_cons, evSs_nil, evS_asg, ev_slc, ev_v4, evo_none, evo_some, ev_neg, ev_c, tst_f, bind_ok, negD_i, evoK_i, s1, thn_ok]
    rfl
  have tr := trim_any (c := fun δ st => ev (callF F74 (k + 11)) (E.and (E.cmp (CO.ne) (E.v 4) (E.lst false (Es.nil))) (E.cmp (CO.eq) (E.idx (E.v 4) (E.neg (E.c (D.int 1)))) (E.c (D.int 0)))) true δ st) (b := fun δ st => evSs (callF F74 (k + 11)) room bC δ st) (st := (cupO a2 b2 :: z) ++ [none]) (fun xs => [some scr, some (.ref 0), u2, some (.lst (ts.map tmPD)), some (.lst (xs.map .int)), u5, u6, u7, u8, u9, u10, u11, u12]) (fun xs => ml xs _) (fun xs x => mb xs x _) due.reverse turns (by rw [List.length_reverse, hd, turns_eq]; decide)
  rw [List.reverse_reverse] at tr
  -- what is due fits
  have hfit : FitL (trimZ due) := by
    obtain ⟨s1, s2⟩ := trimZ_sub due
    refine ⟨by omega, fun x hxm => ?_, trimZ_noz _⟩
    obtain ⟨i, hi, e⟩ := List.mem_iff_getElem.mp (s2 x hxm)
    have g : due.getD i 0 = x := by rw [List.getD_eq_getElem?_getD, List.getElem?_eq_getElem hi, e]; rfl
    have bd := cT_bd i ts fun q h => (hq q h).2
    rw [← hx, g] at bd
    have : 100000 * ts.length ≤ 100000 * 6 := Nat.mul_le_mul_left _ (by omega)
    omega
  -- the text
  obtain ⟨s, l, a3, b3, g8, t1, t2, t3, t4, c3⟩ := text138_ok h131 h132 (show F74 138 = some f138 from rfl) (k + 8) (ts := ts) ts0 (by omega) (fun q h => ⟨(hq q h).1, by have := (hq q h).2; omega⟩) c2 (z ++ [none])
  have g8' : callF F74 (k + 11) 138 [.ref 0, .lst (ts.map tmPD)] (cupO a2 b2 :: (z ++ [none])) = _ := g8
  have cl : ∀ k, cL (k, 0) l = due.getD k 0 := fun k => by
    rw [cL_cR, t4.1, hx]
    clear t4 hx hfit hl ts0 hq tr fz ml mb f1 g8 g8'
    induction ts with
    | nil => rfl
    | cons q ts ih =>
      rw [List.map_cons]
      unfold cR cT
      rw [ih]
      congr 1
      by_cases e : k = q.1
      · subst e; simp
      · rw [if_neg (by intro z; exact e (congrArg Prod.fst z)), if_neg e]
  have l0 : ∀ q ∈ l, q.2.1.2 = 0 := fun q hq' => by
    have : (q.2.1, q.1 * q.2.2.1.1) ∈ ts.map (fun q => (((q.1, 0) : Nat × Nat), q.2)) := by rw [← t4.1]; exact List.mem_map.mpr ⟨q, hq', rfl⟩
    obtain ⟨p, _, e⟩ := List.mem_map.mp this
    have e1 : (p.1, 0) = q.2.1 := congrArg Prod.fst e
    rw [← e1]
  have rd : ∀ st, callF F74 (k + 11) 54 [.str s] st = .ok (lineD (trimZ due)) (st ++ [none]) := fun st => readL_run TB (show F74 100 = some f100 from rfl) (show F74 102 = some f102 from rfl) (show F74 104 = some f104 from rfl) (show F74 54 = some f54 from rfl) (k + 1) t1 t2 (by omega) t4.2 l0 cl hfit st
  obtain ⟨z2, rf⟩ := refuse_run TB k t1 t2 (by omega) (cupO a3 b3 :: ((z ++ [none]) ++ [none]))
  -- the own text
  obtain ⟨rl, ra⟩ := rowL_tx hfit
  obtain ⟨z3, sx⟩ := sum_tx (show F74 133 = some f133 from rfl) (show F74 134 = some f134 from rfl) (show F74 135 = some f135 from rfl) (k + 8) (l := rowL 0 (trimZ due)) (by have := rowL_len (trimZ due) 0; have := hfit.len; omega) (fun q hq' => (rowL_lo hfit q hq').ok) (cupO a3 b3 :: (((z ++ [none]) ++ [none]) ++ z2))
  have wr : ∀ st, callF F74 (k + 11) 53 [lineD (trimZ due)] st = .ok (.str (sumTx (rowL 0 (trimZ due)))) st := fun st => write_ok (show F74 48 = some f48 from rfl) (show F74 49 = some f49 from rfl) (show F74 50 = some f50 from rfl) (show F74 51 = some f51 from rfl) (show F74 52 = some f52 from rfl) (show F74 53 = some f53 from rfl) (show F74 100 = some f100 from rfl) (show F74 102 = some f102 from rfl) (show F74 104 = some f104 from rfl) (show F74 107 = some f107 from rfl) (k + 7) hfit st
  have rr : ∀ st, callF F74 (k + 11) 54 [.str (sumTx (rowL 0 (trimZ due)))] st = .ok (lineD (trimZ due)) (st ++ [none]) := fun st => reread_ok TB (show F74 100 = some f100 from rfl) (show F74 102 = some f102 from rfl) (show F74 104 = some f104 from rfl) (show F74 54 = some f54 from rfl) (k + 1) hfit st
  have tp : ∀ st, bfD .tuple [.lst ((trimZ due).map .int)] st = .ok (lineD (trimZ due)) st := fun st => rfl
  refine ⟨[some scr, some (.ref 0), some d, o3, o4, o5, o6, o7, o8, o9, o10, o11, o12], _, _, rfl, ?_, u2, some (.lst (ts.map tmPD)), some (.lst ((trimZ due).map .int)), u5, u6, u7, some (.str s), some (.str (sumTx (rowL 0 (trimZ due)))), u10, u11, u12, a3, b3, ((((z ++ [none]) ++ [none]) ++ z2) ++ z3) ++ [none], rfl, rfl, c3⟩
  have g0 : ev (callF F74 (k + 11)) (E.rep true (E.lst false (Es.cons (E.c (D.int 0)) (Es.nil))) (E.c (D.int 9))) false [some scr, some (.ref 0), some d, o3, o4, o5, o6, o7, o8, o9, o10, o11, o12] (cupO a b :: z) = .ok (.ref (z.length + 1)) (cupO a b :: (z ++ [some (.lst ((List.replicate 9 (0 : Int)).map .int))])) := by
    have := rep_zero 9 (by decide) (by decide) (cupO a b :: z)
    rw [ev_rep]
    simp only [ev_lst, evs_cons, evs_nil, ev_c, tst_f, bind_ok, List.length_cons, List.length_nil, show fits (0 + 1) = true from rfl, okb_t, this]
    rfl
  have g1 : evI (callF F74 (k + 11)) (I.rng (E.bin (BO.add) (E.c (D.int 1)) (E.call 131 (Es.cons (E.v 1) (Es.cons (E.c (D.int 6)) (Es.nil)))))) [some scr, some (.ref 0), some d, some (.lst []), some (.ref (z.length + 1)), o5, o6, o7, o8, o9, o10, o11, o12] (cupO a b :: (z ++ [some (.lst ((List.replicate 9 (0 : Int)).map .int))])) = .ok (rangeD 0 (1 + v).toNat) (cupO a1 b1 :: (z ++ [some (.lst ((List.replicate 9 (0 : Int)).map .int))])) := by
    simp only [evI_rng, ev_bin, ev_call, evs_cons, evs_nil, ev_v1, ev_c, tst_f, bind_ok, r1', add_int, rngD, ok]
  rw [bTurn, evSs_cons, evS_par]
  rw [show ev (callF F74 (k + 11)) (E.lst false Es.nil) false [some scr, some (.ref 0), some d, o3, o4, o5, o6, o7, o8, o9, o10, o11, o12] (cupO a b :: z) = .ok (.lst []) (cupO a b :: z) from rfl, thn_ok, g0, thn_ok, parS_eq, if_pos (by simp), seq_nx]
  simp only [List.set_cons_succ, List.set_cons_zero]
  rw [evSs_cons, evS_fr, g1, thn_ok, f1, seq_nx, evSs_cons, fz, seq_nx, evSs_cons, evS_wh, tr, seq_nx]
  rw [show (trimR due.reverse).reverse = trimZ due from rfl, show (cupO a2 b2 :: z) ++ [none] = cupO a2 b2 :: (z ++ [none]) from rfl]
  rw [evSs_cons, evS_asg]
  simp only [ev_call, evs_cons, evs_nil, ev_v1, ev_v3, tst_f, bind_ok, g8', thn_ok]
  rw [show asgT (T.n 8) (D.str s) [some scr, some (.ref 0), u2, some (.lst (ts.map tmPD)), some (.lst ((trimZ due).map .int)), u5, u6, u7, u8, u9, u10, u11, u12] = some [some scr, some (.ref 0), u2, some (.lst (ts.map tmPD)), some (.lst ((trimZ due).map .int)), u5, u6, u7, some (.str s), u9, u10, u11, u12] from rfl, nxt_s, seq_nx]
  rw [evSs_cons, evS_ite, ev_or, ev_cmp, ev_call]
  simp only [evs_cons, evs_nil, ev_v8, ev_bf, ev_v4, tst_f, bind_ok, rd, tp, ne_line, okO_s, onB_f, ev_cmp, ev_call, ev_c]
  rw [show (cupO a3 b3 :: (z ++ [none])) ++ [none] = cupO a3 b3 :: ((z ++ [none]) ++ [none]) from rfl, rf]
  simp only [bind_ok, show cmpD .isnot .non .non = some false from rfl, okO_s, thn_ok, onB_f, evSs_nil, seq_nx]
  rw [evSs_cons, evS_asg, ev_call, evs_cons]
  rw [rowc_ok (call := callF F74 (k + 11)) (a := 12) (b := 7) (e0 := E.v 4) (c := Eo.some (E.cmp (CO.ne) (E.v 7) (E.c (D.int 0)))) (e := E.tup (Es.cons (E.tup (Es.cons (E.v 12) (Es.cons (E.c (D.int 0)) (Es.nil)))) (Es.cons (E.tup (Es.cons (E.v 7) (Es.cons (E.c (D.int 1)) (Es.nil)))) (Es.nil)))) (xs := trimZ due) (.inr rfl) (by have := hfit.len; omega)
    (fun i x => ⟨[some scr, some (.ref 0), u2, some (.lst (ts.map tmPD)), some (.lst ((trimZ due).map .int)), u5, u6, some (.int x), some (.str s), u9, u10, u11, some (.int i)], rfl, by by_cases q : x = 0 <;> simp [q], fun _ => by simp [fits2]⟩)]
  simp only [bind_ok, evs_nil, tst_f]
  have sx' : callF F74 (k + 11) 135 [.lst ((rowL 0 (trimZ due)).map itemD)] (cupO a3 b3 :: (((z ++ [none]) ++ [none]) ++ z2)) = _ := sx
  rw [show (cupO a3 b3 :: ((z ++ [none]) ++ [none])) ++ z2 = cupO a3 b3 :: (((z ++ [none]) ++ [none]) ++ z2) from rfl, sx', thn_ok]
  rw [show asgT (T.n 9) (D.str (sumTx (rowL 0 (trimZ due)))) [some scr, some (.ref 0), u2, some (.lst (ts.map tmPD)), some (.lst ((trimZ due).map .int)), u5, u6, u7, some (.str s), u9, u10, u11, u12] = some [some scr, some (.ref 0), u2, some (.lst (ts.map tmPD)), some (.lst ((trimZ due).map .int)), u5, u6, u7, some (.str s), some (.str (sumTx (rowL 0 (trimZ due)))), u10, u11, u12] from rfl, nxt_s, seq_nx]
  rw [evSs_cons, evS_ite, ev_or, ev_cmp, ev_call]
  simp only [evs_cons, evs_nil, ev_v9, ev_bf, ev_v4, tst_f, bind_ok, tp, wr, ne_self ra, okO_s, onB_f, ev_cmp, ev_call, rr, ne_line, thn_ok, evSs_nil, seq_nx]
  rfl
theorem law_ok (ns : List Int) (hn : ns.length ≤ 63) : ∃ st, callF F74 61 137 [.scr ns] [] = .ok (.bl true) st := by
  rw [callF_at (k := 60) (F := F74) [some (.scr ns), none, none, none, none, none, none, none, none, none, none, none, none] (show F74 137 = some f137a from rfl) rfl rfl]
  rw [show f137a.body = Ss.cons (S.asg (T.n 1) (E.call 130 (Es.cons (E.v 0) (Es.nil)))) (Ss.cons (S.fr (T.n 2) (I.rng (E.c (D.int 4))) bTurn) tail) from rfl]
  obtain ⟨a, b, cu, c⟩ := cup_ok (show F74 130 = some f130 from rfl) 59 (ns := ns) (by omega)
  have cu' : callF F74 60 130 [.scr ns] [] = .ok (.ref 0) [cupO a b] := cu
  have e1 : ev (callF F74 60) (E.call 130 (Es.cons (E.v 0) (Es.nil))) false [some (.scr ns), none, none, none, none, none, none, none, none, none, none, none, none] [] = .ok (.ref 0) [cupO a b] := by
    simp only [ev_call, evs_cons, evs_nil, ev_v0, tst_f, bind_ok, cu']
  obtain ⟨δ2, st2, f1, I2⟩ := forR_inv4 (tg := T.n 2) (b := fun δ st => evSs (callF F74 60) (Nat.blt 2 60) bTurn δ st) (I := TurnI (.scr ns)) (rangeD 0 4) 0 (fun d _ j δ st h => turn_ok 49 d j δ st h)
    [some (.scr ns), some (.ref 0), none, none, none, none, none, none, none, none, none, none, none] [cupO a b] ⟨none, none, none, none, none, none, none, none, none, none, none, a, b, [], rfl, rfl, c⟩
  obtain ⟨o2, o3, o4, o5, o6, o7, o8, o9, o10, o11, o12, a3, b3, z3, rfl, rfl, c3⟩ := I2
  obtain ⟨z4, t⟩ := tail_run cl74 tail_cl tail_k (δ := [some (.scr ns), some (.ref 0), o2, o3, o4, o5, o6, o7, o8, o9, o10, o11, o12]) rfl (cupO a3 b3 :: z3)
  refine ⟨(cupO a3 b3 :: z3) ++ z4, ?_⟩
  rw [evSs_cons, evS_asg, e1, thn_ok, show asgT (T.n 1) (D.ref 0) [some (D.scr ns), none, none, none, none, none, none, none, none, none, none, none, none] = some [some (D.scr ns), some (D.ref 0), none, none, none, none, none, none, none, none, none, none, none] from rfl, nxt_s, seq_nx, evSs_cons, evS_fr]
  rw [show evI (callF F74 60) (I.rng (E.c (D.int 4))) [some (D.scr ns), some (D.ref 0), none, none, none, none, none, none, none, none, none, none, none] [cupO a b] = .ok (rangeD 0 4) [cupO a b] from rfl, thn_ok, f1, seq_nx]
  rw [show Nat.blt 2 60 = true from rfl, t]
  rfl
end PVL.L74
set_option Elab.async false
set_option linter.all false
set_option maxRecDepth 100000
set_option maxHeartbeats 2000000
/-! The table of the law k74: defs, constants, classes. Printed by gencfg.py. -/
namespace PV.K74
open PySem PySem.Spec PyProof.Rows L2
def prog : Program := (PySem.W.OpenLaw.row PySem.Challenge.rw_nearplain_k74_whole_texts_of_lines).prog
def locs (sc : Scope) : List PySem.Str := (sc.names.filter fun p => match p.2 with | .local => true | .cell => true | _ => false).map (·.1)
def stxs (l : List String) : List PySem.Str := l.map PySem.Str.ofString
def di (i : Nat) (more muts dcts : List String) (fzs : List (Nat × String)) (rm lam : Bool) : DI := let st := prog.main.body.getD i (.Pass ⟨0, 0, 0, 0⟩); ⟨(match st with | .FunctionDef (name := n) .. => n | _ => PySem.Str.ofString ""), st, (defArgs st).args.map (·.arg), locs (defScope st) ++ stxs more, stxs muts, stxs dcts, fzs.map (fun p => (p.1, PySem.Str.ofString p.2)), rm, lam⟩
def fns : List (PySem.Str × Nat × DI) := [
  (PySem.Str.ofString "power_at_linetexts", 40, di 37 [] [] [] [] false false),
  (PySem.Str.ofString "power_at_treetexts", 68, di 70 [] [] [] [] false false),
  (PySem.Str.ofString "is_whole", 102, di 8 [] [] [] [] false false),
  (PySem.Str.ofString "is_tuple_of", 100, di 9 [] [] [] [] false false),
  (PySem.Str.ofString "made", 10, di 14 [] [] [] [] false false),
  (PySem.Str.ofString "plus", 11, di 15 [] [] [] [] false false),
  (PySem.Str.ofString "times", 12, di 16 [] [] [] [] false false),
  (PySem.Str.ofString "fits_line", 104, di 20 ["own"] [] [] [] false false),
  (PySem.Str.ofString "need_line", 107, di 21 [] [] [] [] false false),
  (PySem.Str.ofString "skipped", 30, di 26 [] [] [] [] false false),
  (PySem.Str.ofString "sign_at", 31, di 27 [] [] [] [] false false),
  (PySem.Str.ofString "passed", 32, di 28 [] [] [] [] false false),
  (PySem.Str.ofString "word_at", 33, di 29 ["word"] [] [] [] false false),
  (PySem.Str.ofString "whole_at", 34, di 30 [] [] [] [] false false),
  (PySem.Str.ofString "fraction_at", 35, di 31 [] [] [] [] false false),
  (PySem.Str.ofString "ended", 36, di 32 [] [] [] [] false false),
  (PySem.Str.ofString "need_text", 37, di 33 [] [] [] [] false false),
  (PySem.Str.ofString "factor_at", 41, di 39 [] [] [] [] false false),
  (PySem.Str.ofString "term_at", 42, di 40 [] [] [] [] false false),
  (PySem.Str.ofString "terms_at", 43, di 41 [] [] [] [] false false),
  (PySem.Str.ofString "line_of", 44, di 42 [] ["found"] ["terms"] [(134, "found")] false false),
  (PySem.Str.ofString "row_of", 45, di 43 ["powers"] [] [] [] false false),
  (PySem.Str.ofString "line_at", 46, di 44 [] [] [] [] false false),
  (PySem.Str.ofString "number_text", 48, di 45 [] [] [] [] false false),
  (PySem.Str.ofString "unknown_text", 49, di 46 [] [] [] [] false false),
  (PySem.Str.ofString "term_text", 50, di 47 [] [] [] [] false false),
  (PySem.Str.ofString "sum_text", 51, di 48 [] [] [] [] false true),
  (PySem.Str.ofString "row_of_line", 52, di 49 ["at", "own"] [] [] [] false false),
  (PySem.Str.ofString "write_line", 53, di 50 [] [] [] [] false false),
  (PySem.Str.ofString "read_line", 54, di 51 [] [] [] [] false false),
  (PySem.Str.ofString "surface_at", 47, di 52 ["powers", "number"] [] [] [] false false),
  (PySem.Str.ofString "number_at", 60, di 62 [] [] [] [] false false),
  (PySem.Str.ofString "bracket_at", 61, di 63 [] [] [] [] false false),
  (PySem.Str.ofString "opened", 62, di 64 [] [] [] [] false false),
  (PySem.Str.ofString "pair_at", 63, di 65 [] [] [] [] false false),
  (PySem.Str.ofString "root_at", 64, di 66 [] [] [] [] false false),
  (PySem.Str.ofString "area_at", 65, di 67 [] [] [] [] false false),
  (PySem.Str.ofString "words_let", 66, di 68 [] [] [] [] false false),
  (PySem.Str.ofString "atom_at", 67, di 69 [] [] [] [] false false),
  (PySem.Str.ofString "signed_at", 69, di 72 [] [] [] [] false false),
  (PySem.Str.ofString "product_at", 70, di 73 [] [] [] [] false false),
  (PySem.Str.ofString "sum_at", 71, di 74 [] [] [] [] false false),
  (PySem.Str.ofString "item_at", 90, di 78 [] [] [] [] false false),
  (PySem.Str.ofString "items_at", 91, di 79 [] [] [] [] false false),
  (PySem.Str.ofString "gone_through", 92, di 80 [] [] [] [] false false),
  (PySem.Str.ofString "first_refused", 96, di 81 [] [] [] [] false false),
  (PySem.Str.ofString "_law_cup", 130, di 83 [] [] [] [] true false),
  (PySem.Str.ofString "_law_roll", 131, di 84 [] [] [] [] false false),
  (PySem.Str.ofString "_law_some", 132, di 85 [] [] [] [] false false),
  (PySem.Str.ofString "_law_number", 133, di 86 [] [] [] [] false false),
  (PySem.Str.ofString "_law_term", 134, di 87 [] ["found"] [] [(318, "found")] false false),
  (PySem.Str.ofString "_law_sum", 135, di 88 ["own"] [] [] [] false false),
  (PySem.Str.ofString "_law_text_of", 138, di 89 [] [] [] [] false false),
  (PySem.Str.ofString "law", 137, di 90 ["row", "at"] ["due", "rows"] [] [(347, "due"), (357, "rows"), (360, "rows")] false false)]
def bpos : BPos := match prog.main.body.getD 6 (.Pass ⟨0, 0, 0, 0⟩) with
  | .ClassDef (body := bd) .. => match bd.getLast? with
    | some (.FunctionDef (args := a) (body := b) ..) => match a.args, b with
      | [x, y], [.Expr (.Call (.Attribute (.Call (.Name _ q1) [] [] q2) _ q3) [.BinOp (.Constant (.str _) n q4) _ (.Call (.Name _ q5) [.Name _ q6] [] q7) q8] [] q9) r1, .Assign [.Attribute (.Name _ r2) _ r3] (.Name _ r4) r5] => ⟨x.pos, y.pos, q1, q2, q3, q4, q5, q6, q7, q8, q9, r1, r2, r3, r4, n, r5⟩
      | _, _ => ⟨default, default, default, default, default, default, default, default, default, default, default, default, default, default, default, 0, default⟩
    | _ => ⟨default, default, default, default, default, default, default, default, default, default, default, default, default, default, default, 0, default⟩
  | _ => ⟨default, default, default, default, default, default, default, default, default, default, default, default, default, default, default, 0, default⟩
def cfg : Cfg := { fns := fns, cns := [(PySem.Str.ofString "GREATEST", .int 1000000000000), (PySem.Str.ofString "NONE", .tup true [.int 0, .int 1]), (PySem.Str.ofString "ONE", .tup true [.int 1, .int 1]), (PySem.Str.ofString "LONGEST", .int 4000), (PySem.Str.ofString "COEFFICIENT_lines", .int 1000000), (PySem.Str.ofString "COEFFICIENT_linetexts", .int 1000000), (PySem.Str.ofString "FAR", .int 1000000000000000000000000000000000000000000000000000000000000), (PySem.Str.ofString "FIGURES", .str [48, 49, 50, 51, 52, 53, 54, 55, 56, 57]), (PySem.Str.ofString "LETTERS", .str [97, 98, 99, 100, 101, 102, 103, 104, 105, 106, 107, 108, 109, 110, 111, 112, 113, 114, 115, 116, 117, 118, 119, 120, 121, 122]), (PySem.Str.ofString "EDGES", .int 10), (PySem.Str.ofString "SORTS", .tup true [.str [108, 105, 110, 101], .str [115, 113, 117, 97, 114, 101, 115], .str [115, 117, 114, 102, 97, 99, 101], .str [116, 114, 101, 101]]), (PySem.Str.ofString "DEEP", .int 12), (PySem.Str.ofString "ROOTS", .int 7), (PySem.Str.ofString "DEGREE", .int 8)], blt := stxs ["len", "abs", "max", "min", "int", "str", "sorted", "tuple", "list", "any", "all", "isinstance", "range", "enumerate", "zip", "bool"], gcd := true, bad := PySem.Str.ofString "BadText", txt := PySem.Str.ofString "refused at ", pos := bpos, cls := [(PySem.Str.ofString "InvalidLine", 3), (PySem.Str.ofString "InvalidText", 0), (PySem.Str.ofString "InvalidSort", 1)] }
end PV.K74
set_option Elab.async false
set_option linter.all false
set_option maxRecDepth 100000
set_option maxHeartbeats 0
namespace PV.K74
open PySem PySem.W PySem.Calls PyProof.Rows
abbrev R : PySem.W.OpenRow := PySem.W.OpenLaw.row PySem.Challenge.rw_nearplain_k74_whole_texts_of_lines
def names : List PySem.Str := (["NearError", "InvalidLine", "InvalidText", "InvalidSort", "BadText", "is_whole", "is_tuple_of", "GREATEST", "NONE", "ONE", "made", "plus", "times", "COEFFICIENT_lines", "DEGREE", "fits_line", "need_line", "LONGEST", "FIGURES", "LETTERS", "skipped", "sign_at", "passed", "word_at", "whole_at", "fraction_at", "ended", "need_text", "COEFFICIENT_linetexts", "FAR", "power_at", "power_at_linetexts", "factor_at", "term_at", "terms_at", "line_of", "row_of", "line_at", "number_text", "unknown_text"] : List String).map PySem.Str.ofString ++ (["term_text", "sum_text", "row_of_line", "write_line", "read_line", "surface_at", "DEEP", "EXPONENT", "ROOTS", "SIGNS", "ONE_PART", "PAIRS", "WORDS", "FREE", "number_at", "bracket_at", "opened", "pair_at", "root_at", "area_at", "words_let", "atom_at", "power_at_treetexts", "signed_at", "product_at", "sum_at", "EDGES", "SORTS", "item_at", "items_at", "gone_through", "first_refused", "_law_cup", "_law_roll", "_law_some", "_law_number", "_law_term", "_law_sum", "_law_text_of"] : List String).map PySem.Str.ofString
def as : List Addr := [3, 2, 6, 4, 52, 65, 77, 89, 110, 119, 126, 127, 128, 135, 142, 149, 154, 161, 168, 175, 182, 187, 194, 201, 208, 215, 382, 222, 229, 236, 243, 248, 253, 260, 267, 274, 281, 288, 293, 300, 307, 312, 313, 314, 315, 318, 319, 326, 333, 340, 347, 354, 361, 368, 375, 389, 396, 403, 404, 411, 418, 425, 432, 439, 446, 453, 460, 467, 472, 479, 484, 16, 20, 22, 27, 33, 38, 0, 51, 64, 76, 88, 109, 118, 125, 134, 141, 148, 153, 160, 167, 174, 181, 186, 193, 200, 207, 214, 381, 221, 228, 235, 242, 247, 252, 259, 266, 273, 280, 287, 292, 299, 306, 311, 325, 332, 339, 346, 353, 360, 367, 374, 388, 395, 402, 410, 417, 424, 431, 438, 445, 452, 459, 466, 471, 478, 483, 15, 21, 26, 32, 50, 53, 63, 75, 87, 107, 108, 113, 114, 115, 116, 117, 120, 121, 122, 123, 124, 129, 130, 131, 132, 133, 136, 137, 138, 139, 140, 143, 144, 145, 146, 147, 150, 151, 152, 155, 156, 157, 158, 159, 162, 163, 164, 165, 166, 169, 170, 171, 172, 173, 176, 177, 178, 179, 180, 183, 184, 185, 188, 189, 190, 191, 192, 195, 196, 197, 198, 199, 202, 203, 204, 205, 206, 209, 210, 211, 212, 213, 376, 377, 378, 379, 380, 216, 217, 218, 219, 220, 223, 224, 225, 226, 227, 230, 231, 232, 233, 234, 237, 238, 239, 240, 241, 244, 245, 246, 249, 250, 251, 254, 255, 256, 257, 258, 261, 262, 263, 264, 265, 268, 269, 270, 271, 272, 275, 276, 277, 278, 279, 282, 284, 285, 286, 289, 290, 291, 294, 295, 296, 297, 298, 301, 302, 303, 304, 305, 308, 309, 310, 320, 321, 322, 323, 324, 327, 328, 329, 330, 331, 334, 335, 336, 337, 338, 341, 342, 343, 344, 345, 348, 349, 350, 351, 352, 355, 356, 357, 358, 359, 362, 363, 364, 365, 366, 369, 370, 371, 372, 373, 383, 384, 385, 386, 387, 390, 391, 392, 393, 394, 397, 398, 399, 400, 401, 405, 406, 407, 408, 409, 412, 413, 414, 415, 416, 419, 420, 421, 422, 423, 426, 427, 428, 429, 430, 433, 434, 435, 436, 437, 440, 441, 442, 443, 444, 447, 448, 449, 450, 451, 454, 455, 456, 457, 458, 461, 462, 463, 464, 465, 468, 469, 470, 473, 474, 475, 476, 477, 480, 481, 482, 17, 18, 19, 23, 24, 25, 28, 34, 35, 36, 106, 95, 101, 102, 103, 104, 105]
def ts : List Addr := [283]
abbrev hk : PySem.W.Hook := cfg.hookL R.prog.main.file as ts
def ob (s : PySem.W.SharedT) : AlX × Bool := cfg.obsL R.prog.main.file as ts (HandSHeadRun.getT s)
theorem ob_eq (s : PySem.W.SharedT) : ob s = hk.obs s.abs := Cfg.obsL_eq (HandSHeadRun.getT_eq s)
abbrev qv : Program := PySem.W.view R.prog [0, 90]
noncomputable def rn (w : World) : Option (Shared × SharedT) := HandSHeadRun.wholeF (fun p => HandSHeadRun.stepQ (HandSHeadRun.denQ HandSHeadRun.tabQ) p w) HandSHeadRun.fenceQ 30000 R.prog
theorem a0 (w : World) : (rn (w.withFollow "special-get-raises" false)).map (fun x => HandSHeadRun.looksF R.prog x.1.heap x.2.abs) = some true := by kernel_rfl
theorem a1 (w : World) : (rn (w.withFollow "special-get-raises" true)).map (fun x => HandSHeadRun.looksF R.prog x.1.heap x.2.abs) = some true := by kernel_rfl
theorem b0 (w : World) : (rn (w.withFollow "special-get-raises" false)).map (fun x => HandSHeadRun.seenQ qv names (importedModules R.prog.main.body) (fun s => xlAt qv [] s && recOk R.toRowW.records s) x.2.abs) = some (openGood qv names) := by kernel_rfl
theorem b1 (w : World) : (rn (w.withFollow "special-get-raises" true)).map (fun x => HandSHeadRun.seenQ qv names (importedModules R.prog.main.body) (fun s => xlAt qv [] s && recOk R.toRowW.records s) x.2.abs) = some (openGood qv names) := by kernel_rfl
theorem c0 (w : World) : (rn (w.withFollow "special-get-raises" false)).map (fun x => ob x.2) = some (hk.val (w.withFollow "special-get-raises" false)) := by kernel_rfl
theorem c1 (w : World) : (rn (w.withFollow "special-get-raises" true)).map (fun x => ob x.2) = some (hk.val (w.withFollow "special-get-raises" true)) := by kernel_rfl
theorem run0 (w : World) : HandSHeadRun.RunEqI R qv hk ob 30000 names (w.withFollow "special-get-raises" false) := map3 (a0 w) (b0 w) (c0 w)
theorem run1 (w : World) : HandSHeadRun.RunEqI R qv hk ob 30000 names (w.withFollow "special-get-raises" true) := map3 (a1 w) (b1 w) (c1 w)
theorem run (w : World) : HandSHeadRun.RunEqI R qv hk ob 30000 names w := PySem.W.byRow2 "special-get-raises" run0 run1 w
end PV.K74
set_option Elab.async false
set_option linter.all false
set_option maxRecDepth 100000
set_option maxHeartbeats 0
open PySem PySem.W PySem.Calls PyProof.Rows
theorem PV.K74.tabF : (PV.K74.cfg.fns.map (·.2)).map (fun p => (p.1, p.2.fn PV.K74.cfg.G)) = PVL.L74.T74 := by kernel_rfl
theorem PV.K74.eqF : PV.K74.cfg.F = PVL.L74.F74 := by
  have := PVL.look_map (PV.K74.cfg.fns.map (·.2)) (fun d => d.fn PV.K74.cfg.G)
  rw [PV.K74.tabF] at this
  exact this
theorem PySem.Challenge.cw_nearplain_k74_whole_texts_of_lines_holds : PySem.Challenge.rw_nearplain_k74_whole_texts_of_lines.Holds := by
  w_on; o_law
  refine HandSHeadRun.head_imp (r := OpenLaw.row PySem.Challenge.rw_nearplain_k74_whole_texts_of_lines) (q := PV.K74.qv) (H := PV.K74.hk) (ob := PV.K74.ob) (M := 30000) (loose := PV.K74.names) (d := HandSHeadRun.topDef (OpenLaw.row PySem.Challenge.rw_nearplain_k74_whole_texts_of_lines).prog 90) (kwd := []) PV.K74.ob_eq
    PV.K74.run (by kernel_rfl) (by kernel_rfl) (by kernel_rfl) (by rfl) (by first | assumption | decide +kernel) (by decide +kernel) ⟨rfl, rfl, rfl, rfl, rfl, by decide +kernel⟩ ?hw ?hc
  case hw => w_witness2
  case hc =>
    exact PV.law_walk (l := PySem.Challenge.rw_nearplain_k74_whole_texts_of_lines) (x := "script") PV.K74.cfg 0 137 60 63 (PV.K74.di 90 ["row", "at"] ["due", "rows"] [] [(347, "due"), (357, "rows"), (360, "rows")] false false) rfl (by decide) (by kernel_rfl) ⟨rfl, by decide, by decide⟩ (by kernel_rfl) (by kernel_rfl) (by kernel_rfl) (List.mem_of_getElem? (i := 53) (by kernel_rfl)) (by kernel_rfl) (fun ns hn => by rw [PV.K74.eqF]; exact PVL.L74.law_ok ns hn)
