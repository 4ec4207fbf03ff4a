import PyProof.Rows.All
import Wide.All
import OpenK.AllK
import Wide.FinOn
import HandS.ForMost
import HandS.IsInst
import HandS.Wide
import HandS.WideBits
import HandS.Deep
import HandS.DictComp
import KE.KDictKeyed
import KE.SortData
import KE.SortKeyHeap
import HandS.TupAny
import HandS.Conv
import HandS.SortOrd
import HandS.SortKw
import KE.KMinKey
import KE.KxField
import HandS.FStr
import HandS.Text
import PySem.Challenge.RW_doubtbook_k47_cuts
section
set_option autoImplicit false
set_option linter.all false
namespace Dm
open PySem

/-- values: tuples and frozen lists are plain data, lists and dicts stand at places of the small heap -/
inductive D where
  | non | bl (b : Bool) | int (i : Int) | str (s : Str) | tup (xs : List D) | fl (xs : List D) | ref (l : Nat)
  deriving Inhabited

mutual
def D.beq : D → D → Bool
  | .non, .non => true
  | .bl a, .bl b => a == b
  | .int a, .int b => a == b
  | .str a, .str b => a == b
  | .tup a, .tup b => D.beqL a b
  | .fl a, .fl b => D.beqL a b
  | .ref a, .ref b => a == b
  | _, _ => false
def D.beqL : List D → List D → Bool
  | [], [] => true
  | x :: xs, y :: ys => D.beq x y && D.beqL xs ys
  | _, _ => false
end
mutual
theorem D.beq_refl : ∀ x : D, D.beq x x = true
  | .non => rfl
  | .bl a => by simp [D.beq]
  | .int a => by simp [D.beq]
  | .str a => by simp [D.beq]
  | .tup a => by rw [D.beq]; exact D.beqL_refl a
  | .fl a => by rw [D.beq]; exact D.beqL_refl a
  | .ref a => by simp [D.beq]
theorem D.beqL_refl : ∀ x : List D, D.beqL x x = true
  | [] => rfl
  | x :: xs => by rw [D.beqL, D.beq_refl x, D.beqL_refl xs]; rfl
end
mutual
theorem D.eq_of_beq : ∀ x y : D, D.beq x y = true → x = y
  | .non, y, h => by cases y <;> simp [D.beq] at h; rfl
  | .bl a, y, h => by cases y <;> simp [D.beq] at h; rw [h]
  | .int a, y, h => by cases y <;> simp [D.beq] at h; rw [h]
  | .str a, y, h => by cases y <;> simp [D.beq] at h; rw [h]
  | .tup a, y, h => by
    cases y with
    | tup b => rw [D.beq] at h; rw [D.eq_of_beqL a b h]
    | _ => simp [D.beq] at h
  | .fl a, y, h => by
    cases y with
    | fl b => rw [D.beq] at h; rw [D.eq_of_beqL a b h]
    | _ => simp [D.beq] at h
  | .ref a, y, h => by cases y <;> simp [D.beq] at h; rw [h]
theorem D.eq_of_beqL : ∀ x y : List D, D.beqL x y = true → x = y
  | [], [], _ => rfl
  | x :: xs, y :: ys, h => by
    rw [D.beqL, Bool.and_eq_true] at h
    rw [D.eq_of_beq x y h.1, D.eq_of_beqL xs ys h.2]
  | [], _ :: _, h => by simp [D.beqL] at h
  | _ :: _, [], h => by simp [D.beqL] at h
end
instance : DecidableEq D := fun a b => if h : D.beq a b = true then .isTrue (D.eq_of_beq a b h) else .isFalse fun e => h (e ▸ D.beq_refl a)

mutual
/-- no place within -/
def D.gr : D → Bool
  | .tup xs => D.grL xs
  | .fl xs => D.grL xs
  | .ref _ => false
  | _ => true
def D.grL : List D → Bool
  | [] => true
  | x :: xs => D.gr x && D.grL xs
end
theorem grL_iff : ∀ xs : List D, D.grL xs = true ↔ ∀ x ∈ xs, x.gr = true
  | [] => by simp [D.grL]
  | x :: xs => by rw [D.grL, Bool.and_eq_true, grL_iff xs]; simp

inductive Ob where
  | lst (xs : List D)
  | dct (kvs : List (D × D))
  | st (xs : List D)
  deriving Inhabited, DecidableEq
def Ob.gr : Ob → Bool
  | .lst xs => D.grL xs
  | .dct kvs => kvs.all fun p => p.1.gr && p.2.gr
  | .st xs => D.grL xs
abbrev M := List Ob
abbrev Env := List (Option D)
inductive Out where
  | nx (e : Env) | rt (d : D) | bk (e : Env) | ct (e : Env)
  deriving Inhabited
abbrev ES := Env → M → Option (D × M)
abbrev LS := Env → M → Option (List D × M)
abbrev SS := Env → M → Option (Out × M)
abbrev FT := Nat → List D → M → Option (D × M)
abbrev Tgt := D → Env → Option Env
abbrev Gd := List (Nat × Ob)
/-- what is walked: its items, the lists that must stand still -/
abbrev IS := Env → M → Option (List D × Gd × M)
def lineN : Nat := 16777216

/-! ### data: ==, order -/
mutual
/-- Python's == of data -/
def D.eq : D → D → Bool
  | .non, .non => true
  | .bl a, .bl b => a == b
  | .bl a, .int j => (if a then 1 else 0) == j
  | .int i, .bl b => i == (if b then 1 else 0)
  | .int i, .int j => i == j
  | .str x, .str y => x == y
  | .fl xs, .fl ys => D.eqL xs ys
  | .tup xs, .tup ys => D.eqL xs ys
  | _, _ => false
def D.eqL : List D → List D → Bool
  | [], [] => true
  | x :: xs, y :: ys => D.eq x y && D.eqL xs ys
  | _, _ => false
end
mutual
def D.dep : D → Nat
  | .tup xs => D.depL xs + 1
  | .fl xs => D.depL xs + 1
  | _ => 0
def D.depL : List D → Nat
  | [] => 0
  | x :: xs => max (D.dep x) (D.depL xs)
end
mutual
/-- texts of proper code points -/
def D.txt : D → Bool
  | .str x => (x.cps.all (· < 0x110000))
  | .tup xs => D.txtL xs
  | .fl xs => D.txtL xs
  | _ => true
def D.txtL : List D → Bool
  | [] => true
  | x :: xs => D.txt x && D.txtL xs
end
def D.shp (d : D) : Bool := d.gr && d.txt && decide (d.dep ≤ 60)
mutual
def D.alk : D → D → Bool
  | .int _, .int _ => true
  | .str _, .str _ => true
  | .tup xs, .tup ys => D.alkL xs ys
  | .fl xs, .fl ys => D.alkL xs ys
  | _, _ => false
def D.alkL : List D → List D → Bool
  | x :: xs, y :: ys => D.alk x y && D.alkL xs ys
  | _, _ => true
end
mutual
def D.lt : D → D → Bool
  | .int a, .int b => decide (a < b)
  | .str a, .str b => decide (a.cps.toList < b.cps.toList)
  | .tup xs, .tup ys => D.ltL xs ys
  | .fl xs, .fl ys => D.ltL xs ys
  | _, _ => false
def D.ltL : List D → List D → Bool
  | [], [] => false
  | [], _ :: _ => true
  | _ :: _, [] => false
  | x :: xs, y :: ys => if D.eq x y then D.ltL xs ys else D.lt x y
end
def D.le (a b : D) : Bool := !D.lt b a
/-- what may be sorted: all alike; tuples with an item, or intsOf, texts, lists -/
def D.isT1 : D → Bool
  | .tup (_ :: _) => true
  | _ => false
def D.isO : D → Bool
  | .int _ => true | .str _ => true | .fl _ => true
  | _ => false
def sortable (ks : List D) : Bool := (ks.all fun x => ks.all fun y => D.alk x y) && (ks.all D.isT1 || ks.all D.isO) && ks.all D.shp
def sortBy (ps : List (D × D)) : List D := (ps.mergeSort fun p q => D.le p.2 q.2).map (·.1)

/-- read as data: a list of the heap as a frozen one -/
def rd (m : M) : D → Option D
  | .ref l => match m[l]? with
    | some (.lst xs) => if D.grL xs then some (.fl xs) else none
    | _ => none
  | d => if d.gr then some d else none

/-! ### what a call gives back -/
def stb (m m' : M) : Bool := decide (m.length ≤ m'.length) && ((m.zip m').all fun p => decide (p.1 = p.2) || p.2.gr)
/-- behind an expression that began at m: what was made and isn't held any more is forgotten -/
def norm (m : M) (r : D × M) : D × M :=
  if stb m r.2 then
    match r.1 with
    | .ref l => if l < m.length then (.ref l, r.2.take m.length) else
      match r.2[l]? with
      | some o => if o.gr then (.ref m.length, r.2.take m.length ++ [o]) else r
      | none => r
    | d => if d.gr then (d, r.2.take m.length) else r
  else r
def nrm (e : ES) : ES := fun env m => (e env m).map (norm m)

/-! ### expressions -/
def eVar (i : Nat) : ES := fun env m => match env[i]? with
  | some (some d) => some (d, m)
  | _ => none
def eC (d : D) : ES := fun _ m => some (d, m)
def aNil : LS := fun _ m => some ([], m)
def aCons (e : ES) (r : LS) : LS := fun env m => match e env m with
  | some (d, m1) => match r env m1 with
    | some (ds, m2) => some (d :: ds, m2)
    | none => none
  | none => none
def eTup (a : LS) : ES := fun env m => match a env m with
  | some (ds, m1) => if ds.length ≤ lineN then some (.tup ds, m1) else none
  | none => none
def eLst (a : LS) : ES := fun env m => match a env m with
  | some (ds, m1) => if ds.length ≤ lineN then some (.ref m1.length, m1 ++ [.lst ds]) else none
  | none => none
def eOp (f : D → D → M → Option (D × M)) (a b : ES) : ES := fun env m => match a env m with
  | some (x, m1) => match b env m1 with
    | some (y, m2) => f x y m2
    | none => none
  | none => none
def eUn (f : D → M → Option (D × M)) (a : ES) : ES := fun env m => match a env m with
  | some (x, m1) => f x m1
  | none => none
def eAnd (a b : ES) : ES := fun env m => match a env m with
  | some (.bl true, m1) => b env m1
  | some (.bl false, m1) => some (.bl false, m1)
  | _ => none
def eOr (a b : ES) : ES := fun env m => match a env m with
  | some (.bl false, m1) => b env m1
  | some (.bl true, m1) => some (.bl true, m1)
  | _ => none
def eNot (a : ES) : ES := fun env m => match a env m with
  | some (.bl b, m1) => some (.bl (!b), m1)
  | _ => none
def eIf (t a b : ES) : ES := fun env m => match t env m with
  | some (.bl true, m1) => a env m1
  | some (.bl false, m1) => b env m1
  | _ => none
def ePrim (f : List D → M → Option (D × M)) (a : LS) : ES := fun env m => match a env m with
  | some (ds, m1) => f ds m1
  | none => none
inductive Ty where
  | int | str | bool | tuple | list | dict
  deriving DecidableEq
/-- the receiver of a method -/
def rcv (m : M) (t : Ty) (d : D) : Bool := match d with
  | .int _ => t = .int
  | .str _ => t = .str
  | .fl _ => t = .list
  | .ref l => match m[l]? with
    | some (.lst _) => t = .list
    | some (.dct _) => t = .dict
    | _ => false
  | _ => false
def eMeth (t : Ty) (f : D → List D → M → Option (D × M)) (o : ES) (a : LS) : ES := fun env m => match o env m with
  | some (x, m1) => if rcv m1 t x then match a env m1 with
    | some (ds, m2) => f x ds m2
    | none => none
    else none
  | none => none

/-! ### operations by values -/
def guard' (b : Bool) (r : D × M) : Option (D × M) := if b then some r else none
def p64 : Int := 18446744073709551616
def oAdd : D → D → M → Option (D × M)
  | .int a, .int b, m => some (.int (a + b), m)
  | .tup a, .tup b, m => if a.length + b.length ≤ lineN then some (.tup (a ++ b), m) else none
  | .ref a, .ref b, m => match m[a]?, m[b]? with
    | some (.lst xs), some (.lst ys) => if xs.length + ys.length ≤ lineN then some (.ref m.length, m ++ [.lst (xs ++ ys)]) else none
    | _, _ => none
  | .str a, .str b, m => if a.length + b.length ≤ lineN then some (.str (a ++ b), m) else none
  | _, _, _ => none
def oSub : D → D → M → Option (D × M)
  | .int a, .int b, m => some (.int (a - b), m)
  | _, _, _ => none
def oMul : D → D → M → Option (D × M)
  | .int a, .int b, m => if (a.natAbs.log2 + b.natAbs.log2 < 1000000) then some (.int (a * b), m) else if (-p64 < b ∧ b < p64) then some (.int (a * b), m) else none
  | _, _, _ => none
def oFdiv : D → D → M → Option (D × M)
  | .int a, .int b, m => if 0 < b ∧ b.natAbs.log2 < 9000 then some (.int (a / b), m) else none
  | _, _, _ => none
def oMod : D → D → M → Option (D × M)
  | .int a, .int b, m => if 0 < b then some (.int (a % b), m) else none
  | _, _, _ => none
def oPow : D → D → M → Option (D × M)
  | .int a, .int b, m => if 0 ≤ b ∧ b ≤ 1000000 ∧ a.natAbs < 2 ^ 64 then some (.int (a ^ b.toNat), m) else none
  | _, _, _ => none
def oShl : D → D → M → Option (D × M)
  | .int a, .int b, m => if 0 ≤ b ∧ b ≤ 1000000 ∧ a.natAbs < 2 ^ 64 then some (.int (a * 2 ^ b.toNat), m) else none
  | _, _, _ => none
def oShr : D → D → M → Option (D × M)
  | .int a, .int b, m => if 0 ≤ b then some (.int (a / 2 ^ b.toNat), m) else none
  | _, _, _ => none
def iand : Int → Int → Option Int
  | .ofNat a, .ofNat b => some ((a &&& b : Nat) : Int)
  | .ofNat a, .negSucc b => some ((a : Int) - ((a &&& b : Nat) : Int))
  | _, _ => none
def ior : Int → Int → Option Int
  | .ofNat a, .ofNat b => some ((a ||| b : Nat) : Int)
  | _, _ => none
def ixor : Int → Int → Option Int
  | .ofNat a, .ofNat b => some ((a ^^^ b : Nat) : Int)
  | _, _ => none
def oBit (f : Int → Int → Option Int) : D → D → M → Option (D × M)
  | .int a, .int b, m => (f a b).map fun c => (.int c, m)
  | _, _, _ => none
def oNeg : D → M → Option (D × M)
  | .int a, m => some (.int (-a), m)
  | _, _ => none
def oCmp (f : Int → Int → Bool) : D → D → M → Option (D × M)
  | .int a, .int b, m => some (.bl (f a b), m)
  | _, _, _ => none
def oEq (neg : Bool) (x y : D) (m : M) : Option (D × M) := match rd m x, rd m y with
  | some a, some b => if a.shp && b.shp then some (.bl (neg != D.eq a b), m) else none
  | _, _ => none
def oIsN (neg : Bool) (x : D) (m : M) : Option (D × M) := match x with
  | .non => some (.bl (!neg), m)
  | _ => some (.bl neg, m)
mutual
/-- keys of dicts: intsOf, texts, tuples of such -/
def D.key : Nat → D → Bool
  | _, .int _ => true
  | _, .str _ => true
  | n + 1, .tup xs => D.keyL n xs
  | _, _ => false
def D.keyL : Nat → List D → Bool
  | _, [] => true
  | n, x :: xs => D.key n x && D.keyL n xs
end
def D.atom : D → Bool
  | .int _ => true | .str _ => true
  | _ => false
def D.isTup : D → Bool
  | .tup _ => true
  | _ => false
/-- the key suits the dict -/
def keyFor (kvs : List (D × D)) (k : D) : Bool := k.atom
def dget (kvs : List (D × D)) (k : D) : Option D := (kvs.find? fun p => decide (p.1 = k)).map (·.2)
def dput (kvs : List (D × D)) (k v : D) : List (D × D) := if kvs.any fun p => decide (p.1 = k) then kvs.map fun p => if p.1 = k then (p.1, v) else p else kvs ++ [(k, v)]
def seqOf (m : M) : D → Option (List D)
  | .tup xs => some xs
  | .fl xs => some xs
  | .ref l => match m[l]? with
    | some (.lst xs) => some xs
    | _ => none
  | _ => none
def oIn (neg : Bool) (x y : D) (m : M) : Option (D × M) := match y with
  | .ref l => match m[l]? with
    | some (.lst xs) => if x.shp && (D.fl xs).shp then some (.bl (neg != xs.any fun z => D.eq z x), m) else none
    | some (.dct kvs) => if keyFor kvs x then some (.bl (neg != (dget kvs x).isSome), m) else none
    | _ => none
  | .tup xs => if x.shp && (D.tup xs).shp then some (.bl (neg != xs.any fun z => D.eq z x), m) else none
  | .fl xs => if x.shp && (D.fl xs).shp then some (.bl (neg != xs.any fun z => D.eq z x), m) else none
  | _ => none
/-- a place from a written index -/
def ixOf (n : Nat) (i : Int) : Option Nat := if 0 ≤ i then (if i < n then some i.toNat else none) else if -(n : Int) ≤ i then some (i + n).toNat else none
def atIx (xs : List D) (i : Int) : Option D := (ixOf xs.length i).bind fun j => xs[j]?
def oIx (o i : D) (m : M) : Option (D × M) := match o, i with
  | .tup xs, .int k => (atIx xs k).map fun d => (d, m)
  | .fl xs, .int k => (atIx xs k).map fun d => (d, m)
  | .str x, .int k => if x.length ≤ lineN then ((ixOf x.cps.toList.length k).bind fun j => x.cps.toList[j]?).map fun c => (.str ⟨#[c]⟩, m) else none
  | .ref l, k => match m[l]? with
    | some (.lst xs) => match k with
      | .int k => (atIx xs k).map fun d => (d, m)
      | _ => none
    | some (.dct kvs) => if keyFor kvs k then (dget kvs k).map fun d => (d, m) else none
    | _ => none
  | _, _ => none
def sPos (n d : Nat) : Option Int → Nat
  | none => d
  | some v => if v < 0 then (max (v + n) 0).toNat else (min v n).toNat
def cut (xs : List D) (lo hi : Option Int) : List D := (xs.drop (sPos xs.length 0 lo)).take (sPos xs.length xs.length hi - sPos xs.length 0 lo)
def oPart : Option ES → Env → M → Option (Option Int × M)
  | none, _, m => some (none, m)
  | some e, env, m => match e env m with
    | some (.int i, m1) => some (some i, m1)
    | _ => none
def eSl (o : ES) (lo hi : Option ES) : ES := fun env m => match o env m with
  | some (x, m1) => match oPart lo env m1 with
    | some (l, m2) => match oPart hi env m2 with
      | some (u, m3) => match x with
        | .tup xs => some (.tup (cut xs l u), m3)
        | .fl xs => some (.ref m3.length, m3 ++ [.lst (cut xs l u)])
        | .ref a => match m3[a]? with
          | some (.lst xs) => some (.ref m3.length, m3 ++ [.lst (cut xs l u)])
          | _ => none
        | _ => none
      | none => none
    | none => none
  | none => none

/-! ### built-ins by values -/
def pLen : List D → M → Option (D × M)
  | [.str x], m => if x.length ≤ lineN then some (.int x.length, m) else none
  | [.ref l], m => match m[l]? with
    | some (.lst xs) => some (.int xs.length, m)
    | some (.dct kvs) => some (.int kvs.length, m)
    | some (.st xs) => some (.int xs.length, m)
    | none => none
  | [.tup xs], m => some (.int xs.length, m)
  | [.fl xs], m => some (.int xs.length, m)
  | _, _ => none
def pInt : List D → M → Option (D × M)
  | [.int i], m => some (.int i, m)
  | [.bl b], m => some (.int (if b then 1 else 0), m)
  | _, _ => none
def pTuple : List D → M → Option (D × M)
  | [.tup xs], m => some (.tup xs, m)
  | [.fl xs], m => some (.tup xs, m)
  | [.ref l], m => match m[l]? with
    | some (.lst xs) => some (.tup xs, m)
    | _ => none
  | _, _ => none
def pList : List D → M → Option (D × M)
  | [.tup xs], m => some (.ref m.length, m ++ [.lst xs])
  | [.fl xs], m => some (.ref m.length, m ++ [.lst xs])
  | [.ref l], m => match m[l]? with
    | some (.lst xs) => some (.ref m.length, m ++ [.lst xs])
    | some (.dct kvs) => some (.ref m.length, m ++ [.lst (kvs.map (·.1))])
    | _ => none
  | _, _ => none
def intsOf : List D → Option (List Int)
  | [] => some []
  | .int i :: r => (intsOf r).map (i :: ·)
  | _ => none
def boolsOf : List D → Option (List Bool)
  | [] => some []
  | .bl i :: r => (boolsOf r).map (i :: ·)
  | _ => none
def pSum : List D → M → Option (D × M)
  | [.ref l], m => match m[l]? with
    | some (.lst xs) => (intsOf xs).map fun ns => (.int ns.sum, m)
    | _ => none
  | _, _ => none
def maxL : List Int → Option Int
  | [] => none
  | x :: r => some (r.foldl max x)
def minL : List Int → Option Int
  | [] => none
  | x :: r => some (r.foldl min x)
def pMax : List D → M → Option (D × M)
  | [.ref l], m => match m[l]? with
    | some (.lst xs) => (intsOf xs).bind fun ns => (maxL ns).map fun k => (.int k, m)
    | _ => none
  | [.int a, .int b], m => some (.int (max a b), m)
  | _, _ => none
def pMin : List D → M → Option (D × M)
  | [.ref l], m => match m[l]? with
    | some (.lst xs) => (intsOf xs).bind fun ns => (minL ns).map fun k => (.int k, m)
    | _ => none
  | [.int a, .int b], m => some (.int (min a b), m)
  | _, _ => none
/-- min(xs, default=d) -/
def pMinD : List D → M → Option (D × M)
  | [.ref l, d], m => match m[l]? with
    | some (.lst []) => some (d, m)
    | some (.lst xs) => (intsOf xs).bind fun ns => (minL ns).map fun k => (.int k, m)
    | _ => none
  | _, _ => none
def pAll : List D → M → Option (D × M)
  | [.ref l], m => match m[l]? with
    | some (.lst xs) => (boolsOf xs).map fun bs => (.bl (bs.all id), m)
    | _ => none
  | _, _ => none
def pAny : List D → M → Option (D × M)
  | [.ref l], m => match m[l]? with
    | some (.lst xs) => (boolsOf xs).map fun bs => (.bl (bs.any id), m)
    | _ => none
  | _, _ => none
/-- the keys of the items, by the key function -/
def keysBy (f : D → M → Option (D × M)) (m : M) : List D → Option (List (D × D))
  | [] => some []
  | x :: r => match f x m with
    | some (k, m1) => if m1 = m then match keysBy f m r with
      | some ps => some ((x, k) :: ps)
      | none => none
      else none
    | none => none
def lstOf (m : M) : D → Option (List D)
  | .fl xs => some xs
  | .ref l => match m[l]? with
    | some (.lst xs) => some xs
    | _ => none
  | _ => none
def pSorted : List D → M → Option (D × M)
  | [x], m => match lstOf m x with
    | some xs => match keysBy (fun d m => (rd m d).map fun k => (k, m)) m xs with
      | some ps => if sortable (ps.map (·.2)) || decide (ps.length ≤ 1) then some (.ref m.length, m ++ [.lst (sortBy ps)]) else none
      | none => none
    | none => none
  | _, _ => none
/-- sorted(xs, key=f) -/
def pSortK (f : D → M → Option (D × M)) : List D → M → Option (D × M)
  | [x], m => match lstOf m x with
    | some xs => match keysBy f m xs with
      | some ps => if sortable (ps.map (·.2)) then some (.ref m.length, m ++ [.lst (sortBy ps)]) else none
      | none => none
    | none => none
  | _, _ => none
def isTy (m : M) (d : D) (t : Ty) : Option Bool := match d with
  | .non => some false
  | .bl _ => some (t = .bool ∨ t = .int)
  | .int _ => some (t = .int)
  | .str _ => some (t = .str)
  | .tup _ => some (t = .tuple)
  | .fl _ => some (t = .list)
  | .ref l => match m[l]? with
    | some (.lst _) => some (t = .list)
    | some (.dct _) => some (t = .dict)
    | _ => none
def oIsi (ts : List Ty) (d : D) (m : M) : Option (D × M) := match ts with
  | [] => some (.bl false, m)
  | t :: r => match isTy m d t with
    | some true => some (.bl true, m)
    | some false => oIsi r d m
    | none => none

/-! ### methods by values -/
def mAppend : D → List D → M → Option (D × M)
  | .ref l, [y], m => match m[l]? with
    | some (.lst xs) => if xs.length < lineN then some (.non, m.set l (.lst (xs ++ [y]))) else none
    | _ => none
  | _, _, _ => none
def mPop : D → List D → M → Option (D × M)
  | .ref l, [], m => match m[l]? with
    | some (.lst xs) => match xs[xs.length - 1]? with
      | some y => some (y, m.set l (.lst xs.dropLast))
      | none => none
    | _ => none
  | .ref l, [.int i], m => match m[l]? with
    | some (.lst xs) => match ixOf xs.length i with
      | some k => match xs[k]? with
        | some y => if i.natAbs ≤ lineN then some (y, m.set l (.lst (xs.eraseIdx k))) else none
        | none => none
      | none => none
    | _ => none
  | _, _, _ => none
def mReverse : D → List D → M → Option (D × M)
  | .ref l, [], m => match m[l]? with
    | some (.lst xs) => some (.non, m.set l (.lst xs.reverse))
    | _ => none
  | _, _, _ => none
def mGet : D → List D → M → Option (D × M)
  | .ref l, [k, d], m => match m[l]? with
    | some (.dct kvs) => if keyFor kvs k then some ((dget kvs k).getD d, m) else none
    | _ => none
  | _, _, _ => none
/-- how many bits an int from 0 has -/
def nbits : Int → Nat
  | .ofNat 0 => 0
  | .ofNat (n + 1) => (n + 1).log2 + 1
  | .negSucc n => (n + 1).log2 + 1
def mBits : D → List D → M → Option (D × M)
  | .int i, [], m => some (.int (nbits i), m)
  | _, _, _ => none
/-- how many bits are 1 -/
def popc : Nat → Nat → Nat
  | 0, _ => 0
  | k + 1, n => n % 2 + popc k (n / 2)

/-! ### walks -/
def gdOk (gd : Gd) (m : M) : Bool := gd.all fun p => decide (m[p.1]? = some p.2)
def seqG (m : M) : D → Option (List D × Gd)
  | .tup xs => some (xs, [])
  | .fl xs => some (xs, [])
  | .ref l => match m[l]? with
    | some (.lst xs) => some (xs, [(l, .lst xs)])
    | _ => none
  | _ => none
def iSeq (e : ES) : IS := fun env m => match e env m with
  | some (d, m1) => (seqG m1 d).map fun p => (p.1, p.2, m1)
  | none => none
def p62 : Int := 4611686018427387904
def rng (lo hi : Int) : List D := (List.range (hi - lo).toNat).map fun i => .int (lo + (i : Nat))
def iRng1 (e : ES) : IS := fun env m => match e env m with
  | some (.int j, m1) => if -p62 ≤ j ∧ j < p62 then some (rng 0 j, [], m1) else none
  | _ => none
def iRng2 (a b : ES) : IS := fun env m => match a env m with
  | some (.int i, m1) => match b env m1 with
    | some (.int j, m2) => if -p62 ≤ i ∧ i < p62 ∧ -p62 ≤ j ∧ j < p62 then some (rng i j, [], m2) else none
    | _ => none
  | _ => none
def numb : Nat → List D → List D
  | _, [] => []
  | k, x :: r => .tup [.int k, x] :: numb (k + 1) r
def iEnum (e : ES) : IS := fun env m => match e env m with
  | some (d, m1) => (seqG m1 d).map fun p => (numb 0 p.1, p.2, m1)
  | none => none
def tName (i : Nat) : Tgt := fun d env => some (env.set i (some d))
def tAll : List Tgt → List D → Env → Option Env
  | [], [], env => some env
  | t :: ts, d :: ds, env => match t d env with
    | some env1 => tAll ts ds env1
    | none => none
  | _, _, _ => none
def tTup (ts : List Tgt) : Tgt := fun d env => match d with
  | .tup ds => tAll ts ds env
  | _ => none
def wipeE (env : Env) : List Nat → Env
  | [] => env
  | v :: vs => (wipeE env vs).set v none

/-! ### comprehensions -/
def lcGo (gd : Gd) (tg : Tgt) (tt : ES) (elt : ES) (env : Env) : List D → List D → M → Option (List D × M)
  | [], acc, m => if gdOk gd m then some (acc, m) else none
  | d :: ds, acc, m => if gdOk gd m then match tg d env with
    | some e1 => match tt e1 m with
      | some (.bl true, m1) => match elt e1 m1 with
        | some (y, m2) => if acc.length < lineN then lcGo gd tg tt elt env ds (acc ++ [y]) m2 else none
        | none => none
      | some (.bl false, m1) => lcGo gd tg tt elt env ds acc m1
      | _ => none
    | none => none
    else none
def eLc (own : List Nat) (it : IS) (tg : Tgt) (tt elt : ES) : ES := fun env m => match it env m with
  | some (ds, gd, m1) => match lcGo gd tg tt elt (wipeE env own) ds [] m1 with
    | some (xs, m2) => some (.ref m2.length, m2 ++ [.lst xs])
    | none => none
  | none => none
def dcGo (gd : Gd) (tg : Tgt) (tt ek ev : ES) (env : Env) : List D → List (D × D) → M → Option (List (D × D) × M)
  | [], acc, m => if gdOk gd m then some (acc, m) else none
  | d :: ds, acc, m => if gdOk gd m then match tg d env with
    | some e1 => match tt e1 m with
      | some (.bl true, m1) => match ek e1 m1 with
        | some (k, m2) => match ev e1 m2 with
          | some (v, m3) => if acc.length < lineN && keyFor acc k then dcGo gd tg tt ek ev env ds (dput acc k v) m3 else none
          | none => none
        | none => none
      | some (.bl false, m1) => dcGo gd tg tt ek ev env ds acc m1
      | _ => none
    | none => none
    else none
def eDc (own : List Nat) (it : IS) (tg : Tgt) (tt ek ev : ES) : ES := fun env m => match it env m with
  | some (ds, gd, m1) => match dcGo gd tg tt ek ev (wipeE env own) ds [] m1 with
    | some (kvs, m2) => some (.ref m2.length, m2 ++ [.dct kvs])
    | none => none
  | none => none

/-! ### statements -/
def sNil : SS := fun env m => some (.nx env, m)
def sSeq (a b : SS) : SS := fun env m => match a env m with
  | some (.nx e1, m1) => b e1 m1
  | r => r
def sExpr (e : ES) : SS := fun env m => match e env m with
  | some (_, m1) => some (.nx env, m1)
  | none => none
def sAsg (t : Tgt) (e : ES) : SS := fun env m => match e env m with
  | some (d, m1) => match t d env with
    | some e1 => some (.nx e1, m1)
    | none => none
  | none => none
/-- o[i] = e -/
def putAt (o i v : D) (m : M) : Option M := match o with
  | .ref l => match m[l]? with
    | some (.lst xs) => match i with
      | .int k => (ixOf xs.length k).map fun j => m.set l (.lst (xs.set j v))
      | _ => none
    | some (.dct kvs) => if kvs.length < lineN && keyFor kvs i then some (m.set l (.dct (dput kvs i v))) else none
    | _ => none
  | _ => none
def sSub (o i e : ES) : SS := fun env m => match e env m with
  | some (v, m1) => match o env m1 with
    | some (x, m2) => match i env m2 with
      | some (k, m3) => (putAt x k v m3).map fun m4 => (.nx env, m4)
      | none => none
    | none => none
  | none => none
def sIf (t : ES) (a b : SS) : SS := fun env m => match t env m with
  | some (.bl true, m1) => a env m1
  | some (.bl false, m1) => b env m1
  | _ => none
def sRet (e : ES) : SS := fun env m => match e env m with
  | some (d, m1) => some (.rt d, m1)
  | none => none
def sBrk : SS := fun env m => some (.bk env, m)
def sCnt : SS := fun env m => some (.ct env, m)
def forGo (gd : Gd) (tg : Tgt) (body : SS) : List D → Env → M → Option (Out × M)
  | [], env, m => if gdOk gd m then some (.nx env, m) else none
  | d :: ds, env, m => if gdOk gd m then match tg d env with
    | some e1 => match body e1 m with
      | some (.nx e2, m2) => forGo gd tg body ds e2 m2
      | some (.ct e2, m2) => forGo gd tg body ds e2 m2
      | some (.bk e2, m2) => some (.nx e2, m2)
      | some (.rt d, m2) => some (.rt d, m2)
      | none => none
    | none => none
    else none
def sFor (it : IS) (tg : Tgt) (body : SS) : SS := fun env m => match it env m with
  | some (ds, gd, m1) => forGo gd tg body ds env m1
  | none => none
def whGo (t : ES) (body : SS) : Nat → Env → M → Option (Out × M)
  | 0, _, _ => none
  | n + 1, env, m => match t env m with
    | some (.bl true, m1) => match body env m1 with
      | some (.nx e2, m2) => whGo t body n e2 m2
      | some (.ct e2, m2) => whGo t body n e2 m2
      | some (.bk e2, m2) => some (.nx e2, m2)
      | some (.rt d, m2) => some (.rt d, m2)
      | none => none
    | some (.bl false, m1) => some (.nx env, m1)
    | _ => none
def wfuel : Nat := 1000000000
def sWhile (t : ES) (body : SS) : SS := fun env m => whGo t body wfuel env m

/-! ### defs -/
def fnS (n k : Nat) (body : SS) : List D → M → Option (D × M) := fun args m =>
  if args.length = n then match body (args.map some ++ List.replicate k none) m with
    | some (.rt d, m1) => some (norm m (d, m1))
    | some (.nx _, m1) => some (norm m (.non, m1))
    | _ => none
  else none
def eCall (F : FT) (j : Nat) (a : LS) : ES := ePrim (F j) a
/-! ### more of the same -/
def iEnumL (e : ES) : IS := fun env m => match e env m with
  | some (d, m1) => match d with
    | .tup _ => none
    | _ => (seqG m1 d).map fun p => (numb 0 p.1, p.2, m1)
  | none => none
def dc2Go (gd : Gd) (tg : Tgt) (tt : ES) (it1 : IS) (own1 : List Nat) (tg1 : Tgt) (tt1 ek ev : ES) (env : Env) : List D → List (D × D) → M → Option (List (D × D) × M)
  | [], acc, m => if gdOk gd m then some (acc, m) else none
  | d :: ds, acc, m => if gdOk gd m then match tg d env with
    | some e1 => match tt e1 m with
      | some (.bl true, m1) => match it1 e1 m1 with
        | some (ds1, gd1, m2) => match dcGo gd1 tg1 tt1 ek ev (wipeE e1 own1) ds1 acc m2 with
          | some (acc1, m3) => dc2Go gd tg tt it1 own1 tg1 tt1 ek ev env ds acc1 m3
          | none => none
        | none => none
      | some (.bl false, m1) => dc2Go gd tg tt it1 own1 tg1 tt1 ek ev env ds acc m1
      | _ => none
    | none => none
    else none
def eDc2 (own own1 : List Nat) (it : IS) (tg : Tgt) (tt : ES) (it1 : IS) (tg1 : Tgt) (tt1 ek ev : ES) : ES := fun env m => match it env m with
  | some (ds, gd, m1) => match dc2Go gd tg tt it1 own1 tg1 tt1 ek ev (wipeE env own) ds [] m1 with
    | some (kvs, m2) => some (.ref m2.length, m2 ++ [.dct kvs])
    | none => none
  | none => none
/-- f'{e:b}' of a whole number -/
def oFmtB (x : D) (m : M) : Option (D × M) := match x with
  | .int (.ofNat n) => if n.log2 < 1000000 then some (.str ⟨((Nat.toDigits 2 n).map Char.toNat).toArray⟩, m) else none
  | _ => none
/-- how often a sign stands in a text -/
def mCount : D → List D → M → Option (D × M)
  | .str x, [.str y], m => match y.cps.toList with
    | [c] => some (.int ((x.cps.toList.count c : Nat) : Int), m)
    | _ => none
  | _, _, _ => none
/-- the defs of a text, by levels -/
def lvl (tab : FT → FT) : Nat → FT
  | 0 => fun _ _ _ => none
  | k + 1 => tab (lvl tab k)
/-- sorted(xs) of a list or a tuple -/
def pSortedA : List D → M → Option (D × M)
  | [.tup xs], m => match keysBy (fun d m => (rd m d).map fun k => (k, m)) m xs with
    | some ps => if sortable (ps.map (·.2)) then some (.ref m.length, m ++ [.lst (sortBy ps)]) else none
    | none => none
  | as, m => pSorted as m
end Dm
end

section
set_option Elab.async false
set_option linter.all false
set_option maxRecDepth 100000
set_option maxHeartbeats 1100000
namespace Dm
open L2 PyProof.Rows PySem.Spec PySem

/-! ## what stands for what -/
/-- a list that nobody changes -/
def FzL (K : PySem.W.Frag) (H : Hp) (a : Addr) (xs : List V) : Prop :=
  (∃ o, H a = some (.frz o (.lst xs))) ∨ ∃ (o : Obj) (its : Array Value) (n : Nat), K.lookup a = some o ∧ o.cls = .type "list" ∧ o.dict = none ∧ o.data = .seq its n ∧ its.size ≤ sizeLine ∧ Vals xs its.toList
theorem FzL.sq {K : PySem.W.Frag} {H : Hp} {a : Addr} {xs : List V} (h : FzL K H a xs) : SqL K H a xs := h.elim (fun z => .inl (.inr z)) .inr
mutual
inductive Rep (K : PySem.W.Frag) (mu : List Addr) (H : Hp) : V → D → Prop
  | non : Rep K mu H .non .non
  | bl (b : Bool) : Rep K mu H (.bl b) (.bl b)
  | int (i : Int) : Rep K mu H (.int i) (.int i)
  | str (x : Str) : Rep K mu H (.str x) (.str x)
  | tup {a : Addr} {xs : List V} {ds : List D} : SqT K H a xs → RepL K mu H xs ds → Rep K mu H (.ref a) (.tup ds)
  | fl {a : Addr} {xs : List V} {ds : List D} : FzL K H a xs → RepL K mu H xs ds → Rep K mu H (.ref a) (.fl ds)
  | ref {l : Nat} {a : Addr} : mu[l]? = some a → Rep K mu H (.ref a) (.ref l)
inductive RepL (K : PySem.W.Frag) (mu : List Addr) (H : Hp) : List V → List D → Prop
  | nil : RepL K mu H [] []
  | cons {v : V} {vs : List V} {d : D} {ds : List D} : Rep K mu H v d → RepL K mu H vs ds → RepL K mu H (v :: vs) (d :: ds)
end
def plainO : HO → Bool
  | .tup _ => true
  | .frz _ _ => true
  | _ => false
/-- tuples and frozen things stay -/
def Keep (H H' : Hp) : Prop := ∀ a o, H a = some o → plainO o = true → H' a = some o
section
variable {K : PySem.W.Frag} {mu mu' : List Addr} {H H' : Hp}
theorem sqt_keep {a : Addr} {xs : List V} (h : SqT K H a xs) (k : Keep H H') : SqT K H' a xs := by
  (rcases h with (h | ⟨o, h⟩) | h)
  · exact .inl (.inl (k _ _ h rfl))
  · exact .inl (.inr ⟨o, k _ _ h rfl⟩)
  · exact .inr h
theorem FzL.keep {a : Addr} {xs : List V} (h : FzL K H a xs) (k : Keep H H') : FzL K H' a xs := by
  rcases h with ⟨o, h⟩ | h
  · exact .inl ⟨o, k _ _ h rfl⟩
  · exact .inr h
theorem pre_get {mu mu' : List Addr} (p : mu <+: mu') {l : Nat} {a : Addr} (h : mu[l]? = some a) : mu'[l]? = some a := by
  obtain ⟨t, rfl⟩ := p
  rw [List.getElem?_append_left (List.getElem?_eq_some_iff.mp h).1]
  exact h
mutual
theorem Rep.keep (p : mu <+: mu') (k : Keep H H') : ∀ (d : D) (v : V), Rep K mu H v d → Rep K mu' H' v d
  | .non, _, h => by cases h; exact .non
  | .bl _, _, h => by cases h; exact .bl _
  | .int _, _, h => by cases h; exact .int _
  | .str _, _, h => by cases h; exact .str _
  | .tup ds, _, h => by
    cases h with
    | tup h1 h2 => exact .tup (sqt_keep h1 k) (RepL.keep p k ds _ h2)
  | .fl ds, _, h => by
    cases h with
    | fl h1 h2 => exact .fl (h1.keep k) (RepL.keep p k ds _ h2)
  | .ref l, _, h => by
    cases h with
    | ref h => exact .ref (pre_get p h)
theorem RepL.keep (p : mu <+: mu') (k : Keep H H') : ∀ (ds : List D) (vs : List V), RepL K mu H vs ds → RepL K mu' H' vs ds
  | [], _, h => by cases h; exact .nil
  | d :: ds, _, h => by
    cases h with
    | cons h1 h2 => exact .cons (Rep.keep p k d _ h1) (RepL.keep p k ds _ h2)
end
theorem RepL.length : ∀ {ds : List D} {vs : List V}, RepL K mu H vs ds → vs.length = ds.length
  | [], _, h => by cases h; rfl
  | _ :: _, _, h => by
    cases h with
    | cons _ h2 => rw [List.length_cons, List.length_cons, RepL.length h2]
theorem RepL.get : ∀ {ds : List D} {vs : List V} {i : Nat} {d : D}, RepL K mu H vs ds → ds[i]? = some d → ∃ v, vs[i]? = some v ∧ Rep K mu H v d
  | [], _, _, _, _, e => by simp at e
  | _ :: _, _, 0, _, h, e => by
    cases h with
    | cons h1 _ => simp at e; subst e; exact ⟨_, rfl, h1⟩
  | _ :: _, _, i + 1, _, h, e => by
    cases h with
    | cons _ h2 =>
      obtain ⟨v, q, r⟩ := RepL.get (i := i) h2 (by simpa using e)
      exact ⟨v, by simpa using q, r⟩
theorem RepL.get' : ∀ {ds : List D} {vs : List V} {i : Nat} {v : V}, RepL K mu H vs ds → vs[i]? = some v → ∃ d, ds[i]? = some d ∧ Rep K mu H v d
  | [], _, _, _, h, e => by cases h; simp at e
  | _ :: _, _, 0, _, h, e => by
    cases h with
    | cons h1 _ => simp at e; subst e; exact ⟨_, rfl, h1⟩
  | _ :: _, _, i + 1, _, h, e => by
    cases h with
    | cons _ h2 =>
      obtain ⟨v, q, r⟩ := RepL.get' (i := i) h2 (by simpa using e)
      exact ⟨v, by simpa using q, r⟩
theorem RepL.append : ∀ {ds es : List D} {vs ws : List V}, RepL K mu H vs ds → RepL K mu H ws es → RepL K mu H (vs ++ ws) (ds ++ es)
  | [], _, _, _, h, k => by cases h; exact k
  | _ :: _, _, _, _, h, k => by
    cases h with
    | cons h1 h2 => exact .cons h1 (RepL.append h2 k)
theorem RepL.of_get : ∀ {ds : List D} {vs : List V}, vs.length = ds.length → (∀ (i : Nat) (v : V) (d : D), vs[i]? = some v → ds[i]? = some d → Rep K mu H v d) → RepL K mu H vs ds
  | [], [], _, _ => .nil
  | _ :: _, [], h, _ => (by simp at h)
  | [], _ :: _, h, _ => (by simp at h)
  | d :: ds, v :: vs, h, k => .cons (k 0 v d rfl rfl) (RepL.of_get (by simpa using h) fun i w e h1 h2 => k (i + 1) w e (by simpa using h1) (by simpa using h2))
theorem RepL.one {v : V} {d : D} (h : Rep K mu H v d) : RepL K mu H [v] [d] := .cons h .nil

def kD : Key → D
  | .inl i => .int i
  | .inr x => .str x
/-- the items of a dict -/
abbrev KvR (K : PySem.W.Frag) (mu : List Addr) (H : Hp) : List (Key × V) → List (D × D) → Prop := Paired fun p q => q.1 = kD p.1 ∧ Rep K mu H p.2 q.2
def ObR (K : PySem.W.Frag) (mu : List Addr) (H : Hp) (a : Addr) : Ob → Prop
  | .lst ds => ∃ xs, H a = some (.lst xs) ∧ RepL K mu H xs ds
  | .dct kvs => ∃ ks, H a = some (.dK ks) ∧ KvR K mu H ks kvs
  | .st _ => False
structure HR (K : PySem.W.Frag) (mu : List Addr) (H : Hp) (m : M) : Prop where
  len : mu.length = m.length
  nd : mu.Nodup
  ob : ∀ (l : Nat) (o : Ob) (a : Addr), m[l]? = some o → mu[l]? = some a → ObR K mu H a o
structure Stp (mu : List Addr) (H : Hp) (mu' : List Addr) (H' : Hp) : Prop where
  pre : mu <+: mu'
  new : ∀ a ∈ mu', a ∈ mu ∨ H a = none
  old : ∀ a o, H a = some o → a ∉ mu → H' a = some o
def EnvR (K : PySem.W.Frag) (mu : List Addr) (H : Hp) (env : Env) (st : L2.St) : Prop :=
  env.length = st.length ∧ ∀ (i : Nat) (d : D), env[i]? = some (some d) → ∃ v, st[i]? = some (some v) ∧ Rep K mu H v d
theorem KvR.keep (p : mu <+: mu') (k : Keep H H') {ks : List (Key × V)} {kvs : List (D × D)} (h : KvR K mu H ks kvs) : KvR K mu' H' ks kvs :=
  Paired.mapP h fun _ b z => ⟨z.1, Rep.keep p k b.2 _ z.2⟩
theorem ObR.at_some {a : Addr} {o : Ob} (h : ObR K mu H a o) : ∃ u, H a = some u ∧ plainO u = false := by
  cases o with
  | lst ds => obtain ⟨xs, e, _⟩ := h; exact ⟨_, e, rfl⟩
  | dct kvs => obtain ⟨xs, e, _⟩ := h; exact ⟨_, e, rfl⟩
  | st _ => exact False.elim h
theorem HR.at {m : M} (h : HR K mu H m) {a : Addr} (ha : a ∈ mu) : ∃ u, H a = some u ∧ plainO u = false := by
  obtain ⟨l, e⟩ := List.mem_iff_getElem?.mp ha
  have hl : l < m.length := by rw [← h.len]; exact (List.getElem?_eq_some_iff.mp e).1
  exact (h.ob l m[l] a (List.getElem?_eq_getElem hl) e).at_some
theorem HR.notin {m : M} (h : HR K mu H m) {a : Addr} {u : HO} (e : H a = some u) (p : plainO u = true) : a ∉ mu := fun ha => by
  obtain ⟨u', e', p'⟩ := h.at ha
  rw [e] at e'; cases e'
  rw [p] at p'; cases p'
theorem HR.notnone {m : M} (h : HR K mu H m) {a : Addr} (e : H a = none) : a ∉ mu := fun ha => by
  obtain ⟨u', e', _⟩ := h.at ha
  rw [e] at e'; cases e'
theorem Stp.refl (mu : List Addr) (H : Hp) : Stp mu H mu H := ⟨List.prefix_refl _, fun _ h => .inl h, fun _ _ e _ => e⟩
theorem Stp.keep {m : M} (s : Stp mu H mu' H') (h : HR K mu H m) : Keep H H' := fun a o e p => s.old a o e (h.notin e p)
theorem Stp.trans {mu1 mu2 : List Addr} {H1 H2 : Hp} (a : Stp mu H mu1 H1) (b : Stp mu1 H1 mu2 H2) : Stp mu H mu2 H2 := by
  have key : ∀ c, c ∉ mu → H c ≠ none → c ∉ mu1 := fun c h1 h2 h3 => (a.new c h3).elim h1 h2
  refine ⟨a.pre.trans b.pre, fun c hc => ?_, fun c o e hn => ?_⟩
  · rcases b.new c hc with z | z
    · exact a.new c z
    · by_cases hm : c ∈ mu
      · exact .inl hm
      · refine .inr ?_
        cases q : H c with
        | none => rfl
        | some o =>
          have := a.old c o q hm
          rw [z] at this; cases this
  · exact b.old c o (a.old c o e hn) (key c hn (by rw [e]; simp))
theorem Rep.step {m : M} {v : V} {d : D} (r : Rep K mu H v d) (s : Stp mu H mu' H') (h : HR K mu H m) : Rep K mu' H' v d := Rep.keep s.pre (s.keep h) d v r
theorem RepL.step {m : M} {v : List V} {d : List D} (r : RepL K mu H v d) (s : Stp mu H mu' H') (h : HR K mu H m) : RepL K mu' H' v d := RepL.keep s.pre (s.keep h) d v r
theorem EnvR.step {m : M} {env : Env} {st : L2.St} (r : EnvR K mu H env st) (s : Stp mu H mu' H') (h : HR K mu H m) : EnvR K mu' H' env st :=
  ⟨r.1, fun i d e => let ⟨v, q, z⟩ := r.2 i d e; ⟨v, q, z.step s h⟩⟩
theorem EnvR.set {env : Env} {st : L2.St} (r : EnvR K mu H env st) (i : Nat) {v : V} {d : D} (z : Rep K mu H v d) : EnvR K mu H (env.set i (some d)) (st.set i (some v)) := by
  refine ⟨by rw [List.length_set, List.length_set]; exact r.1, fun j e h => ?_⟩
  by_cases hj : j = i
  · subst hj
    have hl : j < env.length := by
      have := (List.getElem?_eq_some_iff.mp h).1
      rwa [List.length_set] at this
    rw [List.getElem?_set_self hl] at h
    cases h
    exact ⟨v, List.getElem?_set_self (by rw [← r.1]; exact hl), z⟩
  · rw [List.getElem?_set_ne (Ne.symm hj)] at h
    rw [List.getElem?_set_ne (Ne.symm hj)]
    exact r.2 j e h
theorem EnvR.wipe {env : Env} {st : L2.St} (r : EnvR K mu H env st) : ∀ vs : List Nat, EnvR K mu H (wipeE env vs) (wipe st vs)
  | [] => r
  | i :: vs => by
    have r' := EnvR.wipe r vs
    unfold wipeE L2.wipe
    refine ⟨by rw [List.length_set, List.length_set]; exact r'.1, fun j e h => ?_⟩
    by_cases hj : j = i
    · subst hj
      have hl : j < (wipeE env vs).length := by
        have := (List.getElem?_eq_some_iff.mp h).1
        rwa [List.length_set] at this
      rw [List.getElem?_set_self hl] at h
      cases h
    · rw [List.getElem?_set_ne (Ne.symm hj)] at h
      rw [List.getElem?_set_ne (Ne.symm hj)]
      exact r'.2 j e h
/-- a new thing that isn't of the small heap -/
theorem HR.upd {m : M} {p : Addr} {o : HO} (h : HR K mu H m) (hp : H p = none) : HR K mu (L2.upd H p o) m := by
  have k : Keep H (L2.upd H p o) := fun a u e _ => by rw [upd_ne (ne_of_none e hp)]; exact e
  refine ⟨h.len, h.nd, fun l ob a e1 e2 => ?_⟩
  have z := h.ob l ob a e1 e2
  cases ob with
  | lst ds =>
    obtain ⟨xs, e, r⟩ := z
    exact ⟨xs, by rw [upd_ne (ne_of_none e hp)]; exact e, RepL.keep (List.prefix_refl _) k _ _ r⟩
  | dct kvs =>
    obtain ⟨xs, e, r⟩ := z
    exact ⟨xs, by rw [upd_ne (ne_of_none e hp)]; exact e, r.keep (List.prefix_refl _) k⟩
  | st _ => exact z
theorem Stp.upd {p : Addr} {o : HO} (hp : H p = none) : Stp mu H mu (L2.upd H p o) :=
  ⟨List.prefix_refl _, fun _ h => .inl h, fun a u e _ => by rw [upd_ne (ne_of_none e hp)]; exact e⟩
/-- a new thing of the small heap -/
theorem HR.add {m : M} {p : Addr} {o : HO} {ob : Ob} (h : HR K mu H m) (hp : H p = none) (hob : ∀ mu', mu <+: mu' → ObR K mu' (L2.upd H p o) p ob) : HR K (mu ++ [p]) (L2.upd H p o) (m ++ [ob]) := by
  have k : Keep H (L2.upd H p o) := fun a u e _ => by rw [upd_ne (ne_of_none e hp)]; exact e
  refine ⟨by rw [List.length_append, List.length_append, h.len]; rfl, ?_, fun l u a e1 e2 => ?_⟩
  · rw [List.nodup_append]
    refine ⟨h.nd, by simp, fun x hx y hy => ?_⟩
    have : y = p := by simpa using hy
    subst this
    exact fun e => h.notnone hp (e ▸ hx)
  · by_cases hl : l < m.length
    · rw [List.getElem?_append_left hl] at e1
      rw [List.getElem?_append_left (by rw [h.len]; exact hl)] at e2
      have z := h.ob l u a e1 e2
      cases u with
      | lst ds =>
        obtain ⟨xs, e, r⟩ := z
        exact ⟨xs, by rw [upd_ne (ne_of_none e hp)]; exact e, RepL.keep (List.prefix_append _ _) k _ _ r⟩
      | dct kvs =>
        obtain ⟨xs, e, r⟩ := z
        exact ⟨xs, by rw [upd_ne (ne_of_none e hp)]; exact e, r.keep (List.prefix_append _ _) k⟩
      | st _ => exact z
    · have hl2 : l < (m ++ [ob]).length := (List.getElem?_eq_some_iff.mp e1).1
      have e : l = m.length := by rw [List.length_append] at hl2; simp at hl2; omega
      subst e
      rw [List.getElem?_append_right (Nat.le_refl _)] at e1
      rw [← h.len, List.getElem?_append_right (Nat.le_refl _)] at e2
      simp at e1 e2
      subst e1; subst e2
      exact hob _ (List.prefix_append _ _)
theorem Stp.add {p : Addr} {o : HO} (hp : H p = none) : Stp mu H (mu ++ [p]) (L2.upd H p o) :=
  ⟨List.prefix_append _ _, fun a h => (List.mem_append.mp h).elim .inl fun z => .inr ((show a = p by simpa using z) ▸ hp), fun a u e _ => by rw [upd_ne (ne_of_none e hp)]; exact e⟩
theorem add_get (h : mu.length = n) (p : Addr) : (mu ++ [p])[n]? = some p := by
  subst h
  rw [List.getElem?_append_right (Nat.le_refl _)]
  simp
/-- a thing of the small heap is changed -/
theorem HR.put {m : M} {l : Nat} {a : Addr} {ob ob' : Ob} {o : HO} (h : HR K mu H m) (hm : m[l]? = some ob) (ha : mu[l]? = some a) (hob : ObR K mu (L2.upd H a o) a ob') : HR K mu (L2.upd H a o) (m.set l ob') := by
  obtain ⟨u0, e0, p0⟩ := (h.ob l ob a hm ha).at_some
  have k : Keep H (L2.upd H a o) := fun b u e p => by
    rw [upd_ne]; exact e
    intro z; subst z
    rw [e0] at e; cases e
    rw [p0] at p; cases p
  refine ⟨by rw [List.length_set]; exact h.len, h.nd, fun j u b e1 e2 => ?_⟩
  by_cases hj : j = l
  · subst hj
    rw [List.getElem?_set_self (List.getElem?_eq_some_iff.mp hm).1] at e1
    rw [ha] at e2
    cases e1; cases e2
    exact hob
  · rw [List.getElem?_set_ne (Ne.symm hj)] at e1
    have hb : b ≠ a := fun z => by -- k47
      subst z
      exact hj ((List.getElem?_inj (List.getElem?_eq_some_iff.mp e2).1 h.nd).mp (e2.trans ha.symm))
    have z := h.ob j u b e1 e2
    cases u with
    | lst ds =>
      obtain ⟨xs, e, r⟩ := z
      exact ⟨xs, by rw [upd_ne hb]; exact e, RepL.keep (List.prefix_refl _) k _ _ r⟩
    | dct kvs =>
      obtain ⟨xs, e, r⟩ := z
      exact ⟨xs, by rw [upd_ne hb]; exact e, r.keep (List.prefix_refl _) k⟩
    | st _ => exact z
theorem Stp.put {l : Nat} {a : Addr} {o : HO} (ha : mu[l]? = some a) : Stp mu H mu (L2.upd H a o) :=
  ⟨List.prefix_refl _, fun _ h => .inl h, fun b u e hb => by rw [upd_ne]; exact e; intro z; subst z; exact hb (List.mem_of_getElem? ha)⟩
theorem Keep.put {m : M} {l : Nat} {a : Addr} {ob : Ob} {o : HO} (h : HR K mu H m) (hm : m[l]? = some ob) (ha : mu[l]? = some a) : Keep H (L2.upd H a o) := (Stp.put ha).keep h
end

/-! ## readings -/
def tE (K : PySem.W.Frag) (f : ES) : TE := fun st H Q => ∃ mu env m d m', HR K mu H m ∧ EnvR K mu H env st ∧ f env m = some (d, m') ∧
  ∀ v H' mu', Stp mu H mu' H' → HR K mu' H' m' → Rep K mu' H' v d → Q v H'
def tT (K : PySem.W.Frag) (f : ES) : TT := fun st H Q => ∃ mu env m b m', HR K mu H m ∧ EnvR K mu H env st ∧ f env m = some (.bl b, m') ∧
  ∀ H' mu', Stp mu H mu' H' → HR K mu' H' m' → Q b H'
def tA (K : PySem.W.Frag) (f : LS) : TA := fun st H Q => ∃ mu env m ds m', HR K mu H m ∧ EnvR K mu H env st ∧ f env m = some (ds, m') ∧
  ∀ vs H' mu', Stp mu H mu' H' → HR K mu' H' m' → RepL K mu' H' vs ds → Q vs H'
def KO (K : PySem.W.Frag) (E : Ends) (mu' : List Addr) (H' : Hp) : Out → Prop
  | .nx e => ∀ st', EnvR K mu' H' e st' → E.nx st' H'
  | .rt d => ∀ v, Rep K mu' H' v d → E.rt v H'
  | .bk e => ∀ st', EnvR K mu' H' e st' → E.bk st' H'
  | .ct e => ∀ st', EnvR K mu' H' e st' → E.ct st' H'
def tS (K : PySem.W.Frag) (f : SS) : TS := fun E st H => ∃ mu env m o m', HR K mu H m ∧ EnvR K mu H env st ∧ f env m = some (o, m') ∧
  ∀ H' mu', Stp mu H mu' H' → HR K mu' H' m' → KO K E mu' H' o
def ItR (K : PySem.W.Frag) (J : It) (gd : Gd) (ds : List D) (mu0 : List Addr) (H0 : Hp) : Prop :=
  ∀ (i : Nat) (mu : List Addr) (H : Hp) (m : M), mu0 <+: mu → Keep H0 H → HR K mu H m → gdOk gd m = true →
    (∀ d, ds[i]? = some d → J.go i H ∧ ∀ x H', J.yld i H x H' → ∃ mu', Stp mu H mu' H' ∧ HR K mu' H' m ∧ Rep K mu' H' x d ∧ mu' = mu) ∧ (i = ds.length → J.stop i H)
def tI (K : PySem.W.Frag) (f : IS) : TI := fun st H R => ∃ mu env m ds gd m', HR K mu H m ∧ EnvR K mu H env st ∧ f env m = some (ds, gd, m') ∧
  ∀ J H' mu', Stp mu H mu' H' → HR K mu' H' m' → ItR K J gd ds mu' H' → R J H'
abbrev SE (X : Cx) (e : Expr) (f : ES) : Prop := PE X e (tE X.K f)
abbrev ST (X : Cx) (e : Expr) (f : ES) : Prop := PT X e (tT X.K f)
abbrev SA (X : Cx) (es : List Expr) (f : LS) : Prop := PA X es (tA X.K f)
abbrev SStm (X : Cx) (s : Stmt) (f : SS) : Prop := PS X s (tS X.K f)
abbrev SBlk (X : Cx) (s : List Stmt) (f : SS) : Prop := PSs X s (tS X.K f)
abbrev SI (X : Cx) (tg e : Expr) (f : IS) : Prop := PI X tg e (tI X.K f)
theorem _root_.L2.PE.imp {X : Cx} {e : Expr} {t t' : TE} (h : PE X e t) (k : ∀ st H Q, t' st H Q → t st H Q) : PE X e t' := ⟨fun pins s st H Q I q => h.run pins s st H Q I (k _ _ _ q)⟩
theorem _root_.L2.PT.imp {X : Cx} {e : Expr} {t t' : TT} (h : PT X e t) (k : ∀ st H Q, t' st H Q → t st H Q) : PT X e t' := ⟨fun pins s st H Q I q => h.run pins s st H Q I (k _ _ _ q)⟩
theorem _root_.L2.PW.imp {X : Cx} {e : Expr} {t t' : TT} (h : PW X e t) (k : ∀ st H Q, t' st H Q → t st H Q) : PW X e t' := ⟨fun wh pins s st H Q I q => h.run wh pins s st H Q I (k _ _ _ q)⟩
theorem _root_.L2.PA.imp {X : Cx} {e : List Expr} {t t' : TA} (h : PA X e t) (k : ∀ st H Q, t' st H Q → t st H Q) : PA X e t' := ⟨fun pos pins s st H Q I q => h.run pos pins s st H Q I (k _ _ _ q)⟩
theorem _root_.L2.PS.imp {X : Cx} {e : Stmt} {t t' : TS} (h : PS X e t) (k : ∀ E st H, t' E st H → t E st H) : PS X e t' := ⟨fun pins s st H E I q => h.run pins s st H E I (k _ _ _ q)⟩
theorem _root_.L2.PSs.imp {X : Cx} {e : List Stmt} {t t' : TS} (h : PSs X e t) (k : ∀ E st H, t' E st H → t E st H) : PSs X e t' := ⟨fun pins s st H E I q => h.run pins s st H E I (k _ _ _ q)⟩
theorem _root_.L2.PI.imp {X : Cx} {tg e : Expr} {t t' : TI} (h : PI X tg e t) (k : ∀ st H R, t' st H R → t st H R) : PI X tg e t' := ⟨fun pins s st H R I q => h.run pins s st H R I (k _ _ _ q)⟩
end Dm
end

section
set_option Elab.async false
set_option linter.all false
set_option maxRecDepth 100000
set_option maxHeartbeats 1100000
namespace Dm
open L2 PyProof.Rows PySem.Spec PySem

/-! ## readings composed -/
def OpK (K : PySem.W.Frag) (r : R2) (f : D → D → M → Option (D × M)) : Prop := ∀ mu H m x y a b d m' Q, HR K mu H m → Rep K mu H x a → Rep K mu H y b → f a b m = some (d, m') →
  (∀ v H' mu', Stp mu H mu' H' → HR K mu' H' m' → Rep K mu' H' v d → Q v H') → r x y H Q
def UnK (K : PySem.W.Frag) (r : V → Hp → VK → Prop) (f : D → M → Option (D × M)) : Prop := ∀ mu H m x a d m' Q, HR K mu H m → Rep K mu H x a → f a m = some (d, m') →
  (∀ v H' mu', Stp mu H mu' H' → HR K mu' H' m' → Rep K mu' H' v d → Q v H') → r x H Q
def CaK (K : PySem.W.Frag) (r : List V → Hp → VK → Prop) (f : List D → M → Option (D × M)) : Prop := ∀ mu H m xs as d m' Q, HR K mu H m → RepL K mu H xs as → f as m = some (d, m') →
  (∀ v H' mu', Stp mu H mu' H' → HR K mu' H' m' → Rep K mu' H' v d → Q v H') → r xs H Q
def MtK (K : PySem.W.Frag) (r : V → List V → Hp → VK → Prop) (f : D → List D → M → Option (D × M)) : Prop := ∀ mu H m x a xs as d m' Q, HR K mu H m → Rep K mu H x a → RepL K mu H xs as → f a as m = some (d, m') →
  (∀ v H' mu', Stp mu H mu' H' → HR K mu' H' m' → Rep K mu' H' v d → Q v H') → r x xs H Q

section
variable {X : Cx} {pos : Pos}
theorem s_var {i : Nat} {x : Str} (hN : X.N[i]? = some x) (hv : Vis X.env.scope x) (hd : (x == ("__debug__" : Str)) = false := by decide) (hcd : (x == ("__classdict__" : Str)) = false := by decide) : SE X (.Name x pos) (eVar i) :=
  (pe_var hN hv hd hcd).imp fun st H Q ⟨mu, env, m, d, m', h, r, e, k⟩ => by
    unfold eVar at e
    split at e
    · rename_i d0 e0
      cases e
      obtain ⟨v, q, z⟩ := r.2 i _ e0
      exact ⟨v, q, k v H mu (Stp.refl _ _) h z⟩
    · cases e
theorem s_c {ex : Expr} {v : V} {d : D} (h : PE X ex (tC v)) (hr : ∀ mu H, Rep X.K mu H v d) : SE X ex (eC d) :=
  h.imp fun st H Q ⟨mu, env, m, d, m', h, r, e, k⟩ => by cases e; exact k v H mu (Stp.refl _ _) h (hr _ _)
theorem s_int {i : Int} {j} : SE X (.Constant (.int i) j pos) (eC (.int i)) := s_c pe_int fun _ _ => .int _
theorem s_bl {b : Bool} {j} : SE X (.Constant (.bool b) j pos) (eC (.bl b)) := s_c pe_bl fun _ _ => .bl _
theorem s_non {j} : SE X (.Constant .none j pos) (eC .non) := s_c pe_non fun _ _ => .non
theorem s_str {x : Str} {j} : SE X (.Constant (.str x) j pos) (eC (.str x)) := s_c pe_str fun _ _ => .str _
theorem sa_nil : SA X [] aNil := pa_nil.imp fun st H Q ⟨mu, env, m, d, m', h, r, e, k⟩ => by cases e; exact k [] H mu (Stp.refl _ _) h .nil
theorem sa_cons {e : Expr} {es : List Expr} {f : ES} {g : LS} (ha : SE X e f) (hr : SA X es g) (hs : starEach (e :: es) X.env = (false, eval e X.env) :: starEach es X.env := by rfl) : SA X (e :: es) (aCons f g) :=
  (pa_cons ha hr hs).imp fun st H Q ⟨mu, env, m, d, m', h, r, e, k⟩ => by
    unfold aCons at e
    split at e
    · rename_i d1 m1 e1
      split at e
      · rename_i ds m2 e2
        cases e
        exact ⟨mu, env, m, d1, m1, h, r, e1, fun v1 H1 mu1 s1 h1 r1 => ⟨mu1, env, m1, ds, _, h1, r.step s1 h, e2, fun vs H2 mu2 s2 h2 r2 => k _ H2 mu2 (s1.trans s2) h2 (.cons (r1.step s2 h1) r2)⟩⟩
      · cases e
    · cases e
theorem lineN_eq : lineN = sizeLine := by rw [sizeLine_eq]; rfl
theorem s_tup {es : List Expr} {x1} {g : LS} (h : SA X es g) : SE X (.Tuple es x1 pos) (eTup g) :=
  (pe_tup h).imp fun st H Q ⟨mu, env, m, d, m', h, r, e, k⟩ => by
    unfold eTup at e
    split at e
    · rename_i ds m1 e1
      split at e
      · rename_i hl
        cases e
        refine ⟨mu, env, m, ds, _, h, r, e1, fun vs H1 mu1 s1 h1 r1 => ⟨by rw [r1.length, ← lineN_eq]; exact hl, fun p hp => ?_⟩⟩
        have s2 : Stp mu1 H1 mu1 (L2.upd H1 p (.tup vs)) := Stp.upd hp
        exact k _ _ mu1 (s1.trans s2) (h1.upd hp) (.tup (SqT.of upd_same) (r1.step s2 h1))
      · cases e
    · cases e
theorem s_lst {es : List Expr} {g : LS} (h : SA X es g) : SE X (.List es pos) (eLst g) :=
  (pe_lst h).imp fun st H Q ⟨mu, env, m, d, m', h, r, e, k⟩ => by
    unfold eLst at e
    split at e
    · rename_i ds m1 e1
      split at e
      · rename_i hl
        cases e
        refine ⟨mu, env, m, ds, m1, h, r, e1, fun vs H1 mu1 s1 h1 r1 => ⟨by rw [r1.length, ← lineN_eq]; exact hl, fun p hp => ?_⟩⟩
        have s2 : Stp mu1 H1 (mu1 ++ [p]) (L2.upd H1 p (.lst vs)) := Stp.add hp
        exact k _ _ _ (s1.trans s2) (h1.add hp fun mu' pr => ⟨vs, upd_same, RepL.keep pr ((Stp.upd hp).keep h1) _ _ r1⟩) (.ref (add_get h1.len p))
      · cases e
    · cases e
theorem s_op {a b : Expr} {op : Operator} {r : R2} {f : D → D → M → Option (D × M)} {fa fb : ES} (ho : OpR X (binaryOp op) r) (hk : OpK X.K r f) (ha : SE X a fa) (hb : SE X b fb) : SE X (.BinOp a op b pos) (eOp f fa fb) :=
  (pe_op ho ha hb).imp fun st H Q ⟨mu, env, m, d, m', h, r, e, k⟩ => by
    unfold eOp at e
    split at e
    · rename_i d1 m1 e1
      split at e
      · rename_i d2 m2 e2
        exact ⟨mu, env, m, d1, m1, h, r, e1, fun v1 H1 mu1 s1 h1 r1 => ⟨mu1, env, m1, d2, m2, h1, r.step s1 h, e2, fun v2 H2 mu2 s2 h2 r2 =>
          hk mu2 H2 m2 v1 v2 d1 d2 d m' Q h2 (r1.step s2 h1) r2 e fun v H' mu' s3 h3 r3 => k v H' mu' (s1.trans (s2.trans s3)) h3 r3⟩⟩
      · cases e
    · cases e
theorem s_ix {a b : Expr} {r : R2} {f : D → D → M → Option (D × M)} {fa fb : ES} (ho : IxR X r) (hk : OpK X.K r f) (ha : SE X a fa) (hb : SE X b fb) (hs : PlainIx b := by intro _ _; rfl) : SE X (.Subscript a b pos) (eOp f fa fb) :=
  (pe_ix ho ha hb hs).imp fun st H Q ⟨mu, env, m, d, m', h, r, e, k⟩ => by
    unfold eOp at e
    split at e
    · rename_i d1 m1 e1
      split at e
      · rename_i d2 m2 e2
        exact ⟨mu, env, m, d1, m1, h, r, e1, fun v1 H1 mu1 s1 h1 r1 => ⟨mu1, env, m1, d2, m2, h1, r.step s1 h, e2, fun v2 H2 mu2 s2 h2 r2 =>
          hk mu2 H2 m2 v1 v2 d1 d2 d m' Q h2 (r1.step s2 h1) r2 e fun v H' mu' s3 h3 r3 => k v H' mu' (s1.trans (s2.trans s3)) h3 r3⟩⟩
      · cases e
    · cases e
theorem s_cmp {a b : Expr} {op : CmpOp} {r : R2} {f : D → D → M → Option (D × M)} {fa fb : ES} (ho : OpR X (compareOp op) r) (hk : OpK X.K r f) (ha : SE X a fa) (hb : SE X b fb) (hm : behindInMarks op b = false := by rfl) : SE X (.Compare a [op] [b] pos) (eOp f fa fb) :=
  (pe_cmpR ho ha hb hm).imp fun st H Q ⟨mu, env, m, d, m', h, r, e, k⟩ => by
    unfold eOp at e
    split at e
    · rename_i d1 m1 e1
      split at e
      · rename_i d2 m2 e2
        exact ⟨mu, env, m, d1, m1, h, r, e1, fun v1 H1 mu1 s1 h1 r1 => ⟨mu1, env, m1, d2, m2, h1, r.step s1 h, e2, fun v2 H2 mu2 s2 h2 r2 =>
          hk mu2 H2 m2 v1 v2 d1 d2 d m' Q h2 (r1.step s2 h1) r2 e fun v H' mu' s3 h3 r3 => k v H' mu' (s1.trans (s2.trans s3)) h3 r3⟩⟩
      · cases e
    · cases e
theorem s_un {a : Expr} {op : UnaryOp} {r : V → Hp → VK → Prop} {f : D → M → Option (D × M)} {fa : ES} (ho : UnR X (unaryOp op) r) (hk : UnK X.K r f) (ha : SE X a fa) : SE X (.UnaryOp op a pos) (eUn f fa) :=
  (pe_un ho ha).imp fun st H Q ⟨mu, env, m, d, m', h, r, e, k⟩ => by
    unfold eUn at e
    split at e
    · rename_i d1 m1 e1
      exact ⟨mu, env, m, d1, m1, h, r, e1, fun v1 H1 mu1 s1 h1 r1 => hk mu1 H1 m1 v1 d1 d m' Q h1 r1 e fun v H' mu' s3 h3 r3 => k v H' mu' (s1.trans s3) h3 r3⟩
    · cases e
/-- x is None, x is not None -/
theorem s_isN {a : Expr} {fa : ES} {j} {pos'} (ha : SE X a fa) : SE X (.Compare a [.Is] [.Constant .none j pos'] pos) (eUn (oIsN false) fa) :=
  (pe_cmp (pc_isN ha) rfl).imp fun st H Q ⟨mu, env, m, d, m', h, r, e, k⟩ => by
    unfold eUn at e
    split at e
    · rename_i d1 m1 e1
      refine ⟨mu, env, m, d1, m1, h, r, e1, fun v1 H1 mu1 s1 h1 r1 => ?_⟩
      unfold oIsN at e
      cases d1 <;> cases r1 <;> (cases e; exact k _ H1 mu1 s1 h1 (.bl _))
    · cases e
theorem s_notN {a : Expr} {fa : ES} {j} {pos'} (ha : SE X a fa) : SE X (.Compare a [.IsNot] [.Constant .none j pos'] pos) (eUn (oIsN true) fa) :=
  (pe_cmp (pc_notN ha) rfl).imp fun st H Q ⟨mu, env, m, d, m', h, r, e, k⟩ => by
    unfold eUn at e
    split at e
    · rename_i d1 m1 e1
      refine ⟨mu, env, m, d1, m1, h, r, e1, fun v1 H1 mu1 s1 h1 r1 => ?_⟩
      unfold oIsN at e
      cases d1 <;> cases r1 <;> (cases e; exact k _ H1 mu1 s1 h1 (.bl _))
    · cases e

/-! ## tests -/
theorem rep_bl {K : PySem.W.Frag} {mu : List Addr} {H : Hp} {v : V} {b : Bool} (h : Rep K mu H v (.bl b)) : v = .bl b := by cases h; rfl
theorem t_val {e : Expr} {f : ES} (h : SE X e f) (he : ∀ whole, isTrue e X.env whole = (do let v ← whole; standAt e.pos; holding [v] (truthy v)) := by intro _; rfl) : ST X e f :=
  (pt_val h he).imp fun st H Q ⟨mu, env, m, b, m', h, r, e, k⟩ => ⟨mu, env, m, .bl b, m', h, r, e, fun v H' mu' s h' r' => ⟨b, rep_bl r', k H' mu' s h'⟩⟩
/-- a comparison as a test -/
theorem t_cmp {a b : Expr} {op : CmpOp} {r : R2} {f : D → D → M → Option (D × M)} {fa fb : ES} (ho : OpR X (compareOp op) r) (hk : OpK X.K r f) (ha : SE X a fa) (hb : SE X b fb) (hm : behindInMarks op b = false := by rfl) : ST X (.Compare a [op] [b] pos) (eOp f fa fb) :=
  (pt_cmpR ho ha hb hm).imp fun st H Q ⟨mu, env, m, bb, m', h, r, e, k⟩ => by
    unfold eOp at e
    split at e
    · rename_i d1 m1 e1
      split at e
      · rename_i d2 m2 e2
        exact ⟨mu, env, m, d1, m1, h, r, e1, fun v1 H1 mu1 s1 h1 r1 => ⟨mu1, env, m1, d2, m2, h1, r.step s1 h, e2, fun v2 H2 mu2 s2 h2 r2 =>
          hk mu2 H2 m2 v1 v2 d1 d2 _ m' _ h2 (r1.step s2 h1) r2 e fun v H' mu' s3 h3 r3 => ⟨bb, rep_bl r3, k H' mu' (s1.trans (s2.trans s3)) h3⟩⟩⟩
      · cases e
    · cases e
theorem t_isN {a : Expr} {fa : ES} {j} {pos'} (ha : SE X a fa) : ST X (.Compare a [.Is] [.Constant .none j pos'] pos) (eUn (oIsN false) fa) :=
  (pt_cmp (pc_isN ha) rfl).imp fun st H Q ⟨mu, env, m, b, m', h, r, e, k⟩ => by
    unfold eUn at e
    split at e
    · rename_i d1 m1 e1
      refine ⟨mu, env, m, d1, m1, h, r, e1, fun v1 H1 mu1 s1 h1 r1 => ?_⟩
      unfold oIsN at e
      cases d1 <;> cases r1 <;> (cases e; exact ⟨_, rfl, k H1 mu1 s1 h1⟩)
    · cases e
theorem t_notN {a : Expr} {fa : ES} {j} {pos'} (ha : SE X a fa) : ST X (.Compare a [.IsNot] [.Constant .none j pos'] pos) (eUn (oIsN true) fa) :=
  (pt_cmp (pc_notN ha) rfl).imp fun st H Q ⟨mu, env, m, b, m', h, r, e, k⟩ => by
    unfold eUn at e
    split at e
    · rename_i d1 m1 e1
      refine ⟨mu, env, m, d1, m1, h, r, e1, fun v1 H1 mu1 s1 h1 r1 => ?_⟩
      unfold oIsN at e
      cases d1 <;> cases r1 <;> (cases e; exact ⟨_, rfl, k H1 mu1 s1 h1⟩)
    · cases e
abbrev SW (X : Cx) (e : Expr) (f : ES) : Prop := PW X e (tT X.K f)
theorem t_not {a : Expr} {f : ES} (ha : ST X a f) : ST X (.UnaryOp .Not a pos) (eNot f) :=
  (pt_not ha).imp fun st H Q ⟨mu, env, m, b, m', h, r, e, k⟩ => by
    unfold eNot at e
    split at e
    · rename_i b0 m1 e1
      cases e
      exact ⟨mu, env, m, b0, _, h, r, e1, fun H' mu' s h' => k H' mu' s h'⟩
    · cases e
theorem w_and1 {a : Expr} {f : ES} (ha : ST X a f) : SW X (.BoolOp .And [a] pos) f := pw_and1 ha
theorem w_or1 {a : Expr} {f : ES} (ha : ST X a f) : SW X (.BoolOp .Or [a] pos) f := pw_or1 ha
theorem w_and {a b : Expr} {rest : List Expr} {f g : ES} (ha : ST X a f) (hb : SW X (.BoolOp .And (b :: rest) pos) g) : SW X (.BoolOp .And (a :: b :: rest) pos) (eAnd f g) :=
  (pw_and ha hb).imp fun st H Q ⟨mu, env, m, b, m', h, r, e, k⟩ => by
    unfold eAnd at e
    split at e
    · rename_i m1 e1
      exact ⟨mu, env, m, true, m1, h, r, e1, fun H1 mu1 s1 h1 => iteT ⟨mu1, env, m1, b, m', h1, r.step s1 h, e, fun H' mu' s2 h2 => k H' mu' (s1.trans s2) h2⟩⟩
    · rename_i m1 e1
      cases e
      exact ⟨mu, env, m, false, _, h, r, e1, fun H1 mu1 s1 h1 => iteF (k H1 mu1 s1 h1)⟩
    · cases e
theorem w_or {a b : Expr} {rest : List Expr} {f g : ES} (ha : ST X a f) (hb : SW X (.BoolOp .Or (b :: rest) pos) g) : SW X (.BoolOp .Or (a :: b :: rest) pos) (eOr f g) :=
  (pw_or ha hb).imp fun st H Q ⟨mu, env, m, b, m', h, r, e, k⟩ => by
    unfold eOr at e
    split at e
    · rename_i m1 e1
      exact ⟨mu, env, m, false, m1, h, r, e1, fun H1 mu1 s1 h1 => iteF ⟨mu1, env, m1, b, m', h1, r.step s1 h, e, fun H' mu' s2 h2 => k H' mu' (s1.trans s2) h2⟩⟩
    · rename_i m1 e1
      cases e
      exact ⟨mu, env, m, true, _, h, r, e1, fun H1 mu1 s1 h1 => iteT (k H1 mu1 s1 h1)⟩
    · cases e
theorem t_w {e : Expr} {f : ES} (h : SW X e f) : ST X e f := PW.pt h
/-- as values -/
theorem s_one {op} {a : Expr} {f : ES} (h : SE X a f) : SE X (.BoolOp op [a] pos) f := pe_one h
theorem s_and {a b : Expr} {rest : List Expr} {f g : ES} (ha : SE X a f) (hb : SE X (.BoolOp .And (b :: rest) pos) g) : SE X (.BoolOp .And (a :: b :: rest) pos) (eAnd f g) :=
  (pe_and ha hb).imp fun st H Q ⟨mu, env, m, d, m', h, r, e, k⟩ => by
    unfold eAnd at e
    split at e
    · rename_i m1 e1
      exact ⟨mu, env, m, .bl true, m1, h, r, e1, fun v H1 mu1 s1 h1 r1 => ⟨true, rep_bl r1, iteT ⟨mu1, env, m1, d, m', h1, r.step s1 h, e, fun v H' mu' s2 h2 r2 => k v H' mu' (s1.trans s2) h2 r2⟩⟩⟩
    · rename_i m1 e1
      cases e
      exact ⟨mu, env, m, .bl false, _, h, r, e1, fun v H1 mu1 s1 h1 r1 => ⟨false, rep_bl r1, iteF (k _ H1 mu1 s1 h1 (.bl _))⟩⟩
    · cases e
theorem s_or {a b : Expr} {rest : List Expr} {f g : ES} (ha : SE X a f) (hb : SE X (.BoolOp .Or (b :: rest) pos) g) : SE X (.BoolOp .Or (a :: b :: rest) pos) (eOr f g) :=
  (pe_or ha hb).imp fun st H Q ⟨mu, env, m, d, m', h, r, e, k⟩ => by
    unfold eOr at e
    split at e
    · rename_i m1 e1
      exact ⟨mu, env, m, .bl false, m1, h, r, e1, fun v H1 mu1 s1 h1 r1 => ⟨false, rep_bl r1, iteF ⟨mu1, env, m1, d, m', h1, r.step s1 h, e, fun v H' mu' s2 h2 r2 => k v H' mu' (s1.trans s2) h2 r2⟩⟩⟩
    · rename_i m1 e1
      cases e
      exact ⟨mu, env, m, .bl true, _, h, r, e1, fun v H1 mu1 s1 h1 r1 => ⟨true, rep_bl r1, iteT (k _ H1 mu1 s1 h1 (.bl _))⟩⟩
    · cases e
theorem s_not {a : Expr} {f : ES} (ha : SE X a f) : SE X (.UnaryOp .Not a pos) (eNot f) :=
  (pe_not ha).imp fun st H Q ⟨mu, env, m, d, m', h, r, e, k⟩ => by
    unfold eNot at e
    split at e
    · rename_i b0 m1 e1
      cases e
      exact ⟨mu, env, m, .bl b0, _, h, r, e1, fun v H' mu' s h' r' => ⟨b0, rep_bl r', k _ H' mu' s h' (.bl _)⟩⟩
    · cases e
theorem s_if {c a b : Expr} {t f g : ES} (hc : ST X c t) (ha : SE X a f) (hb : SE X b g) : SE X (.IfExp c a b pos) (eIf t f g) :=
  (pe_ifExp hc ha hb).imp fun st H Q ⟨mu, env, m, d, m', h, r, e, k⟩ => by
    unfold eIf at e
    split at e
    · rename_i m1 e1
      exact ⟨mu, env, m, true, m1, h, r, e1, fun H1 mu1 s1 h1 => iteT ⟨mu1, env, m1, d, m', h1, r.step s1 h, e, fun v H' mu' s2 h2 r2 => k v H' mu' (s1.trans s2) h2 r2⟩⟩
    · rename_i m1 e1
      exact ⟨mu, env, m, false, m1, h, r, e1, fun H1 mu1 s1 h1 => iteF ⟨mu1, env, m1, d, m', h1, r.step s1 h, e, fun v H' mu' s2 h2 r2 => k v H' mu' (s1.trans s2) h2 r2⟩⟩
    · cases e

/-! ## calls by values -/
theorem s_prim {e : Expr} {t : TE} {r : List V → Hp → VK → Prop} {es : List Expr} {f : List D → M → Option (D × M)} {g : LS} (h : PE X e t) (ht : ∀ st H Q, tCB r (tA X.K g) st H Q → t st H Q) (hk : CaK X.K r f) : SE X e (ePrim f g) :=
  h.imp fun st H Q ⟨mu, env, m, d, m', h, r, e, k⟩ => by
    unfold ePrim at e
    split at e
    · rename_i d1 m1 e1
      exact ht _ _ _ ⟨mu, env, m, d1, m1, h, r, e1, fun v1 H1 mu1 s1 h1 r1 => hk mu1 H1 m1 v1 d1 d m' Q h1 r1 e fun v H' mu' s3 h3 r3 => k v H' mu' (s1.trans s3) h3 r3⟩
    · cases e
/-- f(e, ..), f a built-in -/
theorem s_callB {x : Str} {p : Pos} {e : Expr} {es : List Expr} {id : String} {r : List V → Hp → VK → Prop} {f : List D → M → Option (D × M)} {g : LS} (hc : CallR X (.builtin id) r) (hk : CaK X.K r f) (hg : Gl X x) (hm : X.mg x = none) (hv : bootBuiltins x = some (.builtin id)) (ha : SA X (e :: es) g)
    (hn : x ≠ "__name__" := by decide) (hdb : (x == ("__debug__" : Str)) = false := by decide)
    (he : starEach (e :: es) X.env = (false, eval e X.env) :: starEach es X.env := by rfl) (hpl : (backTo pos (starEach es X.env)).any (·.1) = false := by rfl) : SE X (.Call (.Name x p) (e :: es) [] pos) (ePrim f g) :=
  s_prim (es := es) (pe_callB hc hg hm hv ha hn hdb he hpl) (fun _ _ _ q => q) hk
theorem s_callT {x : Str} {p : Pos} {e : Expr} {es : List Expr} {id : String} {r : List V → Hp → VK → Prop} {f : List D → M → Option (D × M)} {g : LS} (hc : CallR X (.type id) r) (hk : CaK X.K r f) (hg : Gl X x) (hm : X.mg x = none) (hv : bootBuiltins x = some (.type id)) (ha : SA X (e :: es) g)
    (hn : x ≠ "__name__" := by decide) (hdb : (x == ("__debug__" : Str)) = false := by decide)
    (he : starEach (e :: es) X.env = (false, eval e X.env) :: starEach es X.env := by rfl) (hpl : (backTo pos (starEach es X.env)).any (·.1) = false := by rfl) : SE X (.Call (.Name x p) (e :: es) [] pos) (ePrim f g) :=
  s_prim (es := es) (pe_callTy hc hg hm hv ha hn hdb he hpl) (fun _ _ _ q => q) hk

/-! ## the calls of the program's defs -/
/-- what a def promises by its meaning -/
def spF (K : PySem.W.Frag) (n : Nat) (f : List D → M → Option (D × M)) : Sp := fun vs H Q _ => vs.length = n ∧ ∃ mu m ds d m', HR K mu H m ∧ RepL K mu H vs ds ∧ f ds m = some (d, m') ∧
  ∀ v H' mu', Stp mu H mu' H' → HR K mu' H' m' → Rep K mu' H' v d → Q v H'
structure Fx (P : Program) (w : World) (K : PySem.W.Frag) (mg : Str → Option Value) (base : Heap) (k : Nat) (n : Nat) (f : List D → M → Option (D × M)) (x : Str) : Prop where
  ex : ∃ (fa : Addr) (fd : FuncData) (ps : List Str), FnOk P w K mg base CX0 k fa fd ps (spF K n f) ∧ mg x = some (.ref fa) ∧ PySem.W.keepIn K (.ref fa) = true ∧ Binds K fd ps []
theorem s_call {n k : Nat} {x : Str} {p : Pos} {e : Expr} {es : List Expr} {f : List D → M → Option (D × M)} {g : LS} (F : Fx X.prog X.w X.K X.mg X.base k n f x) (hr : Room k X.A) (hl : (e :: es).length = n) (hg : Gl X x) (ha : SA X (e :: es) g)
    (hdb : (x == ("__debug__" : Str)) = false := by decide) (he : starEach (e :: es) X.env = (false, eval e X.env) :: starEach es X.env := by rfl) (hpl : (backTo pos (starEach es X.env)).any (·.1) = false := by rfl)
    (hgl : ∀ env m ds m', g env m = some (ds, m') → ds.length = (e :: es).length) : SE X (.Call (.Name x p) (e :: es) [] pos) (ePrim f g) := by
  obtain ⟨fa, fd, ps, ok, hm, hk, hb⟩ := F.ex
  refine (pe_call ok hr hg hm hk hb .nil (E := E0) pass0 ha hdb he hpl).imp fun st H Q ⟨mu, env, m, d, m', h, r, e, k⟩ => ?_
  unfold ePrim at e
  split at e
  · rename_i d1 m1 e1
    refine ⟨mu, env, m, d1, m1, h, r, e1, fun v1 H1 mu1 s1 h1 r1 => ⟨?_, mu1, m1, d1, d, m', h1, ?_, e, fun v H' mu' s3 h3 r3 => k v H' mu' (s1.trans s3) h3 r3⟩⟩
    · rw [List.append_nil, r1.length, hgl _ _ _ _ e1]; exact hl
    · rw [List.append_nil]; exact r1
  · cases e
end
end Dm
end

section
set_option Elab.async false
set_option linter.all false
set_option maxRecDepth 100000
set_option maxHeartbeats 1100000
namespace Dm
open L2 PyProof.Rows PySem.Spec PySem

/-! ## norm -/
theorem take_stb {m m' : M} (h : stb m m' = true) : m.length ≤ m'.length ∧ ∀ (l : Nat) (o : Ob), l < m.length → m'[l]? = some o → m[l]? = some o ∨ o.gr = true := by
  unfold stb at h
  rw [Bool.and_eq_true] at h
  refine ⟨of_decide_eq_true h.1, fun l o hl e => ?_⟩
  have hz : (m.zip m')[l]? = some (m[l], o) := by
    rw [List.getElem?_zip_eq_some]
    exact ⟨List.getElem?_eq_getElem hl, e⟩
  have q := List.all_eq_true.mp h.2 _ (List.mem_of_getElem? hz)
  rw [Bool.or_eq_true] at q
  rcases q with q | q
  · exact .inl (by rw [List.getElem?_eq_getElem hl]; exact congrArg some (of_decide_eq_true q))
  · exact .inr q
mutual
theorem Rep.ground {K : PySem.W.Frag} {mu mu' : List Addr} {H : Hp} : ∀ (d : D) (v : V), d.gr = true → Rep K mu H v d → Rep K mu' H v d
  | .non, _, _, h => by cases h; exact .non
  | .bl _, _, _, h => by cases h; exact .bl _
  | .int _, _, _, h => by cases h; exact .int _
  | .str _, _, _, h => by cases h; exact .str _
  | .tup ds, _, g, h => by
    cases h with
    | tup h1 h2 => exact .tup h1 (RepL.ground ds _ (by simpa [D.gr] using g) h2)
  | .fl ds, _, g, h => by
    cases h with
    | fl h1 h2 => exact .fl h1 (RepL.ground ds _ (by simpa [D.gr] using g) h2)
  | .ref l, _, g, _ => by simp [D.gr] at g
theorem RepL.ground {K : PySem.W.Frag} {mu mu' : List Addr} {H : Hp} : ∀ (ds : List D) (vs : List V), D.grL ds = true → RepL K mu H vs ds → RepL K mu' H vs ds
  | [], _, _, h => by cases h; exact .nil
  | d :: ds, _, g, h => by
    rw [D.grL, Bool.and_eq_true] at g
    cases h with
    | cons h1 h2 => exact .cons (Rep.ground d _ g.1 h1) (RepL.ground ds _ g.2 h2)
end
theorem KvR.ground {K : PySem.W.Frag} {mu mu' : List Addr} {H : Hp} : ∀ {ks : List (Key × V)} {kvs : List (D × D)}, (kvs.all fun p => p.1.gr && p.2.gr) = true → KvR K mu H ks kvs → KvR K mu' H ks kvs
  | _, _, _, .nil => .nil
  | _, _, g, @Paired.cons _ _ _ _ _ _ _ h t => by
    rw [List.all_cons, Bool.and_eq_true, Bool.and_eq_true] at g
    exact Paired.cons ⟨h.1, Rep.ground _ _ g.1.2 h.2⟩ (KvR.ground g.2 t)
theorem ObR.ground {K : PySem.W.Frag} {mu mu' : List Addr} {H : Hp} {a : Addr} {o : Ob} (g : o.gr = true) (h : ObR K mu H a o) : ObR K mu' H a o := by
  cases o with
  | lst ds => obtain ⟨xs, e, r⟩ := h; exact ⟨xs, e, RepL.ground _ _ g r⟩
  | dct kvs => obtain ⟨xs, e, r⟩ := h; exact ⟨xs, e, KvR.ground g r⟩
  | st _ => exact h

/-! ### places below a bound -/
mutual
def D.lo (n : Nat) : D → Bool
  | .tup xs => D.loL n xs
  | .fl xs => D.loL n xs
  | .ref l => decide (l < n)
  | _ => true
def D.loL (n : Nat) : List D → Bool
  | [] => true
  | x :: xs => D.lo n x && D.loL n xs
end
section
variable {K : PySem.W.Frag} {mu mu' : List Addr} {H H' : Hp} {m m' : M}
mutual
theorem Rep.lo : ∀ (d : D) (v : V), Rep K mu H v d → d.lo mu.length = true
  | .non, _, _ => rfl
  | .bl _, _, _ => rfl
  | .int _, _, _ => rfl
  | .str _, _, _ => rfl
  | .tup ds, _, h => by
    cases h with
    | tup h1 h2 => rw [D.lo]; exact RepL.lo ds _ h2
  | .fl ds, _, h => by
    cases h with
    | fl h1 h2 => rw [D.lo]; exact RepL.lo ds _ h2
  | .ref l, _, h => by
    cases h with
    | ref e => rw [D.lo]; exact decide_eq_true (List.getElem?_eq_some_iff.mp e).1
theorem RepL.lo : ∀ (ds : List D) (vs : List V), RepL K mu H vs ds → D.loL mu.length ds = true
  | [], _, _ => rfl
  | d :: ds, _, h => by
    cases h with
    | cons h1 h2 => rw [D.loL, Rep.lo d _ h1, RepL.lo ds _ h2]; rfl
end
mutual
theorem Rep.back (p : mu <+: mu') : ∀ (d : D) (v : V), d.lo mu.length = true → Rep K mu' H v d → Rep K mu H v d
  | .non, _, _, h => by cases h; exact .non
  | .bl _, _, _, h => by cases h; exact .bl _
  | .int _, _, _, h => by cases h; exact .int _
  | .str _, _, _, h => by cases h; exact .str _
  | .tup ds, _, g, h => by
    cases h with
    | tup h1 h2 => exact .tup h1 (RepL.back p ds _ (by simpa [D.lo] using g) h2)
  | .fl ds, _, g, h => by
    cases h with
    | fl h1 h2 => exact .fl h1 (RepL.back p ds _ (by simpa [D.lo] using g) h2)
  | .ref l, _, g, h => by
    have hl : l < mu.length := by simpa [D.lo] using g
    cases h with
    | ref e =>
      obtain ⟨t, rfl⟩ := p
      rw [List.getElem?_append_left hl] at e
      exact .ref e
theorem RepL.back (p : mu <+: mu') : ∀ (ds : List D) (vs : List V), D.loL mu.length ds = true → RepL K mu' H vs ds → RepL K mu H vs ds
  | [], _, _, h => by cases h; exact .nil
  | d :: ds, _, g, h => by
    rw [D.loL, Bool.and_eq_true] at g
    cases h with
    | cons h1 h2 => exact .cons (Rep.back p d _ g.1 h1) (RepL.back p ds _ g.2 h2)
end
theorem KvR.back (p : mu <+: mu') : ∀ {ks ks' : List (Key × V)} {kvs : List (D × D)}, KvR K mu H' ks' kvs → KvR K mu' H ks kvs → KvR K mu H ks kvs
  | _, _, _, .nil, .nil => .nil
  | _, _, _, .cons h t, .cons h' t' => .cons ⟨h'.1, Rep.back p _ _ (Rep.lo _ _ h.2) h'.2⟩ (KvR.back p t t')
theorem ObR.shift {a : Addr} {o : Ob} (h0 : HR K mu H m) (p : mu <+: mu') {l : Nat} (e0 : m[l]? = some o) (ha : mu[l]? = some a) (z : ObR K mu' H' a o) : ObR K mu H' a o := by
  cases o with
  | lst ds =>
    obtain ⟨xs, e, r⟩ := z
    obtain ⟨ys, e', r'⟩ := h0.ob l _ a e0 ha
    exact ⟨xs, e, RepL.back p ds xs (RepL.lo ds ys r') r⟩
  | dct kvs =>
    obtain ⟨xs, e, r⟩ := z
    obtain ⟨ys, e', r'⟩ := h0.ob l _ a e0 ha
    exact ⟨xs, e, KvR.back p r' r⟩
  | st _ => exact z
/-- what was made since is forgotten -/
theorem HR.drop (h0 : HR K mu H m) (p : mu <+: mu') (h : HR K mu' H' m') (hs : stb m m' = true) : HR K mu H' (m'.take m.length) := by
  obtain ⟨hl, hk⟩ := take_stb hs
  refine ⟨by rw [List.length_take, h0.len]; omega, h0.nd, fun l o a e1 e2 => ?_⟩
  have hlt : l < m.length := by rw [← h0.len]; exact (List.getElem?_eq_some_iff.mp e2).1
  rw [List.getElem?_take_of_lt hlt] at e1
  have z := h.ob l o a e1 (pre_get p e2)
  rcases hk l o hlt e1 with q | q
  · exact z.shift h0 p q e2
  · exact z.ground q
theorem norm_ok {d d' : D} {n' : M} {v : V} (h0 : HR K mu H m) (s : Stp mu H mu' H') (h : HR K mu' H' m') (r : Rep K mu' H' v d) (e : norm m (d, m') = (d', n')) :
    ∃ mu2, Stp mu H mu2 H' ∧ HR K mu2 H' n' ∧ Rep K mu2 H' v d' := by
  unfold norm at e
  dsimp only at e
  have same : (d, m') = (d', n') → ∃ mu2, Stp mu H mu2 H' ∧ HR K mu2 H' n' ∧ Rep K mu2 H' v d' := fun e => by
    cases e; exact ⟨mu', s, h, r⟩
  have sm : Stp mu H mu H' := ⟨List.prefix_refl _, fun _ z => .inl z, s.old⟩
  by_cases hs : stb m m' = true
  · rw [if_pos hs] at e
    have hd := HR.drop h0 s.pre h hs
    have gcase : d.gr = true → (d, m'.take m.length) = (d', n') → ∃ mu2, Stp mu H mu2 H' ∧ HR K mu2 H' n' ∧ Rep K mu2 H' v d' := fun g e => by
      cases e; exact ⟨mu, sm, hd, Rep.ground d v g r⟩
    cases d with
    | ref l =>
      dsimp only at e
      by_cases hl : l < m.length
      · rw [if_pos hl] at e
        cases e
        cases r with
        | ref q => exact ⟨mu, sm, hd, Rep.back s.pre (.ref l) _ (by simp [D.lo, h0.len, hl]) (.ref q)⟩
      · rw [if_neg hl] at e
        split at e
        · rename_i o eo
          split at e
          · rename_i g
            cases e
            cases r with
            | ref q =>
              rename_i a
              have z := h.ob l o a eo q
              obtain ⟨u, hu, _⟩ := z.at_some
              have hnew : a ∉ mu := fun ha => by
                obtain ⟨j, ej⟩ := List.mem_iff_getElem?.mp ha
                have := (List.getElem?_inj (List.getElem?_eq_some_iff.mp q).1 h.nd).mp (q.trans (pre_get s.pre ej).symm)
                subst this
                exact hl (by rw [← h0.len]; exact (List.getElem?_eq_some_iff.mp ej).1)
              refine ⟨mu ++ [a], ⟨List.prefix_append _ _, fun b hb => ?_, s.old⟩, ⟨?_, ?_, fun j u' b e1 e2 => ?_⟩, .ref (by rw [← h0.len]; exact add_get rfl a)⟩
              · rcases List.mem_append.mp hb with z | z
                · exact .inl z
                · have : b = a := by simpa using z
                  subst this
                  exact s.new b (List.mem_of_getElem? q)
              · rw [List.length_append, List.length_append, ← hd.len]; rfl
              · rw [List.nodup_append]
                refine ⟨h0.nd, by simp, fun x hx y hy => ?_⟩
                have : y = a := by simpa using hy
                subst this
                exact fun e => hnew (e ▸ hx)
              · have hlen : (m'.take m.length).length = m.length := by rw [← hd.len, h0.len]
                by_cases hj : j < m.length
                · rw [List.getElem?_append_left (by omega)] at e1
                  rw [List.getElem?_append_left (by rw [h0.len]; exact hj)] at e2
                  have z' := hd.ob j u' b e1 e2
                  cases u' with
                  | lst ds => obtain ⟨xs, e, r⟩ := z'; exact ⟨xs, e, RepL.keep (List.prefix_append _ _) (fun _ _ e _ => e) _ _ r⟩
                  | dct kvs => obtain ⟨xs, e, r⟩ := z'; exact ⟨xs, e, r.keep (List.prefix_append _ _) (fun _ _ e _ => e)⟩
                  | st _ => exact z'
                · have hj2 : j < (m'.take m.length ++ [o]).length := (List.getElem?_eq_some_iff.mp e1).1
                  have ej : j = m.length := by rw [List.length_append, hlen] at hj2; simp at hj2; omega
                  subst ej
                  rw [List.getElem?_append_right (by omega), hlen] at e1
                  rw [List.getElem?_append_right (by rw [h0.len]; omega), h0.len] at e2
                  simp at e1 e2
                  subst e1; subst e2
                  exact z.ground g
          · exact same e
        · exact same e
    | non => exact gcase rfl (by simpa [D.gr] using e)
    | bl b => exact gcase rfl (by simpa [D.gr] using e)
    | int b => exact gcase rfl (by simpa [D.gr] using e)
    | str b => exact gcase rfl (by simpa [D.gr] using e)
    | tup xs =>
      dsimp only at e
      by_cases g : (D.tup xs).gr = true
      · rw [if_pos g] at e; exact gcase g e
      · rw [if_neg g] at e; exact same e
    | fl xs =>
      dsimp only at e
      by_cases g : (D.fl xs).gr = true
      · rw [if_pos g] at e; exact gcase g e
      · rw [if_neg g] at e; exact same e
  · rw [if_neg hs] at e; exact same e
end
theorem norm_bl {m m1 m' : M} {d : D} {b : Bool} (e : norm m (d, m1) = (.bl b, m')) : d = .bl b := by
  unfold norm at e
  dsimp only at e
  split at e
  · split at e
    · split at e
      · cases e
      · split at e
        · split at e
          · cases e
          · cases e
        · cases e
    · split at e
      · cases e; rfl
      · cases e; rfl
  · cases e; rfl
section
variable {X : Cx}
theorem nrm_red {K : PySem.W.Frag} {f : ES} {st : L2.St} {H : Hp} {Q : VK} (q : tE K (nrm f) st H Q) : tE K f st H Q := by
  obtain ⟨mu, env, m, d, m', h, r, e, k⟩ := q
  unfold nrm at e
  cases q : f env m with
  | none => (rw [q] at e; cases e)
  | some p =>
    rw [q] at e
    obtain ⟨d1, m1⟩ := p
    have e' : norm m (d1, m1) = (d, m') := by simpa using e
    exact ⟨mu, env, m, d1, m1, h, r, q, fun v H' mu' s h' r' => by
      obtain ⟨mu2, s2, h2, r2⟩ := norm_ok h s h' r' e'
      exact k v H' mu2 s2 h2 r2⟩
theorem s_nrm {e : Expr} {f : ES} (h : SE X e f) : SE X e (nrm f) :=
  h.imp fun st H Q ⟨mu, env, m, d, m', h, r, e, k⟩ => by
    unfold nrm at e
    cases q : f env m with
    | none => (rw [q] at e; cases e)
    | some p =>
      rw [q] at e
      obtain ⟨d1, m1⟩ := p
      have e' : norm m (d1, m1) = (d, m') := by simpa using e
      exact ⟨mu, env, m, d1, m1, h, r, q, fun v H' mu' s h' r' => by
        obtain ⟨mu2, s2, h2, r2⟩ := norm_ok h s h' r' e'
        exact k v H' mu2 s2 h2 r2⟩
theorem t_nrm {e : Expr} {f : ES} (h : ST X e f) : ST X e (nrm f) :=
  h.imp fun st H Q ⟨mu, env, m, b, m', h, r, e, k⟩ => by
    unfold nrm at e
    cases q : f env m with
    | none => (rw [q] at e; cases e)
    | some p =>
      rw [q] at e
      obtain ⟨d1, m1⟩ := p
      have e' : norm m (d1, m1) = (.bl b, m') := by simpa using e
      have ed : d1 = .bl b := norm_bl e'
      subst ed
      exact ⟨mu, env, m, b, m1, h, r, q, fun H' mu' s h' => by
        obtain ⟨mu2, s2, h2, r2⟩ := norm_ok h s h' (Rep.bl (K := X.K) (mu := mu') (H := H') b) e'
        exact k H' mu2 s2 h2⟩
end
end Dm
end

section
set_option Elab.async false
set_option linter.all false
set_option maxRecDepth 100000
set_option maxHeartbeats 1100000
namespace Dm
open L2 PyProof.Rows PySem.Spec PySem

/-! ## targets -/
theorem wipe_set {st : L2.St} {x : Option V} : ∀ {vs : List Nat} {i : Nat}, i ∈ vs → L2.wipe (st.set i x) vs = L2.wipe st vs := by
  intro vs i hi
  have far : ∀ (vs : List Nat) (j : Nat), j ≠ i → (L2.wipe (st.set i x) vs)[j]? = (L2.wipe st vs)[j]? := by
    intro vs
    induction vs with
    | nil => intro j hj; show (st.set i x)[j]? = st[j]?; rw [List.getElem?_set_ne (Ne.symm hj)]
    | cons v vs ih =>
      intro j hj
      unfold L2.wipe
      by_cases hv : v = j
      · subst hv
        rw [List.getElem?_set, List.getElem?_set]
        simp only [if_pos]
        rw [wipe_length, wipe_length, List.length_set]
      · rw [List.getElem?_set_ne hv, List.getElem?_set_ne hv]
        exact ih j hj
  have near : ∀ (vs : List Nat), i ∈ vs → (L2.wipe (st.set i x) vs)[i]? = (L2.wipe st vs)[i]? := by
    intro vs
    induction vs with
    | nil => intro h; simp at h
    | cons v vs ih =>
      intro h
      unfold L2.wipe
      by_cases hv : v = i
      · subst hv
        rw [List.getElem?_set, List.getElem?_set]
        simp only [if_pos]
        rw [wipe_length, wipe_length, List.length_set]
      · rw [List.getElem?_set_ne hv, List.getElem?_set_ne hv]
        exact ih ((List.mem_cons.mp h).resolve_left fun z => hv z.symm)
  apply List.ext_getElem?
  intro j
  by_cases hj : j = i
  · subst hj; exact near vs hi
  · exact far vs j hj
structure TgK (K : PySem.W.Frag) (G : Tgt) (g : L2.TG) (sl : List Nat) : Prop where
  ok : ∀ mu H m env st x d e1 Q, HR K mu H m → EnvR K mu H env st → Rep K mu H x d → G d env = some e1 → (∀ st', EnvR K mu H e1 st' → Q st' H) → g x st H Q
  mono : ∀ x st H (Q Q' : L2.St → Hp → Prop), (∀ st H, Q st H → Q' st H) → g x st H Q → g x st H Q'
  wp : ∀ x st H Q vs, (∀ i ∈ sl, i ∈ vs) → g x st H Q → g x st H (fun st2 H2 => L2.wipe st2 vs = L2.wipe st vs ∧ Q st2 H2)
structure TgsK (K : PySem.W.Frag) (G : List Tgt) (g : L2.TGs) (sl : List Nat) : Prop where
  ok : ∀ mu H m env st xs ds e1 Q, HR K mu H m → EnvR K mu H env st → RepL K mu H xs ds → tAll G ds env = some e1 → (∀ st', EnvR K mu H e1 st' → Q st' H) → g xs st H Q
  mono : ∀ x st H (Q Q' : L2.St → Hp → Prop), (∀ st H, Q st H → Q' st H) → g x st H Q → g x st H Q'
  wp : ∀ x st H Q vs, (∀ i ∈ sl, i ∈ vs) → g x st H Q → g x st H (fun st2 H2 => L2.wipe st2 vs = L2.wipe st vs ∧ Q st2 H2)
theorem tAll_len : ∀ {G : List Tgt} {ds : List D} {env e : Env}, tAll G ds env = some e → ds.length = G.length
  | [], [], _, _, _ => rfl
  | _ :: _, [], _, _, h => by simp [tAll] at h
  | [], _ :: _, _, _, h => by simp [tAll] at h
  | t :: ts, d :: ds, env, e, h => by
    rw [tAll] at h
    split at h
    · rw [List.length_cons, List.length_cons, tAll_len h]
    · cases h
section
variable {K : PySem.W.Frag}
theorem k_name {i : Nat} : TgK K (tName i) (gName i) [i] where
  ok := fun mu H m env st x d e1 Q h r z e k => by
    unfold tName at e
    cases e
    exact k _ (r.set i z)
  mono := fun x st H Q Q' k h => k _ _ h
  wp := fun x st H Q vs hs h => ⟨wipe_set (hs i (by simp)), h⟩
theorem ks_nil : TgsK K [] gNil [] where
  ok := fun mu H m env st xs ds e1 Q h r z e k => by
    cases ds with
    | nil => cases z; cases e; exact ⟨rfl, k _ r⟩
    | cons _ _ => simp [tAll] at e
  mono := fun x st H Q Q' k h => ⟨h.1, k _ _ h.2⟩
  wp := fun x st H Q vs _ h => ⟨h.1, rfl, h.2⟩
theorem ks_cons {G : Tgt} {Gs : List Tgt} {g : L2.TG} {gs : L2.TGs} {sl sls : List Nat} (h1 : TgK K G g sl) (h2 : TgsK K Gs gs sls) : TgsK K (G :: Gs) (gCons g gs) (sl ++ sls) where
  ok := fun mu H m env st xs ds e1 Q h r z e k => by
    cases ds with
    | nil => simp [tAll] at e
    | cons d ds =>
      rw [tAll] at e
      split at e
      · rename_i env1 e0
        cases z with
        | cons z1 z2 =>
          exact ⟨_, _, rfl, h1.ok mu H m env st _ d env1 _ h r z1 e0 fun st1 r1 => h2.ok mu H m env1 st1 _ ds e1 Q h r1 z2 e k⟩
      · cases e
  mono := fun x st H Q Q' k ⟨v, r, e, h⟩ => ⟨v, r, e, h1.mono _ _ _ _ _ (fun st1 H1 q => h2.mono _ _ _ _ _ k q) h⟩
  wp := fun x st H Q vs hs ⟨v, r, e, h⟩ => ⟨v, r, e, h1.mono _ _ _ _ _ (fun st1 H1 q => h2.mono _ _ _ _ _ (fun st2 H2 q2 => ⟨q2.1.trans q.1, q2.2⟩) (h2.wp _ _ _ _ vs (fun i hi => hs i (List.mem_append_right _ hi)) q.2)) (h1.wp _ _ _ _ vs (fun i hi => hs i (List.mem_append_left _ hi)) h)⟩
theorem k_tup {G : List Tgt} {g : L2.TGs} {sl : List Nat} {n : Nat} (h : TgsK K G g sl) (hG : G.length = n) : TgK K (tTup G) (gTup K n g) sl where
  ok := fun mu H m env st x d e1 Q hr r z e kk => by
    unfold tTup at e
    split at e
    · rename_i ds
      cases z with
      | tup z1 z2 => exact ⟨_, _, rfl, z1, by rw [z2.length, tAll_len e, hG], h.ok mu H m env st _ ds e1 Q hr r z2 e kk⟩
    · cases e
  mono := fun x st H Q Q' k ⟨a, xs, e, z, l, h'⟩ => ⟨a, xs, e, z, l, h.mono _ _ _ _ _ k h'⟩
  wp := fun x st H Q vs hs ⟨a, xs, e, z, l, h'⟩ => ⟨a, xs, e, z, l, h.wp _ _ _ _ vs hs h'⟩
end
section
variable {X : Cx} {pos : Pos}
/-! ## statements -/
theorem b_nil : SBlk X [] sNil := pss_nil.imp fun E st H ⟨mu, env, m, o, m', h, r, e, k⟩ => by cases e; exact k H mu (Stp.refl _ _) h st r
theorem b_one {s : Stmt} {f : SS} (h : SStm X s f) : SBlk X [s] f := pss_one h
theorem b_cons {s : Stmt} {rest : List Stmt} {f g : SS} (h1 : SStm X s f) (h2 : SBlk X rest g) : SBlk X (s :: rest) (sSeq f g) :=
  (pss_cons h1 h2).imp fun E st H ⟨mu, env, m, o, m', h, r, e, k⟩ => by
    unfold sSeq at e
    split at e
    · rename_i e1 m1 q
      exact ⟨mu, env, m, .nx e1, m1, h, r, q, fun H1 mu1 s1 h1 st1 r1 => ⟨mu1, e1, m1, o, m', h1, r1, e, fun H' mu' s' h' => k H' mu' (s1.trans s') h'⟩⟩
    · rename_i q
      refine ⟨mu, env, m, o, m', h, r, e, fun H1 mu1 s1 h1 => ?_⟩
      have z := k H1 mu1 s1 h1
      cases o with
      | nx e1 => exact absurd e (q e1 m')
      | rt d => exact z
      | bk e1 => exact z
      | ct e1 => exact z
theorem s_expr {e : Expr} {f : ES} (he : SE X e f) (hs : swapsWith e none pos.line X.env = pure false := by rfl) : SStm X (.Expr e pos) (sExpr f) :=
  (ps_expr he hs).imp fun E st H ⟨mu, env, m, o, m', h, r, e, k⟩ => by
    unfold sExpr at e
    split at e
    · rename_i d m1 q
      cases e
      exact ⟨mu, env, m, d, _, h, r, q, fun v H1 mu1 s1 h1 _ => k H1 mu1 s1 h1 st (r.step s1 h)⟩
    · cases e
theorem s_ret {e : Expr} {f : ES} (he : SE X e f) : SStm X (.Return (some e) pos) (sRet f) :=
  (ps_ret he).imp fun E st H ⟨mu, env, m, o, m', h, r, e, k⟩ => by
    unfold sRet at e
    split at e
    · rename_i d m1 q
      cases e
      exact ⟨mu, env, m, d, _, h, r, q, fun v H1 mu1 s1 h1 r1 => k H1 mu1 s1 h1 v r1⟩
    · cases e
theorem s_brk : SStm X (.Break pos) sBrk := ps_break.imp fun E st H ⟨mu, env, m, o, m', h, r, e, k⟩ => by cases e; exact k H mu (Stp.refl _ _) h st r
theorem s_cnt : SStm X (.Continue pos) sCnt := ps_continue.imp fun E st H ⟨mu, env, m, o, m', h, r, e, k⟩ => by cases e; exact k H mu (Stp.refl _ _) h st r
theorem s_ifS {c : Expr} {a b : List Stmt} {t : ES} {f g : SS} (hc : ST X c t) (ha : SBlk X a f) (hb : SBlk X b g) : SStm X (.If c a b pos) (sIf t f g) :=
  (ps_if hc ha hb).imp fun E st H ⟨mu, env, m, o, m', h, r, e, k⟩ => by
    unfold sIf at e
    split at e
    · rename_i m1 q
      exact ⟨mu, env, m, true, m1, h, r, q, fun H1 mu1 s1 h1 => iteT ⟨mu1, env, m1, o, m', h1, r.step s1 h, e, fun H' mu' s2 h2 => k H' mu' (s1.trans s2) h2⟩⟩
    · rename_i m1 q
      exact ⟨mu, env, m, false, m1, h, r, q, fun H1 mu1 s1 h1 => iteF ⟨mu1, env, m1, o, m', h1, r.step s1 h, e, fun H' mu' s2 h2 => k H' mu' (s1.trans s2) h2⟩⟩
    · cases e
theorem asg_red' {K : PySem.W.Frag} {f : ES} {G : Tgt} {g : L2.TG} {sl : List Nat} (hg : TgK K G g sl) {E : Ends} {st : L2.St} {H : Hp} (q : tS K (sAsg G f) E st H) : tAsg (tE K f) g E st H := by
  obtain ⟨mu, env, m, o, m', h, r, e, k⟩ := q
  unfold sAsg at e
  split at e
  · rename_i d m1 q
    split at e
    · rename_i e1 q1
      cases e
      exact ⟨mu, env, m, d, _, h, r, q, fun v H1 mu1 s1 h1 r1 => hg.ok mu1 H1 _ env st v d e1 _ h1 (r.step s1 h) r1 q1 fun st' r' => k H1 mu1 s1 h1 st' r'⟩
    · cases e
  · cases e
theorem s_asg {t e : Expr} {f : ES} {G : Tgt} {g : L2.TG} {sl : List Nat} (he : SE X e f) (tk : TgK X.K G g sl) (hg : PG X t g) (hs : swapsWithSole [t] e pos.line X.env = pure false := by rfl) (hw : swappedStores [t] e X.env = pure none := by rfl)
    (h1 : (assignEach [t] X.env).map (·.2) = [assign t X.env] := by rfl) : SStm X (.Assign [t] e pos) (sAsg G f) :=
  (ps_asg he hg hs hw h1).imp fun E st H q => asg_red' tk q
/-- o[i] = e -/
def SeK (K : PySem.W.Frag) (t : TSet) : Prop := ∀ mu H m x y v a b d m' Q, HR K mu H m → Rep K mu H x a → Rep K mu H y b → Rep K mu H v d → putAt a b d m = some m' →
  (∀ H' mu', Stp mu H mu' H' → HR K mu' H' m' → Q H') → t x y v H Q
theorem s_sub {o i e : Expr} {fo fi f : ES} {t : TSet} {pos2 : Pos} (he : SE X e f) (ho : SE X o fo) (hi : SE X i fi) (hs : PSet X t) (hk : SeK X.K t) (ha : ∀ v, assign (.Subscript o i pos) X.env v = (do
      let ov ← (holding [v] (eval o X.env))
      let iv ← (holding [v, ov] (eval i X.env))
      standAt pos
      (holding [v, ov, iv] (setItem ov iv v))
      release [v, ov, iv] []) := by intro _; rfl)
    (hs1 : swapsWithSole [.Subscript o i pos] e pos2.line X.env = pure false := by rfl) (hw : swappedStores [.Subscript o i pos] e X.env = pure none := by rfl)
    (h1 : (assignEach [.Subscript o i pos] X.env).map (·.2) = [assign (.Subscript o i pos) X.env] := by rfl) : SStm X (.Assign [.Subscript o i pos] e pos2) (sSub fo fi f) :=
  (ps_asg he (pg_sub ho hi hs ha) hs1 hw h1).imp fun E st H ⟨mu, env, m, out, m', h, r, e, k⟩ => by
    unfold sSub at e
    split at e
    · rename_i v m1 e1
      split at e
      · rename_i x m2 e2
        split at e
        · rename_i y m3 e3
          cases q : putAt x y v m3 with
          | none => (rw [q] at e; cases e)
          | some m4 =>
            rw [q] at e
            cases e
            exact ⟨mu, env, m, v, m1, h, r, e1, fun vv H1 mu1 s1 h1 r1 => ⟨mu1, env, m1, x, m2, h1, r.step s1 h, e2, fun vx H2 mu2 s2 h2 r2 => ⟨mu2, env, m2, y, m3, h2, (r.step s1 h).step s2 h1, e3, fun vy H3 mu3 s3 h3 r3 =>
              hk mu3 H3 m3 vx vy vv x y v _ _ h3 (r2.step s3 h2) r3 ((r1.step s2 h1).step s3 h2) q fun H' mu' s4 h4 => k H' mu' (s1.trans (s2.trans (s3.trans s4))) h4 st ((((r.step s1 h).step s2 h1).step s3 h2).step s4 h3)⟩⟩⟩
        · cases e
      · cases e
    · cases e

/-! ## loops -/
theorem forGo_nil {gd : Gd} {tg : Tgt} {body : SS} {env : Env} {m : M} {r : Out × M} (h : forGo gd tg body [] env m = some r) : gdOk gd m = true ∧ r = (.nx env, m) := by
  unfold forGo at h
  split at h
  · cases h; exact ⟨by assumption, rfl⟩
  · cases h
theorem s_for {tg iter : Expr} {body : List Stmt} {f : IS} {G : Tgt} {g : L2.TG} {sl : List Nat} {b : SS} (hp : PassesOwn (model X.prog X.w) X.A X.env X.xe) (hc : X.calm = true) (hi : SI X tg iter f) (tk : TgK X.K G g sl) (hg : PG X tg g) (hb : SBlk X body b)
    (hs : ∀ x, foldedSetIterable iter X.env x = pure x := by intro _; rfl) : SStm X (.For tg iter body [] pos) (sFor f G b) :=
  (ps_for hp hc hi hg hb hs).imp fun E st H ⟨mu, env, m, o, m', h, r, e, k⟩ => by
    unfold sFor at e
    split at e
    · rename_i ds gd m1 e1
      refine ⟨mu, env, m, ds, gd, m1, h, r, e1, fun J H1 mu1 s1 h1 it => ?_⟩
      refine ⟨fun i n st2 H2 => ∃ mu2 env2 m2, Stp mu1 H1 mu2 H2 ∧ HR X.K mu2 H2 m2 ∧ EnvR X.K mu2 H2 env2 st2 ∧ i ≤ ds.length ∧ n = ds.length - i ∧ forGo gd G b (ds.drop i) env2 m2 = some (o, m'),
        ⟨_, mu1, env, m1, Stp.refl _ _, h1, r.step s1 h, Nat.zero_le _, rfl, e⟩, ?_⟩
      rintro i n st2 H2 ⟨mu2, env2, m2, s2, h2, r2, hi, rfl, e2⟩
      by_cases hlt : i < ds.length
      · right
        have ed : ds.drop i = ds[i] :: ds.drop (i + 1) := List.drop_eq_getElem_cons hlt
        rw [ed] at e2
        unfold forGo at e2
        split at e2
        · rename_i hgd
          obtain ⟨go, yl⟩ := (it i mu2 H2 m2 s2.pre (s2.keep h1) h2 hgd).1 ds[i] (List.getElem?_eq_getElem hlt)
          refine ⟨go, fun st3 H3 => ∃ mu3 env3 m3, Stp mu1 H1 mu3 H3 ∧ HR X.K mu3 H3 m3 ∧ EnvR X.K mu3 H3 env3 st3 ∧ i + 1 ≤ ds.length ∧ forGo gd G b (ds.drop (i + 1)) env3 m3 = some (o, m'),
            fun st3 H3 ⟨mu3, env3, m3, a1, a2, a3, a4, a5⟩ => ⟨_, by omega, mu3, env3, m3, a1, a2, a3, a4, rfl, a5⟩, fun x H3 hy => ?_⟩
          obtain ⟨mu3, s3, h3, rx, _⟩ := yl x H3 hy
          split at e2
          · rename_i env3 eg
            refine tk.ok mu3 H3 m2 env2 st2 x ds[i] env3 _ h3 (r2.step s3 h2) rx eg fun st4 r4 => ?_
            split at e2
            · rename_i e5 m5 eb
              exact ⟨mu3, env3, m2, _, m5, h3, r4, eb, fun H5 mu5 s5 h5 st5 r5 => ⟨mu5, e5, m5, (s2.trans s3).trans s5, h5, r5, hlt, e2⟩⟩
            · rename_i e5 m5 eb
              exact ⟨mu3, env3, m2, _, m5, h3, r4, eb, fun H5 mu5 s5 h5 st5 r5 => ⟨mu5, e5, m5, (s2.trans s3).trans s5, h5, r5, hlt, e2⟩⟩
            · rename_i e5 m5 eb
              cases e2
              exact ⟨mu3, env3, m2, _, _, h3, r4, eb, fun H5 mu5 s5 h5 st5 r5 => k H5 mu5 (s1.trans ((s2.trans s3).trans s5)) h5 st5 r5⟩
            · rename_i d5 m5 eb
              cases e2
              exact ⟨mu3, env3, m2, _, _, h3, r4, eb, fun H5 mu5 s5 h5 v r5 => k H5 mu5 (s1.trans ((s2.trans s3).trans s5)) h5 v r5⟩
            · cases e2
          · cases e2
        · cases e2
      · left
        have ei : i = ds.length := by omega
        have ed : ds.drop i = [] := List.drop_eq_nil_of_le (by omega)
        rw [ed] at e2
        obtain ⟨hgd, e3⟩ := forGo_nil e2
        cases e3
        exact ⟨(it i mu2 H2 _ s2.pre (s2.keep h1) h2 hgd).2 ei, k H2 mu2 (s1.trans s2) h2 st2 r2⟩
    · cases e
theorem s_while {c : Expr} {body : List Stmt} {t : ES} {b : SS} (hp : PassesOwn (model X.prog X.w) X.A X.env X.xe) (hc : ST X c t) (hb : SBlk X body b) : SStm X (.While c body [] pos) (sWhile t b) :=
  (ps_while hp hc hb).imp fun E st H ⟨mu, env, m, o, m', h, r, e, k⟩ => by
    unfold sWhile at e
    refine ⟨fun n st2 H2 => ∃ mu2 env2 m2, Stp mu H mu2 H2 ∧ HR X.K mu2 H2 m2 ∧ EnvR X.K mu2 H2 env2 st2 ∧ whGo t b n env2 m2 = some (o, m'), ⟨_, mu, env, m, Stp.refl _ _, h, r, e⟩, ?_⟩
    rintro n st2 H2 ⟨mu2, env2, m2, s2, h2, r2, e2⟩
    cases n with
    | zero => unfold whGo at e2; cases e2
    | succ n =>
      unfold whGo at e2
      split at e2
      · rename_i m3 e3
        refine ⟨mu2, env2, m2, true, m3, h2, r2, e3, fun H3 mu3 s3 h3 => iteT ⟨fun st4 H4 => ∃ mu4 env4 m4, Stp mu H mu4 H4 ∧ HR X.K mu4 H4 m4 ∧ EnvR X.K mu4 H4 env4 st4 ∧ whGo t b n env4 m4 = some (o, m'),
          fun st4 H4 z => ⟨n, Nat.lt_succ_self n, z⟩, ?_⟩⟩
        split at e2
        · rename_i e5 m5 eb
          exact ⟨mu3, env2, m3, _, m5, h3, r2.step s3 h2, eb, fun H5 mu5 s5 h5 st5 r5 => ⟨mu5, e5, m5, (s2.trans s3).trans s5, h5, r5, e2⟩⟩
        · rename_i e5 m5 eb
          exact ⟨mu3, env2, m3, _, m5, h3, r2.step s3 h2, eb, fun H5 mu5 s5 h5 st5 r5 => ⟨mu5, e5, m5, (s2.trans s3).trans s5, h5, r5, e2⟩⟩
        · rename_i e5 m5 eb
          cases e2
          exact ⟨mu3, env2, m3, _, _, h3, r2.step s3 h2, eb, fun H5 mu5 s5 h5 st5 r5 => k H5 mu5 ((s2.trans s3).trans s5) h5 st5 r5⟩
        · rename_i d5 m5 eb
          cases e2
          exact ⟨mu3, env2, m3, _, _, h3, r2.step s3 h2, eb, fun H5 mu5 s5 h5 v r5 => k H5 mu5 ((s2.trans s3).trans s5) h5 v r5⟩
        · cases e2
      · rename_i m3 e3
        cases e2
        exact ⟨mu2, env2, m2, false, _, h2, r2, e3, fun H3 mu3 s3 h3 => iteF (k H3 mu3 (s2.trans s3) h3 st2 (r2.step s3 h2))⟩
      · cases e2
end

/-! ## defs -/
theorem rep_start {K : PySem.W.Frag} {mu : List Addr} {H : Hp} {vs : List V} {ds : List D} (r : RepL K mu H vs ds) (N : List Str) (k : Nat) (hk : N.length - vs.length = k) : EnvR K mu H (ds.map some ++ List.replicate k none) (L2.start N vs) := by
  have hl := r.length
  unfold L2.start
  refine ⟨by rw [List.length_append, List.length_append, List.length_map, List.length_map, List.length_replicate, List.length_replicate]; omega, fun i d e => ?_⟩
  by_cases hi : i < ds.length
  · rw [List.getElem?_append_left (by simpa using hi), List.getElem?_map] at e
    cases q : ds[i]? with
    | none => (rw [q] at e; cases e)
    | some d' =>
      rw [q] at e
      cases e
      obtain ⟨v, hv, rv⟩ := r.get q
      refine ⟨v, ?_, rv⟩
      rw [List.getElem?_append_left (by rw [List.length_map, hl]; exact hi), List.getElem?_map, hv]; rfl
  · rw [List.getElem?_append_right (by simpa using hi), List.getElem?_replicate] at e
    split at e <;> cases e
section
variable {w : World} {P : Program} {K : PySem.W.Frag} {mg : Str → Option Value} {base : Heap}
/-- a def keeps the promise of its meaning -/
theorem f_ok {x qual : Str} {st : Stmt} {fa : Addr} {fd : FuncData} {N ps : List Str} {k n j : Nat} {b : SS} (F : Fun K x qual st fa fd) (S : FnScope N ps (defScope st)) (hn : ps.length = n) (hj : N.length - n = j)
    (hbody : ∀ (cdv : Value) (A : Around) (outer : List PySem.Env) (s : Shared) (H : Hp) (E : XK), Room k (A.deeper (envOfC qual (defScope st) s.heap.objs.size fa cdv)) →
      SBlk (cxOf CX0 P w K mg base N qual (defScope st) fa cdv A outer s H E).nox (defBody st) b) :
    FnOk P w K mg base CX0 (k + 1) fa fd ps (spF K n (fnS n j b)) := by
  refine F.ok S (fun vs H Q E h => by rw [h.1, hn]) fun cdv A outer s H vs Q E hr hsp => ?_
  obtain ⟨hvl, mu, m, ds, d, m', h, r, e, kk⟩ := hsp
  refine ⟨_, hbody cdv A outer s H E hr, ?_⟩
  unfold fnS at e
  split at e
  · rename_i hl
    split at e
    · rename_i d1 m1 e1
      have e' := Option.some.inj e
      refine ⟨mu, _, m, _, m1, h, rep_start r N j (by rw [hvl, hj]), e1, fun H' mu' s' h' v r' => ?_⟩
      obtain ⟨mu2, s2, h2, r2⟩ := norm_ok h s' h' r' e'
      exact kk v H' mu2 s2 h2 r2
    · rename_i e0 m1 e1
      have e' := Option.some.inj e
      refine ⟨mu, _, m, _, m1, h, rep_start r N j (by rw [hvl, hj]), e1, fun H' mu' s' h' st' r' => ?_⟩
      obtain ⟨mu2, s2, h2, r2⟩ := norm_ok h s' h' (Rep.non (K := K) (mu := mu') (H := H')) e'
      exact kk .non H' mu2 s2 h2 r2
    · cases e
  · cases e
end
end Dm
end

section
set_option Elab.async false
set_option linter.all false
set_option maxRecDepth 100000
set_option maxHeartbeats 1100000
namespace Dm
open L2 PyProof.Rows PySem.Spec PySem

/-! ## walks -/
theorem gd_at {gd : Gd} {m : M} (h : gdOk gd m = true) {l : Nat} {o : Ob} (hm : (l, o) ∈ gd) : m[l]? = some o := of_decide_eq_true (List.all_eq_true.mp h (l, o) hm)
/-- a list or a tuple, frozen or not -/
theorem pi_seq {X : Cx} {tg l : Expr} {tl : TE} (hl : PE X l tl) : PI X tg l (fun st H R => tl st H fun x H1 => (∃ a, x = .ref a ∧ (∃ xs, SqL X.K H1 a xs) ∧ R (Itl X.K a) H1) ∨ ∃ a, x = .ref a ∧ (∃ xs, SqT X.K H1 a xs) ∧ R (Itt X.K a) H1) := by
  (refine ⟨fun pins s σ H R I h => ?_⟩)
  (refine thn (hl.run pins s σ H _ I h) fun v s1 ⟨x, H1, I1, r1, q1⟩ => ?_)
  rcases q1 with ⟨a, e, ⟨xs, hq⟩, q⟩ | ⟨a, e, ⟨xs, hq⟩, q⟩
  · subst e
    cases r1
    (obtain ⟨its, rv, p, hz⟩ := I1.list hq)
    (refine wpAny_pyIter_list p.isList ?_)
    (refine ⟨s1.heap.objs.size, [s1.heap.objs.size], _, _, H1, rfl, I1.kept (t' := s1.toks) fun b o e => Heap.get?_push_of_some _ e, turn_list a _, ⟨_, Heap.get?_push_size _ rfl, rfl, rfl⟩, fun b hb => ?_, q⟩)
    (have e : b = s1.heap.objs.size := by simpa using hb)
    subst e
    (exact I1.fpOk (Nat.le_refl _) (I1.hok.fresh (Nat.le_refl _)))
  · subst e
    cases r1
    (obtain ⟨its, rv, p, hz⟩ := I1.tuple hq)
    (refine wpAny_pyIter_tuple (show s1.heap.IsTuple a its.toArray from p) ?_)
    (refine ⟨s1.heap.objs.size, [s1.heap.objs.size], _, _, H1, rfl, I1.kept (t' := s1.toks) fun b o e => Heap.get?_push_of_some _ e, turn_tuple a _, ⟨_, Heap.get?_push_size _ rfl, rfl, rfl⟩, fun b hb => ?_, q⟩)
    (have e : b = s1.heap.objs.size := by simpa using hb)
    subst e
    (exact I1.fpOk (Nat.le_refl _) (I1.hok.fresh (Nat.le_refl _)))
section
variable {K : PySem.W.Frag} {mu : List Addr} {H : Hp} {m : M}
theorem it_list {a : Addr} {l : Nat} {ds : List D} (ha : mu[l]? = some a) : ItR K (Itl K a) [(l, .lst ds)] ds mu H := by
  intro i mu2 H2 m2 p2 k2 h2 hg
  have e := gd_at hg (l := l) (o := .lst ds) (by simp)
  obtain ⟨xs, ex, rx⟩ := h2.ob l _ a e (pre_get p2 ha)
  refine ⟨fun d hd => ?_, fun hi => ⟨xs, SqL.of ex, by rw [rx.length, hi]; exact Nat.le_refl _⟩⟩
  obtain ⟨v, hv, rv⟩ := rx.get hd
  refine ⟨⟨xs, v, SqL.of ex, hv⟩, fun x H' hy => ?_⟩
  obtain ⟨rfl, hy⟩ := hy
  have : some x = some v := (hy xs (SqL.of ex)).symm.trans hv
  cases this
  exact ⟨mu2, Stp.refl _ _, h2, rv, rfl⟩
theorem it_fl {a : Addr} {xs : List V} {ds : List D} (h0 : HR K mu H m) (hz : FzL K H a xs) (rx : RepL K mu H xs ds) : ItR K (Itl K a) [] ds mu H := by
  intro i mu2 H2 m2 p2 k2 h2 hg
  have hz2 := (hz.keep k2).sq
  have rx2 := RepL.keep p2 k2 _ _ rx
  refine ⟨fun d hd => ?_, fun hi => ⟨xs, hz2, by rw [rx.length, hi]; exact Nat.le_refl _⟩⟩
  obtain ⟨v, hv, rv⟩ := rx2.get hd
  refine ⟨⟨xs, v, hz2, hv⟩, fun x H' hy => ?_⟩
  obtain ⟨rfl, hy⟩ := hy
  have : some x = some v := (hy xs hz2).symm.trans hv
  cases this
  exact ⟨mu2, Stp.refl _ _, h2, rv, rfl⟩
theorem it_tup {a : Addr} {xs : List V} {ds : List D} (h0 : HR K mu H m) (hz : SqT K H a xs) (rx : RepL K mu H xs ds) : ItR K (Itt K a) [] ds mu H := by
  intro i mu2 H2 m2 p2 k2 h2 hg
  have hz2 := sqt_keep hz k2
  have rx2 := RepL.keep p2 k2 _ _ rx
  refine ⟨fun d hd => ?_, fun hi => ⟨xs, hz2, by rw [rx.length, hi]; exact Nat.le_refl _⟩⟩
  obtain ⟨v, hv, rv⟩ := rx2.get hd
  refine ⟨⟨xs, v, hz2, hv⟩, fun x H' hy => ?_⟩
  obtain ⟨rfl, hy⟩ := hy
  have : some x = some v := (hy xs hz2).symm.trans hv
  cases this
  exact ⟨mu2, Stp.refl _ _, h2, rv, rfl⟩
theorem rng_get {lo hi : Int} {i : Nat} {d : D} (h : (rng lo hi)[i]? = some d) : i < (hi - lo).toNat ∧ d = .int (lo + (i : Nat)) := by
  unfold rng at h
  rw [List.getElem?_map] at h
  by_cases hl : i < (hi - lo).toNat
  · rw [List.getElem?_range hl] at h
    cases h
    exact ⟨hl, rfl⟩
  · rw [List.getElem?_eq_none (by simpa using hl)] at h
    cases h
theorem rng_len (lo hi : Int) : (rng lo hi).length = (hi - lo).toNat := by unfold rng; rw [List.length_map, List.length_range]
theorem it_rng {lo hi : Int} : ItR K (Itr lo (hi - lo).toNat) [] (rng lo hi) mu H := by
  intro i mu2 H2 m2 p2 k2 h2 hg
  refine ⟨fun d hd => ?_, fun hi => by rw [rng_len] at hi; exact Nat.le_of_eq hi.symm⟩
  obtain ⟨hl, rfl⟩ := rng_get hd
  refine ⟨hl, fun x H' hy => ?_⟩
  obtain ⟨rfl, rfl⟩ := hy
  exact ⟨mu2, Stp.refl _ _, h2, .int _, rfl⟩
end
section
variable {X : Cx} {tg : Expr} {pos : Pos}
theorem i_seq {e : Expr} {f : ES} (he : SE X e f) : SI X tg e (iSeq f) :=
  (pi_seq he).imp fun st H R ⟨mu, env, m, ds, gd, m', h, r, e, k⟩ => by
    unfold iSeq at e
    split at e
    · rename_i d m1 e1
      cases q : seqG m1 d with
      | none => (rw [q] at e; cases e)
      | some p =>
        rw [q] at e
        cases e
        refine ⟨mu, env, m, d, _, h, r, e1, fun v H1 mu1 s1 h1 r1 => ?_⟩
        cases d with
        | tup xs =>
          cases q
          cases r1 with
          | tup z1 z2 => exact .inr ⟨_, rfl, ⟨_, z1⟩, k _ H1 mu1 s1 h1 (it_tup h1 z1 z2)⟩
        | fl xs =>
          cases q
          cases r1 with
          | fl z1 z2 => exact .inl ⟨_, rfl, ⟨_, z1.sq⟩, k _ H1 mu1 s1 h1 (it_fl h1 z1 z2)⟩
        | ref l =>
          unfold seqG at q
          dsimp only at q
          split at q
          · rename_i xs ex
            cases q
            cases r1 with
            | ref z =>
              obtain ⟨vs, ev, _⟩ := (show ObR X.K mu1 H1 _ (.lst xs) from h1.ob l _ _ ex z)
              exact .inl ⟨_, rfl, ⟨_, SqL.of ev⟩, k _ H1 mu1 s1 h1 (it_list z)⟩
          · cases q
        | _ => cases q
    · cases e
theorem p62_eq : p62 = 2 ^ 62 := by decide
theorem i_rng1 {a : Expr} {f : ES} {p : Pos} (hg : Gl X "range") (hm : X.mg "range" = none) (ha : SE X a f) (hs : starEach [a] X.env = [(false, eval a X.env)] := by rfl) : SI X tg (.Call (.Name "range" p) [a] [] pos) (iRng1 f) :=
  (pi_range1 hg hm (sa_cons ha sa_nil hs) hs).imp fun st H R ⟨mu, env, m, ds, gd, m', h, r, e, k⟩ => by
    unfold iRng1 at e
    split at e
    · rename_i j m1 e1
      split at e
      · rename_i hb
        cases e
        rw [p62_eq] at hb
        refine ⟨mu, env, m, [.int j], m', h, r, by simp only [aCons, e1, aNil], fun vs H1 mu1 s1 h1 r1 => ⟨j, ?_, hb.1, hb.2, ?_⟩⟩
        · cases r1 with
          | cons z1 z2 => cases z1; cases z2; rfl
        · have q := k (Itr 0 (j - 0).toNat) H1 mu1 s1 h1 it_rng
          rwa [Int.sub_zero] at q
      · cases e
    · cases e
theorem i_rng2 {a b : Expr} {f g : ES} {p : Pos} (hg : Gl X "range") (hm : X.mg "range" = none) (ha : SE X a f) (hb : SE X b g) (hs : starEach [a, b] X.env = [(false, eval a X.env), (false, eval b X.env)] := by rfl) (hs2 : starEach [b] X.env = [(false, eval b X.env)] := by rfl) : SI X tg (.Call (.Name "range" p) [a, b] [] pos) (iRng2 f g) :=
  (pi_range2 hg hm (sa_cons ha (sa_cons hb sa_nil hs2) (by rw [hs, hs2])) hs hs2).imp fun st H R ⟨mu, env, m, ds, gd, m', h, r, e, k⟩ => by
    unfold iRng2 at e
    split at e
    · rename_i i m1 e1
      split at e
      · rename_i j m2 e2
        split at e
        · rename_i hb
          cases e
          rw [p62_eq] at hb
          refine ⟨mu, env, m, [.int i, .int j], _, h, r, by simp only [aCons, e1, e2, aNil], fun vs H1 mu1 s1 h1 r1 => ⟨i, j, ?_, hb, k _ H1 mu1 s1 h1 it_rng⟩⟩
          cases r1 with
          | cons z1 z2 =>
            cases z1
            cases z2 with
            | cons z1 z2 => cases z1; cases z2; rfl
        · cases e
      · cases e
    · cases e

/-! ## comprehensions -/
theorem lcGo_nil {gd : Gd} {tg : Tgt} {tt elt : ES} {env : Env} {acc : List D} {m : M} {r : List D × M} (h : lcGo gd tg tt elt env [] acc m = some r) : gdOk gd m = true ∧ r = (acc, m) := by
  unfold lcGo at h
  split at h
  · cases h; exact ⟨by assumption, rfl⟩
  · cases h
theorem keep_but {H : Hp} {D : Addr} {xs : List V} {o : HO} (h : H D = some (.lst xs)) : Keep H (L2.upd H D o) := fun a u e p => by
  rw [upd_ne]; exact e
  intro z; subst z
  rw [h] at e; cases e
  cases p
theorem HR.other {K : PySem.W.Frag} {mu : List Addr} {H : Hp} {m : M} {D : Addr} {xs : List V} {o : HO} (h : HR K mu H m) (hD : H D = some (.lst xs)) (hn : D ∉ mu) : HR K mu (L2.upd H D o) m := by
  have k : Keep H (L2.upd H D o) := keep_but hD
  refine ⟨h.len, h.nd, fun l ob a e1 e2 => ?_⟩
  have ne : a ≠ D := fun z => hn (z ▸ List.mem_of_getElem? e2)
  have z := h.ob l ob a e1 e2
  cases ob with
  | lst ds => obtain ⟨xs, e, r⟩ := z; exact ⟨xs, by rw [upd_ne ne]; exact e, RepL.keep (List.prefix_refl _) k _ _ r⟩
  | dct kvs => obtain ⟨xs, e, r⟩ := z; exact ⟨xs, by rw [upd_ne ne]; exact e, r.keep (List.prefix_refl _) k⟩
  | st _ => exact z
/-- behind a store into the list that is being made: seen from the entry, where it was not there -/
theorem Stp.other {mu0 mu : List Addr} {H0 H : Hp} {D : Addr} {o : HO} (s : Stp mu0 H0 mu H) (h : H0 D = none) : Stp mu0 H0 mu (L2.upd H D o) :=
  ⟨s.pre, s.new, fun a u e hn => by rw [upd_ne (ne_of_none e h)]; exact s.old a u e hn⟩
theorem Stp.notin {K : PySem.W.Frag} {mu mu' : List Addr} {H H' : Hp} {D : Addr} {o : HO} (s : Stp mu H mu' H') (h : H D = some o) (hn : D ∉ mu) : D ∉ mu' := fun z => by
  rcases s.new D z with q | q
  · exact hn q
  · rw [h] at q; cases q
/-- a list that was laid apart joins the small heap -/
theorem HR.join {K : PySem.W.Frag} {mu : List Addr} {H : Hp} {m : M} {D : Addr} {ob : Ob} (h : HR K mu H m) (hn : D ∉ mu) (hob : ObR K (mu ++ [D]) H D ob) : HR K (mu ++ [D]) H (m ++ [ob]) := by
  refine ⟨by rw [List.length_append, List.length_append, h.len]; rfl, ?_, fun l u a e1 e2 => ?_⟩
  · rw [List.nodup_append]
    refine ⟨h.nd, by simp, fun x hx y hy => ?_⟩
    have : y = D := by simpa using hy
    subst this
    exact fun e => hn (e ▸ hx)
  · by_cases hl : l < m.length
    · rw [List.getElem?_append_left hl] at e1
      rw [List.getElem?_append_left (by rw [h.len]; exact hl)] at e2
      have z := h.ob l u a e1 e2
      cases u with
      | lst ds => obtain ⟨xs, e, r⟩ := z; exact ⟨xs, e, RepL.keep (List.prefix_append _ _) (fun _ _ e _ => e) _ _ r⟩
      | dct kvs => obtain ⟨xs, e, r⟩ := z; exact ⟨xs, e, r.keep (List.prefix_append _ _) fun _ _ e _ => e⟩
      | st _ => exact z
    · have hl2 : l < (m ++ [ob]).length := (List.getElem?_eq_some_iff.mp e1).1
      have e : l = m.length := by rw [List.length_append] at hl2; simp at hl2; omega
      subst e
      rw [List.getElem?_append_right (Nat.le_refl _)] at e1
      rw [← h.len, List.getElem?_append_right (Nat.le_refl _)] at e2
      simp at e1 e2
      subst e1; subst e2
      exact hob
theorem Stp.join {K : PySem.W.Frag} {mu0 mu : List Addr} {H0 H : Hp} {m0 : M} {D : Addr} (s : Stp mu0 H0 mu H) (h0 : H0 D = none) : Stp mu0 H0 (mu ++ [D]) H :=
  ⟨s.pre.trans (List.prefix_append _ _), fun a ha => (List.mem_append.mp ha).elim (s.new a) fun z => .inr ((show a = D by simpa using z) ▸ h0), s.old⟩
theorem Stp.none_back {mu mu' : List Addr} {H H' : Hp} {D : Addr} (s : Stp mu H mu' H') (hn : D ∉ mu) (h : H' D = none) : H D = none := by
  cases q : H D with
  | none => rfl
  | some o =>
    have := s.old D o q hn
    rw [h] at this; cases this
theorem wipe_at (st : L2.St) : ∀ (vs : List Nat) (j : Nat), (L2.wipe st vs)[j]? = if j ∈ vs then (st[j]?).map fun _ => none else st[j]?
  | [], j => by simp [L2.wipe]
  | v :: vs, j => by
    unfold L2.wipe
    rw [List.getElem?_set, wipe_length]
    by_cases hv : v = j
    · subst hv
      simp only [if_pos, List.mem_cons, true_or]
      by_cases hl : v < st.length
      · rw [if_pos hl, List.getElem?_eq_getElem hl]; rfl
      · rw [if_neg hl, List.getElem?_eq_none (by omega)]; rfl
    · rw [if_neg hv, wipe_at st vs j]
      have : (j ∈ v :: vs) = (j ∈ vs) := by
        rw [List.mem_cons]
        exact propext ⟨fun z => z.resolve_left fun q => hv q.symm, .inr⟩
      simp only [this]
theorem wipe_wipe (st : L2.St) (vs : List Nat) : L2.wipe (L2.wipe st vs) vs = L2.wipe st vs := by
  apply List.ext_getElem?
  intro j
  rw [wipe_at, wipe_at]
  split
  · cases st[j]? <;> rfl
  · rfl
/-- the reading of a list comprehension -/
theorem lc_red {K : PySem.W.Frag} {f : IS} {G : Tgt} {g : L2.TG} {own : List Nat} {tt te : ES} {wi : TI} {st : L2.St} {H : Hp} {Q : VK}
    (hwi : wi = tI K f)
    (hok : ∀ mu H m env st x d e1 Q, HR K mu H m → EnvR K mu H env st → Rep K mu H x d → G d env = some e1 → (∀ st', EnvR K mu H e1 st' → Q st' H) → g x st H Q)
    (hwp : ∀ x st H Q, g x st H Q → g x st H (fun st2 H2 => L2.wipe st2 own = L2.wipe st own ∧ Q st2 H2))
    (hmono : ∀ x st H (Q Q' : L2.St → Hp → Prop), (∀ st H, Q st H → Q' st H) → g x st H Q → g x st H Q')
    (q : tE K (eLc own f G tt te) st H Q) : tLc wi g (tT K tt) (tE K te) own st H Q := by
  subst hwi
  obtain ⟨mu, env, m, d, m', h, r, e, k⟩ := q
  unfold eLc at e
  split at e
  · rename_i ds gd m1 e1
    split at e
    · rename_i xs m2 e2
      cases e
      refine ⟨mu, env, m, ds, gd, m1, h, r, e1, fun J H1 mu1 s1 h1 it D hD => ?_⟩
      refine ⟨fun i n H2 => ∃ mu2 m3 acc vs, Stp mu1 H1 mu2 H2 ∧ HR K mu2 H2 m3 ∧ H2 D = some (.lst vs) ∧ D ∉ mu2 ∧ RepL K mu2 H2 vs acc ∧ i ≤ ds.length ∧ n = ds.length - i ∧ lcGo gd G tt te (wipeE env own) (ds.drop i) acc m3 = some (xs, m2),
        ⟨_, mu1, m1, [], [], Stp.upd hD, h1.upd hD, upd_same, h1.notnone hD, .nil, Nat.zero_le _, rfl, e2⟩, ?_⟩
      rintro i n H2 ⟨mu2, m3, acc, vs, s2, h2, hD2, hn2, rv2, hi, rfl, e3⟩
      by_cases hlt : i < ds.length
      · right
        have ed : ds.drop i = ds[i] :: ds.drop (i + 1) := List.drop_eq_getElem_cons hlt
        rw [ed] at e3
        unfold lcGo at e3
        split at e3
        · rename_i hgd
          obtain ⟨go, yl⟩ := (it i mu2 H2 m3 s2.pre (s2.keep h1) h2 hgd).1 ds[i] (List.getElem?_eq_getElem hlt)
          refine ⟨go, fun H3 => ∃ mu3 m4 acc vs, Stp mu1 H1 mu3 H3 ∧ HR K mu3 H3 m4 ∧ H3 D = some (.lst vs) ∧ D ∉ mu3 ∧ RepL K mu3 H3 vs acc ∧ i + 1 ≤ ds.length ∧ lcGo gd G tt te (wipeE env own) (ds.drop (i + 1)) acc m4 = some (xs, m2),
            fun H3 ⟨mu3, m4, acc, vs, a1, a2, a3, a4, a5, a6, a7⟩ => ⟨_, by omega, mu3, m4, acc, vs, a1, a2, a3, a4, a5, a6, rfl, a7⟩, fun x H3 hy => ?_⟩
          obtain ⟨mu3, s3, h3, rx, _⟩ := yl x H3 hy
          have hD3 : H3 D = some (.lst vs) := s3.old _ _ hD2 hn2
          have hn3 : D ∉ mu3 := Stp.notin (K := K) s3 hD2 hn2
          split at e3
          · rename_i env3 eg
            have rw3 : EnvR K mu3 H3 (wipeE env own) (L2.wipe st own) := ((r.step s1 h).step (s2.trans s3) h1).wipe own
            have gq := hok mu3 H3 m3 (wipeE env own) (L2.wipe st own) x ds[i] env3 (fun st4 H4 => H4 = H3 ∧ EnvR K mu3 H3 env3 st4) h3 rw3 rx eg fun st4 r4 => ⟨rfl, r4⟩
            refine hmono _ _ _ _ _ (fun st4 H4 ⟨hw4, e4, r4⟩ => ⟨?_, ?_⟩) (hwp _ _ _ _ gq)
            · rw [hw4]
              exact wipe_wipe st own
            · subst e4
              split at e3
              · rename_i m5 et
                refine ⟨mu3, env3, m3, true, m5, h3, r4, et, fun H5 mu5 s5 h5 => iteT ?_⟩
                split at e3
                · rename_i y m6 ee
                  refine ⟨mu5, env3, m5, y, m6, h5, r4.step s5 h3, ee, fun v H6 mu6 s6 h6 r6 => ?_⟩
                  split at e3
                  · rename_i hz
                    have hD5 := s5.old _ _ hD3 hn3
                    have hn5 := Stp.notin (K := K) s5 hD3 hn3
                    have hD6 := s6.old _ _ hD5 hn5
                    have hn6 := Stp.notin (K := K) s6 hD5 hn5
                    have rv6 : RepL K mu6 H6 vs acc := (((rv2.step s3 h2).step s5 h3).step s6 h5)
                    refine ⟨vs, hD6, by rw [rv6.length, ← lineN_eq]; exact hz, mu6, m6, acc ++ [y], vs ++ [v], ?_, h6.other hD6 hn6, upd_same, hn6, ?_, hlt, e3⟩
                    · exact Stp.other (s2.trans (s3.trans (s5.trans s6))) hD
                    · exact RepL.keep (List.prefix_refl _) (keep_but hD6) _ _ (rv6.append (RepL.one r6))
                  · cases e3
                · cases e3
              · rename_i m5 et
                refine ⟨mu3, env3, m3, false, m5, h3, r4, et, fun H5 mu5 s5 h5 => iteF ?_⟩
                exact ⟨mu5, m5, acc, vs, s2.trans (s3.trans s5), h5, s5.old _ _ hD3 hn3, Stp.notin (K := K) s5 hD3 hn3, (rv2.step s3 h2).step s5 h3, hlt, e3⟩
              · cases e3
          · cases e3
        · cases e3
      · left
        have ei : i = ds.length := by omega
        have ed : ds.drop i = [] := List.drop_eq_nil_of_le (by omega)
        rw [ed] at e3
        obtain ⟨hgd, e4⟩ := lcGo_nil e3
        cases e4
        refine ⟨(it i mu2 H2 _ s2.pre (s2.keep h1) h2 hgd).2 ei, k (.ref D) H2 (mu2 ++ [D]) ?_ ?_ (.ref (add_get h2.len D))⟩
        · refine Stp.join (K := K) (m0 := m) (s1.trans s2) (Stp.none_back s1 ?_ hD)
          intro z
          exact h1.notnone hD (s1.pre.subset z)
        · exact h2.join hn2 ⟨vs, hD2, RepL.keep (List.prefix_append _ _) (fun _ _ e _ => e) _ _ rv2⟩
    · cases e
  · cases e
theorem ts_nil : PTs X [] (tT X.K (eC (.bl true))) := ⟨fun pins s st H Q I ⟨mu, env, m, b, m', h, r, e, k⟩ => by
  cases e
  exact pts_nil.run pins s st H Q I (k H mu (Stp.refl _ _) h)⟩
theorem ts_one {c : Expr} {f : ES} (h : ST X c f) : PTs X [c] (tT X.K f) := pts_one h
theorem s_lc {elt iter : Expr} {ifs : List Expr} {scope : Scope} {own : List (Str × Nat)} {f : IS} {G : Tgt} {g : L2.TG} {sl : List Nat} {tt te : ES} (hc : X.calm = true) (hN : X.N.Nodup) (hi : SI X tg iter f) (ok : BlkOk X.N X.env.scope scope own)
    (tk : TgK X.K G g sl) (hsl : ∀ i ∈ sl, i ∈ own.map (·.2))
    (hg : ∀ (s : Shared) (H : Hp) (C : Addr) (cl : List (Str × Addr)) (fp : List Addr), PG (X.blk s H scope (compEnvC scope cl C X.env) fp) tg g)
    (ht : ∀ (s : Shared) (H : Hp) (C : Addr) (cl : List (Str × Addr)) (fp : List Addr), PTs (X.blk s H scope (compEnvC scope cl C X.env) fp) ifs (tT X.K tt))
    (he : ∀ (s : Shared) (H : Hp) (C : Addr) (cl : List (Str × Addr)) (fp : List Addr), SE (X.blk s H scope (compEnvC scope cl C X.env) fp) elt te) (hs : ∀ x, foldedSetIterable iter X.env x = pure x := by intro _; rfl) :
    SE X (.ListComp elt [⟨tg, iter, ifs, 0⟩] scope pos) (eLc (own.map (·.2)) f G tt te) :=
  (pe_lc hc hN hi ok hg ht he hs).imp fun st H Q q => lc_red rfl tk.ok (fun x st H Q => tk.wp x st H Q _ hsl) tk.mono q
/-- name = [..] on one line -/
theorem s_asgLc {i : Nat} {y : Str} {py : Pos} {elt iter : Expr} {ifs : List Expr} {scope : Scope} {own : List (Str × Nat)} {f : IS} {G : Tgt} {g : L2.TG} {sl : List Nat} {tt te : ES} {spos : Pos} (hc : X.calm = true) (hN : X.N.Nodup) (hy : X.N[i]? = some y) (hyl : X.env.scope.names.lookup y = some .local)
    (hsw : swapsWith (.ListComp elt [⟨tg, iter, ifs, 0⟩] scope pos) (some (.Name y py)) spos.line X.env = pure true) (hi : SI X tg iter f) (ok : BlkOk X.N X.env.scope scope own)
    (tk : TgK X.K G g sl) (hsl : ∀ i ∈ sl, i ∈ own.map (·.2))
    (hg : ∀ (s : Shared) (H : Hp) (C : Addr) (cl : List (Str × Addr)) (fp : List Addr), PG (X.blk s H scope (compEnvC scope cl C X.env) fp) tg g)
    (ht : ∀ (s : Shared) (H : Hp) (C : Addr) (cl : List (Str × Addr)) (fp : List Addr), PTs (X.blk s H scope (compEnvC scope cl C X.env) fp) ifs (tT X.K tt))
    (he : ∀ (s : Shared) (H : Hp) (C : Addr) (cl : List (Str × Addr)) (fp : List Addr), SE (X.blk s H scope (compEnvC scope cl C X.env) fp) elt te) (hs : ∀ x, foldedSetIterable iter X.env x = pure x := by intro _; rfl) :
    SStm X (.Assign [.Name y py] (.ListComp elt [⟨tg, iter, ifs, 0⟩] scope pos) spos) (sAsg (tName i) (nrm (eLc (own.map (·.2)) f G tt te))) :=
  (ps_setLc hc hN hy hyl hsw hi ok hg ht he hs).imp fun E st H q => by
    have q2 := asg_red' (k_name (K := X.K) (i := i)) q
    exact lc_red rfl tk.ok (fun x st H Q => tk.wp x st H Q _ hsl) tk.mono (nrm_red q2)
end
end Dm
end

section
set_option Elab.async false
set_option linter.all false
set_option maxRecDepth 100000
set_option maxHeartbeats 1100000
namespace Dm
open L2 PyProof.Rows PySem.Spec PySem

section
variable {K : PySem.W.Frag} {mu : List Addr} {H : Hp} {m : M}
theorem rep_int {v : V} {i : Int} (h : Rep K mu H v (.int i)) : v = .int i := by cases h; rfl
theorem rep_str {v : V} {i : Str} (h : Rep K mu H v (.str i)) : v = .str i := by cases h; rfl
theorem HR.lst (h : HR K mu H m) {l : Nat} {a : Addr} {ds : List D} (e : m[l]? = some (.lst ds)) (z : mu[l]? = some a) : ∃ xs, H a = some (.lst xs) ∧ RepL K mu H xs ds := h.ob l _ a e z
theorem HR.dct (h : HR K mu H m) {l : Nat} {a : Addr} {ds : List (D × D)} (e : m[l]? = some (.dct ds)) (z : mu[l]? = some a) : ∃ xs, H a = some (.dK xs) ∧ KvR K mu H xs ds := h.ob l _ a e z
/-- what seqOf reads -/
theorem seq_rep {v : V} {d : D} {xs : List D} (h : HR K mu H m) (r : Rep K mu H v d) (e : seqOf m d = some xs) : ∃ a vs, v = .ref a ∧ (SqL K H a vs ∨ SqT K H a vs) ∧ RepL K mu H vs xs := by
  cases d with
  | tup ds => cases e; cases r with | tup z1 z2 => exact ⟨_, _, rfl, .inr z1, z2⟩
  | fl ds => cases e; cases r with | fl z1 z2 => exact ⟨_, _, rfl, .inl z1.sq, z2⟩
  | ref l =>
    unfold seqOf at e
    dsimp only at e
    split at e
    · rename_i ds ed
      cases e
      cases r with
      | ref z =>
        obtain ⟨vs, e1, r1⟩ := h.lst ed z
        exact ⟨_, _, rfl, .inl (SqL.of e1), r1⟩
    · cases e
  | _ => cases e
/-! ## data -/
mutual
def D.py : D → PyData
  | .non => .none
  | .bl b => .bool b
  | .int i => .int i
  | .str x => .str x
  | .tup xs => .tuple (D.pyL xs)
  | .fl xs => .list (D.pyL xs)
  | .ref _ => .none
def D.pyL : List D → List PyData
  | [] => []
  | x :: xs => D.py x :: D.pyL xs
end
mutual
theorem Rep.dp : ∀ (d : D) (v : V), d.gr = true → Rep K mu H v d → Dp K H v d.py
  | .non, _, _, h => by cases h; exact .non
  | .bl _, _, _, h => by cases h; exact .bl _
  | .int _, _, _, h => by cases h; exact .int _
  | .str _, _, _, h => by cases h; exact .str _
  | .tup ds, _, g, h => by
    cases h with
    | tup h1 h2 => exact .tup h1 (RepL.dp ds _ (by simpa [D.gr] using g) h2)
  | .fl ds, _, g, h => by
    cases h with
    | fl h1 h2 => exact .lst h1.sq (RepL.dp ds _ (by simpa [D.gr] using g) h2)
  | .ref l, _, g, _ => by simp [D.gr] at g
theorem RepL.dp : ∀ (ds : List D) (vs : List V), D.grL ds = true → RepL K mu H vs ds → DpAll K H vs (D.pyL ds)
  | [], _, _, h => by cases h; exact .nil
  | d :: ds, _, g, h => by
    rw [D.grL, Bool.and_eq_true] at g
    cases h with
    | cons h1 h2 => exact .cons (Rep.dp d _ g.1 h1) (RepL.dp ds _ g.2 h2)
end
theorem rd_dp {v : V} {d e : D} (h : HR K mu H m) (r : Rep K mu H v d) (q : rd m d = some e) : Dp K H v e.py := by
  cases d with
  | ref l =>
    unfold rd at q
    dsimp only at q
    split at q
    · rename_i xs ex
      split at q
      · rename_i g
        cases q
        cases r with
        | ref z =>
          obtain ⟨vs, e1, r1⟩ := h.lst ex z
          exact .lst (SqL.of e1) (RepL.dp _ _ g r1)
      · cases q
    · cases q
  | _ =>
    simp only [rd] at q
    split at q
    · rename_i g
      cases q
      exact Rep.dp _ _ g r
    · cases q
mutual
theorem eq_py : ∀ a b : D, a.gr = true → b.gr = true → PyData.eqv a.py b.py = D.eq a b
  | .non, b, _, gb => by cases b <;> first | rfl | (simp [D.gr] at gb; done) | simp [D.py, PyData.eqv, D.eq]
  | .bl x, b, _, gb => by cases b <;> first | rfl | (simp [D.gr] at gb; done) | simp [D.py, PyData.eqv, D.eq]
  | .int x, b, _, gb => by cases b <;> first | rfl | (simp [D.gr] at gb; done) | simp [D.py, PyData.eqv, D.eq]
  | .str x, b, _, gb => by cases b <;> first | rfl | (simp [D.gr] at gb; done) | simp [D.py, PyData.eqv, D.eq]
  | .tup xs, b, ga, gb => by
    cases b with
    | tup ys => rw [D.py, D.py, PyData.eqv, D.eq]; exact eq_pyL xs ys (by simpa [D.gr] using ga) (by simpa [D.gr] using gb)
    | ref l => simp [D.gr] at gb
    | _ => simp [D.py, PyData.eqv, D.eq]
  | .fl xs, b, ga, gb => by
    cases b with
    | fl ys => rw [D.py, D.py, PyData.eqv, D.eq]; exact eq_pyL xs ys (by simpa [D.gr] using ga) (by simpa [D.gr] using gb)
    | ref l => simp [D.gr] at gb
    | _ => simp [D.py, PyData.eqv, D.eq]
  | .ref l, _, ga, _ => by simp [D.gr] at ga
theorem eq_pyL : ∀ a b : List D, D.grL a = true → D.grL b = true → PyData.eqvAll (D.pyL a) (D.pyL b) = D.eqL a b
  | [], [], _, _ => by simp [D.pyL, PyData.eqvAll, D.eqL]
  | [], _ :: _, _, _ => by simp [D.pyL, PyData.eqvAll, D.eqL]
  | _ :: _, [], _, _ => by simp [D.pyL, PyData.eqvAll, D.eqL]
  | x :: xs, y :: ys, ga, gb => by
    rw [D.grL, Bool.and_eq_true] at ga gb
    rw [D.pyL, D.pyL, PyData.eqvAll, D.eqL, eq_py x y ga.1 gb.1, eq_pyL xs ys ga.2 gb.2]
end
mutual
theorem lay_py : ∀ a : D, a.txt = true → PyData.canLay0 a.py = true
  | .non, _ => rfl
  | .bl _, _ => rfl
  | .int _, _ => rfl
  | .str x, h => by rw [D.py, PyData.canLay0]; exact h
  | .tup xs, h => by rw [D.py, PyData.canLay0]; exact lay_pyL xs (by simpa [D.txt] using h)
  | .fl xs, h => by rw [D.py, PyData.canLay0]; exact lay_pyL xs (by simpa [D.txt] using h)
  | .ref _, _ => rfl
theorem lay_pyL : ∀ a : List D, D.txtL a = true → PyData.canLayAll0 (D.pyL a) = true
  | [], _ => rfl
  | x :: xs, h => by
    rw [D.txtL, Bool.and_eq_true] at h
    rw [D.pyL, PyData.canLayAll0, lay_py x h.1, lay_pyL xs h.2]; rfl
end
mutual
theorem dep_py : ∀ a : D, PyData.depth a.py = a.dep
  | .non => rfl
  | .bl _ => rfl
  | .int _ => rfl
  | .str x => rfl
  | .tup xs => by rw [D.py, PyData.depth, D.dep, dep_pyL xs]
  | .fl xs => by rw [D.py, PyData.depth, D.dep, dep_pyL xs]
  | .ref _ => rfl
theorem dep_pyL : ∀ a : List D, PyData.depthAll (D.pyL a) = D.depL a
  | [] => rfl
  | x :: xs => by rw [D.pyL, PyData.depthAll, D.depL, dep_py x, dep_pyL xs]
end
theorem shp_py {a : D} (h : a.shp = true) : a.gr = true ∧ SeqAt.shaped a.py = true := by
  unfold D.shp at h
  rw [Bool.and_eq_true, Bool.and_eq_true] at h
  refine ⟨h.1.1, ?_⟩
  unfold SeqAt.shaped
  rw [lay_py a h.1.2, dep_py, Bool.true_and]
  have := of_decide_eq_true h.2
  (exact decide_eq_true (by omega))
theorem rd_gr {d e : D} (q : rd m d = some e) : e.gr = true := by
  cases d with
  | ref l =>
    unfold rd at q
    dsimp only at q
    split at q
    · split at q
      · cases q; simpa [D.gr]
      · cases q
    · cases q
  | _ =>
    simp only [rd] at q
    split at q
    · cases q; assumption
    · cases q
end

/-! ## operators -/
section
variable {X : Cx} {K : PySem.W.Frag}
theorem OpK.or1 {r r' : R2} {f : D → D → M → Option (D × M)} (h : ∀ mu H m x y a b d m' Q, HR K mu H m → Rep K mu H x a → Rep K mu H y b → f a b m = some (d, m') →
  (∀ v H' mu', Stp mu H mu' H' → HR K mu' H' m' → Rep K mu' H' v d → Q v H') → r x y H Q ∨ r' x y H Q) : OpK K (fun x y H Q => r x y H Q ∨ r' x y H Q) f := h
def rAddD (K : PySem.W.Frag) : R2 := fun x y H Q => (rI0 fun i j => .int (i + j)) x y H Q ∨ (rCatA K x y H Q ∨ (rCat x y H Q ∨ (fun x y H Q => ∃ i j, x = V.str i ∧ y = V.str j ∧ i.length + j.length ≤ sizeLine ∧ Q (.str (i ++ j)) H) x y H Q))
theorem o_add : OpR X (binaryOp .Add) (rAddD X.K) := op_add.or (op_catA.or (op_cat.or op_add_str))
theorem k_add : OpK K (rAddD K) oAdd := by
  intro mu H m x y a b d m' Q h r1 r2 e k
  unfold oAdd at e
  split at e
  · cases e
    cases r1; cases r2
    exact .inl ⟨_, _, rfl, rfl, k _ H mu (Stp.refl _ _) h (.int _)⟩
  · rename_i xs ys
    split at e
    · rename_i hl
      cases e
      cases r1 with
      | tup z1 z2 =>
        cases r2 with
        | tup w1 w2 =>
          refine .inr (.inl ⟨_, _, _, _, rfl, rfl, z1, w1, by rw [z2.length, w2.length, ← lineN_eq]; exact hl, fun q => ?_, fun _ q => ?_, fun _ _ p hp => ?_⟩)
          · subst q
            cases z2
            exact k _ H mu (Stp.refl _ _) h (.tup w1 w2)
          · subst q
            cases w2
            rw [List.append_nil] at k
            exact k _ H mu (Stp.refl _ _) h (.tup z1 z2)
          · exact k _ _ mu (Stp.upd hp) (h.upd hp) (.tup (SqT.of upd_same) ((z2.append w2).step (Stp.upd hp) h))
    · cases e
  · rename_i la lb
    split at e
    · rename_i xs ys ea eb
      split at e
      · rename_i hl
        cases e
        cases r1 with
        | ref z =>
          cases r2 with
          | ref w =>
            obtain ⟨vs, e1, q1⟩ := h.lst ea z
            obtain ⟨ws, e2, q2⟩ := h.lst eb w
            refine .inr (.inr (.inl ⟨_, _, vs, ws, rfl, rfl, e1, e2, by rw [q1.length, q2.length, ← lineN_eq]; exact hl, fun p hp => ?_⟩))
            exact k _ _ _ (Stp.add hp) (h.add hp fun mu' pr => ⟨_, upd_same, RepL.keep pr ((Stp.upd hp).keep h) _ _ (q1.append q2)⟩) (.ref (add_get h.len p))
      · cases e
    · cases e
  · split at e
    · rename_i hl
      cases e
      cases r1; cases r2
      exact .inr (.inr (.inr ⟨_, _, rfl, rfl, by rw [← lineN_eq]; exact hl, k _ H mu (Stp.refl _ _) h (.str _)⟩))
    · cases e
  · cases e
theorem k_sub : OpK K (rI0 fun i j => .int (i - j)) oSub := by
  intro mu H m x y a b d m' Q h r1 r2 e k
  unfold oSub at e
  split at e
  · cases e; cases r1; cases r2
    exact ⟨_, _, rfl, rfl, k _ H mu (Stp.refl _ _) h (.int _)⟩
  · cases e
def rMulD : R2 := fun x y H Q => (rI CMulW fun i j => .int (i * j)) x y H Q ∨ (rI CMul fun i j => .int (i * j)) x y H Q
theorem o_mul : OpR X (binaryOp .Mult) rMulD := op_mulW.or op_mul
theorem k_mul : OpK K rMulD oMul := by
  intro mu H m x y a b d m' Q h r1 r2 e k
  unfold oMul at e
  split at e
  · split at e
    · rename_i hb
      cases e; cases r1; cases r2
      exact .inl ⟨_, _, rfl, rfl, hb, k _ H mu (Stp.refl _ _) h (.int _)⟩
    · split at e
      · rename_i hb
        cases e; cases r1; cases r2
        have e64 : p64 = 2 ^ 64 := by decide
        rw [e64] at hb
        exact .inr ⟨_, _, rfl, rfl, .inr hb, k _ H mu (Stp.refl _ _) h (.int _)⟩
      · cases e
  · cases e
theorem k_fdiv : OpK K (rI CDivW fun i j => .int (i / j)) oFdiv := by
  intro mu H m x y a b d m' Q h r1 r2 e k
  unfold oFdiv at e
  split at e
  · split at e
    · rename_i hb
      cases e; cases r1; cases r2
      exact ⟨_, _, rfl, rfl, hb, k _ H mu (Stp.refl _ _) h (.int _)⟩
    · cases e
  · cases e
theorem k_mod : OpK K (rI (fun _ j => 0 < j) fun i j => .int (i % j)) oMod := by
  intro mu H m x y a b d m' Q h r1 r2 e k
  unfold oMod at e
  split at e
  · split at e
    · rename_i hb
      cases e; cases r1; cases r2
      exact ⟨_, _, rfl, rfl, hb, k _ H mu (Stp.refl _ _) h (.int _)⟩
    · cases e
  · cases e
theorem k_pow : OpK K (rI CPow fun i j => .int (i ^ j.toNat)) oPow := by
  intro mu H m x y a b d m' Q h r1 r2 e k
  unfold oPow at e
  split at e
  · split at e
    · rename_i hb
      cases e; cases r1; cases r2
      exact ⟨_, _, rfl, rfl, hb, k _ H mu (Stp.refl _ _) h (.int _)⟩
    · cases e
  · cases e
theorem k_shl : OpK K (rI CPow fun i j => .int (i * 2 ^ j.toNat)) oShl := by
  intro mu H m x y a b d m' Q h r1 r2 e k
  unfold oShl at e
  split at e
  · split at e
    · rename_i hb
      cases e; cases r1; cases r2
      exact ⟨_, _, rfl, rfl, hb, k _ H mu (Stp.refl _ _) h (.int _)⟩
    · cases e
  · cases e
theorem k_shr : OpK K (rI (fun _ j => 0 ≤ j) fun i j => .int (i / 2 ^ j.toNat)) oShr := by
  intro mu H m x y a b d m' Q h r1 r2 e k
  unfold oShr at e
  split at e
  · split at e
    · rename_i hb
      cases e; cases r1; cases r2
      exact ⟨_, _, rfl, rfl, hb, k _ H mu (Stp.refl _ _) h (.int _)⟩
    · cases e
  · cases e
theorem and_eq {i j c : Int} (e : iand i j = some c) : Builtin.bitAnd i j = c := by
  unfold iand at e
  split at e
  · rename_i a b
    cases e
    have h1 : decide (0 ≤ Int.ofNat a) = true := decide_eq_true (Int.natCast_nonneg a)
    have h2 : decide (0 ≤ Int.ofNat b) = true := decide_eq_true (Int.natCast_nonneg b)
    unfold Builtin.bitAnd
    rw [h1, h2]
    rfl
  · rename_i a b
    cases e
    have h1 : decide (0 ≤ Int.ofNat a) = true := decide_eq_true (Int.natCast_nonneg a)
    have h2 : decide (0 ≤ Int.negSucc b) = false := decide_eq_false (by omega)
    have h3 : (Builtin.bitNot (Int.negSucc b)).toNat = b := by unfold Builtin.bitNot; omega
    unfold Builtin.bitAnd
    rw [h1, h2]
    simp only [h3]
    rfl
  · cases e
theorem or_eq {i j c : Int} (e : ior i j = some c) : Builtin.bitOr i j = c := by
  unfold ior at e
  split at e
  · cases e
    exact Bits.bitOr_pp (Int.natCast_nonneg _) (Int.natCast_nonneg _)
  · cases e
theorem xor_eq {i j c : Int} (e : ixor i j = some c) : Builtin.bitXor i j = c := by
  unfold ixor at e
  split at e
  · cases e
    exact Bits.bitXor_pp (Int.natCast_nonneg _) (Int.natCast_nonneg _)
  · cases e
theorem k_bit {f : Int → Int → Option Int} {g : Int → Int → Int} (hg : ∀ i j c, f i j = some c → g i j = c) : OpK K (rI0 fun i j => .int (g i j)) (oBit f) := by
  intro mu H m x y a b d m' Q h r1 r2 e k
  unfold oBit at e
  split at e
  · rename_i i j
    cases q : f i j with
    | none => (rw [q] at e; cases e)
    | some c =>
      rw [q] at e
      cases e; cases r1; cases r2
      refine ⟨_, _, rfl, rfl, ?_⟩
      show Q (.int (g i j)) H
      rw [hg _ _ _ q]
      exact k _ H mu (Stp.refl _ _) h (.int _)
  · cases e
theorem k_and : OpK K (rI0 fun i j => .int (Builtin.bitAnd i j)) (oBit iand) := k_bit fun _ _ _ => and_eq
theorem k_or : OpK K (rI0 fun i j => .int (Builtin.bitOr i j)) (oBit ior) := k_bit fun _ _ _ => or_eq
theorem k_xor : OpK K (rI0 fun i j => .int (Builtin.bitXor i j)) (oBit ixor) := k_bit fun _ _ _ => xor_eq
theorem k_neg : UnK K (rU fun i => .int (-i)) oNeg := by
  intro mu H m x a d m' Q h r1 e k
  unfold oNeg at e
  split at e
  · cases e; cases r1
    exact ⟨_, rfl, k _ H mu (Stp.refl _ _) h (.int _)⟩
  · cases e
theorem k_cmp {f : Int → Int → Bool} : OpK K (rI0 fun i j => .bl (f i j)) (oCmp f) := by
  intro mu H m x y a b d m' Q h r1 r2 e k
  unfold oCmp at e
  split at e
  · cases e; cases r1; cases r2
    exact ⟨_, _, rfl, rfl, k _ H mu (Stp.refl _ _) h (.bl _)⟩
  · cases e
theorem k_eq : OpK K (rEqD K) (oEq false) := by
  intro mu H m x y a b d m' Q h r1 r2 e k
  unfold oEq at e
  split at e
  · rename_i p q ep eq'
    split at e
    · rename_i hs
      cases e
      rw [Bool.and_eq_true] at hs
      obtain ⟨g1, s1⟩ := shp_py hs.1
      obtain ⟨g2, s2⟩ := shp_py hs.2
      refine ⟨_, _, rd_dp h r1 ep, rd_dp h r2 eq', s1, s2, ?_⟩
      rw [eq_py _ _ g1 g2]
      have := k (.bl (D.eq p q)) H mu (Stp.refl _ _) h
      simp only [Bool.false_bne] at this
      exact this (.bl _)
    · cases e
  · cases e
theorem k_ne : OpK K (rNeD K) (oEq true) := by
  intro mu H m x y a b d m' Q h r1 r2 e k
  unfold oEq at e
  split at e
  · rename_i p q ep eq'
    split at e
    · rename_i hs
      cases e
      rw [Bool.and_eq_true] at hs
      obtain ⟨g1, s1⟩ := shp_py hs.1
      obtain ⟨g2, s2⟩ := shp_py hs.2
      refine ⟨_, _, rd_dp h r1 ep, rd_dp h r2 eq', s1, s2, ?_⟩
      rw [eq_py _ _ g1 g2]
      have := k (.bl (!D.eq p q)) H mu (Stp.refl _ _) h
      simp only [Bool.true_bne] at this
      exact this (.bl _)
    · cases e
  · cases e
/-! ### in -/
theorem kD_inj {a b : Key} (h : kD a = kD b) : a = b := by
  cases a <;> cases b <;> simp [kD] at h <;> rw [h]
theorem kD_atom {d : D} (h : d.atom = true) : ∃ k, d = kD k := by
  cases d with
  | int i => exact ⟨.inl i, rfl⟩
  | str x => exact ⟨.inr x, rfl⟩
  | _ => simp [D.atom] at h
theorem rep_key {mu : List Addr} {H : Hp} {v : V} {k : Key} (h : Rep K mu H v (kD k)) : v = kV k := by
  cases k with
  | inl i => exact rep_int h
  | inr x => exact rep_str h
theorem kv_get {mu : List Addr} {H : Hp} {k : Key} : ∀ {ks : List (Key × V)} {kvs : List (D × D)}, KvR K mu H ks kvs → (∀ d, dget kvs (kD k) = some d → ∃ v, valV ks k = some v ∧ Rep K mu H v d) ∧ (dget kvs (kD k) = none → valV ks k = none)
  | _, _, .nil => ⟨fun d h => by simp [dget] at h, fun _ => rfl⟩
  | p :: ks, q :: kvs, .cons h t => by
    obtain ⟨i1, i2⟩ := kv_get (k := k) t
    by_cases e : p.1 = k
    · have e2 : q.1 = kD k := by rw [h.1, e]
      have g : dget (q :: kvs) (kD k) = some q.2 := by unfold dget; rw [List.find?_cons, decide_eq_true e2]; rfl
      exact ⟨fun d hd => by rw [g] at hd; cases hd; exact ⟨p.2, valV_pos e, h.2⟩, fun hd => by rw [g] at hd; cases hd⟩
    · have e2 : ¬ q.1 = kD k := by rw [h.1]; exact fun z => e (kD_inj z)
      have g : dget (q :: kvs) (kD k) = dget kvs (kD k) := by unfold dget; rw [List.find?_cons, decide_eq_false e2]
      rw [g, valV_neg e]
      exact ⟨i1, i2⟩
theorem kv_put {mu : List Addr} {H : Hp} {k : Key} {v : V} {d : D} (hv : Rep K mu H v d) {ks : List (Key × V)} {kvs : List (D × D)} (h : KvR K mu H ks kvs) : KvR K mu H (putK ks k v) (dput kvs (kD k) d) := by
  have ha : (ks.any fun kv => decide (kv.1 = k)) = kvs.any fun p => decide (p.1 = kD k) := by
    induction h with
    | nil => rfl
    | cons h t ih =>
      rw [List.any_cons, List.any_cons, ih, h.1]
      congr 1
      exact decide_eq_decide.mpr ⟨fun z => by rw [z], kD_inj⟩
  unfold putK dput
  rw [ha]
  clear ha
  split
  · rename_i hz
    clear hz
    induction h with
    | nil => exact .nil
    | @cons p q ks kvs h t ih =>
      (rw [List.map_cons, List.map_cons])
      refine .cons ?_ (ih)
      by_cases e : p.1 = k
      · have e2 : q.1 = kD k := by rw [h.1, e]
        rw [if_pos e, if_pos e2]
        exact ⟨h.1, hv⟩
      · have e2 : ¬ q.1 = kD k := by rw [h.1]; exact fun z => e (kD_inj z)
        rw [if_neg e, if_neg e2]
        exact h
  · rename_i hz
    clear hz
    induction h with
    | nil => exact .cons ⟨rfl, hv⟩ .nil
    | cons h t ih => exact .cons h ih
end
end Dm
end

section
set_option Elab.async false
set_option linter.all false
set_option maxRecDepth 100000
set_option maxHeartbeats 1100000
namespace Dm
open L2 PyProof.Rows PySem.Spec PySem

section
variable {X : Cx} {K : PySem.W.Frag}
theorem any_py (x : D) (hx : x.gr = true) : ∀ xs : List D, D.grL xs = true → ((D.pyL xs).any fun z => PyData.eqv z x.py) = xs.any fun z => D.eq z x
  | [], _ => rfl
  | y :: ys, g => by
    rw [D.grL, Bool.and_eq_true] at g
    rw [D.pyL, List.any_cons, List.any_cons, eq_py y x g.1 hx, any_py x hx ys g.2]
/-- x in t, t a tuple of data -/
def rInT (K : PySem.W.Frag) (neg : Bool) : R2 := fun x y H Q => ∃ d ds, Dp K H x d ∧ Dp K H y (.tuple ds) ∧ SeqAt.shaped d = true ∧ SeqAt.shaped (.tuple ds) = true ∧ Q (.bl (neg != ds.any fun z => PyData.eqv z d)) H
theorem op_inT (hu : X.A.units + 65 < cLine) : OpR X (compareOp .In) (rInT X.K false) := by
  (intro pins s σ H x y v u Q I rx ry h)
  (obtain ⟨d, ds, hd, he, sd, se, q⟩ := h)
  (obtain ⟨as, r1⟩ := Dp.reads I d x v hd rx)
  obtain ⟨bs, r2⟩ := Dp.reads I (.tuple ds) y u he ry
  simp only [Bool.false_bne] at q
  exact SeqAt.in_tuple_reads r2 r1 (SeqAt.canLay_of_shaped se) (SeqAt.canLay_of_shaped sd) (room_in_shaped sd hu) ⟨.bl _, H, I, rfl, q⟩
theorem op_notInT (hu : X.A.units + 65 < cLine) : OpR X (compareOp .NotIn) (rInT X.K true) := by
  (intro pins s σ H x y v u Q I rx ry h)
  (obtain ⟨d, ds, hd, he, sd, se, q⟩ := h)
  (obtain ⟨as, r1⟩ := Dp.reads I d x v hd rx)
  obtain ⟨bs, r2⟩ := Dp.reads I (.tuple ds) y u he ry
  simp only [Bool.true_bne] at q
  exact SeqAt.notIn_tuple_reads r2 r1 (SeqAt.canLay_of_shaped se) (SeqAt.canLay_of_shaped sd) (room_in_shaped sd hu) ⟨.bl _, H, I, rfl, q⟩
def rInK (neg : Bool) : R2 := fun x y H Q => ∃ a o, y = .ref a ∧ DGet H a x o ∧ Q (.bl (neg != o.isSome)) H
theorem op_inK (hu : X.A.units + 1 < cLine) : OpR X (compareOp .In) (rInK false) := by
  (intro pins s σ H x y v u Q I rx ry h)
  obtain ⟨a, o, rfl, g, q⟩ := h
  cases ry
  simp only [Bool.false_bne] at q
  exact d_in hu I g rx fun s' I' => ⟨.bl _, H, I', rfl, q⟩
theorem op_notInK (hu : X.A.units + 1 < cLine) : OpR X (compareOp .NotIn) (rInK true) := by
  (intro pins s σ H x y v u Q I rx ry h)
  obtain ⟨a, o, rfl, g, q⟩ := h
  cases ry
  simp only [Bool.true_bne] at q
  exact d_notIn hu I g rx fun s' I' => ⟨.bl _, H, I', rfl, q⟩
def rInAll (K : PySem.W.Frag) : R2 := fun x y H Q => rInD K x y H Q ∨ (rInT K false x y H Q ∨ rInK false x y H Q)
def rNotInAll (K : PySem.W.Frag) : R2 := fun x y H Q => rNotInD K x y H Q ∨ (rInT K true x y H Q ∨ rInK true x y H Q)
theorem o_in (hu : X.A.units + 65 < cLine) : OpR X (compareOp .In) (rInAll X.K) := (op_inD hu).or ((op_inT hu).or (op_inK (by omega)))
theorem o_notIn (hu : X.A.units + 65 < cLine) : OpR X (compareOp .NotIn) (rNotInAll X.K) := (op_notInD hu).or ((op_notInT hu).or (op_notInK (by omega)))
theorem shp_gr {d : D} (h : d.shp = true) : d.gr = true := (shp_py h).1
/-- the reading of in, for both answers -/
theorem in_read {neg : Bool} {mu : List Addr} {H : Hp} {m : M} {x y : V} {a b d : D} {m' : M} {Q : VK} {B : Prop} (h : HR K mu H m) (r1 : Rep K mu H x a) (r2 : Rep K mu H y b) (e : oIn neg a b m = some (d, m'))
    (k : ∀ v H' mu', Stp mu H mu' H' → HR K mu' H' m' → Rep K mu' H' v d → Q v H')
    (c1 : ∀ d ds, Dp K H x d → Dp K H y (.list ds) → SeqAt.shaped d = true → SeqAt.shaped (.list ds) = true → Q (.bl (neg != ds.any fun z => PyData.eqv z d)) H → B)
    (c2 : rInT K neg x y H Q → B) (c3 : rInK neg x y H Q → B) : B := by
  unfold oIn at e
  split at e
  · rename_i l
    split at e
    · rename_i xs ex
      split at e
      · rename_i hs
        cases e
        rw [Bool.and_eq_true] at hs
        obtain ⟨g1, s1⟩ := shp_py hs.1
        obtain ⟨g2, s2⟩ := shp_py hs.2
        have g2' : D.grL xs = true := by simpa [D.gr] using g2
        cases r2 with
        | ref z =>
          obtain ⟨vs, e1, q1⟩ := h.lst ex z
          refine c1 a.py (D.pyL xs) (Rep.dp _ _ g1 r1) (.lst (SqL.of e1) (RepL.dp _ _ g2' q1)) s1 s2 ?_
          rw [any_py a g1 xs g2']
          exact k _ H mu (Stp.refl _ _) h (.bl _)
      · cases e
    · rename_i kvs ex
      split at e
      · rename_i hk
        cases e
        obtain ⟨j, rfl⟩ := kD_atom hk
        cases r2 with
        | ref z =>
          obtain ⟨ks, e1, q1⟩ := h.dct ex z
          have ev := rep_key r1
          subst ev
          refine c3 ⟨_, _, rfl, DGet.k e1, ?_⟩
          have hq : (valV ks j).isSome = (dget kvs (kD j)).isSome := by
            obtain ⟨i1, i2⟩ := kv_get (k := j) q1
            cases qd : dget kvs (kD j) with
            | none => rw [i2 qd]; rfl
            | some d => obtain ⟨v, hv, _⟩ := i1 d qd; rw [hv]; rfl
          rw [hq]
          exact k _ H mu (Stp.refl _ _) h (.bl _)
      · cases e
    · cases e
  · rename_i xs
    split at e
    · rename_i hs
      cases e
      rw [Bool.and_eq_true] at hs
      obtain ⟨g1, s1⟩ := shp_py hs.1
      obtain ⟨g2, s2⟩ := shp_py hs.2
      have g2' : D.grL xs = true := by simpa [D.gr] using g2
      have hd := Rep.dp _ _ g2 r2
      refine c2 ⟨a.py, D.pyL xs, Rep.dp _ _ g1 r1, hd, s1, s2, ?_⟩
      rw [any_py a g1 xs g2']
      exact k _ H mu (Stp.refl _ _) h (.bl _)
    · cases e
  · rename_i xs
    split at e
    · rename_i hs
      cases e
      rw [Bool.and_eq_true] at hs
      obtain ⟨g1, s1⟩ := shp_py hs.1
      obtain ⟨g2, s2⟩ := shp_py hs.2
      have g2' : D.grL xs = true := by simpa [D.gr] using g2
      have hd := Rep.dp _ _ g2 r2
      refine c1 a.py (D.pyL xs) (Rep.dp _ _ g1 r1) hd s1 s2 ?_
      rw [any_py a g1 xs g2']
      exact k _ H mu (Stp.refl _ _) h (.bl _)
    · cases e
  · cases e
theorem k_in : OpK K (rInAll K) (oIn false) := by
  intro mu H m x y a b d m' Q h r1 r2 e k
  refine in_read h r1 r2 e k (fun d ds h1 h2 h3 h4 q => .inl ⟨d, ds, h1, h2, h3, h4, ?_⟩) (fun q => .inr (.inl q)) fun q => .inr (.inr q)
  simp only [Bool.false_bne] at q
  exact q
theorem k_notIn : OpK K (rNotInAll K) (oIn true) := by
  intro mu H m x y a b d m' Q h r1 r2 e k
  refine in_read h r1 r2 e k (fun d ds h1 h2 h3 h4 q => .inl ⟨d, ds, h1, h2, h3, h4, ?_⟩) (fun q => .inr (.inl q)) fun q => .inr (.inr q)
  simp only [Bool.true_bne] at q
  exact q

/-! ### places -/
theorem ixOf_eq (n : Nat) (i : Int) : ixOf n i = ixN n i := rfl
theorem ix_at {mu : List Addr} {H : Hp} {vs : List V} {xs : List D} {i : Int} {d : D} (r : RepL K mu H vs xs) (e : atIx xs i = some d) : ∃ v, atI vs i = some v ∧ Rep K mu H v d := by
  unfold atIx at e
  unfold atI
  rw [r.length, ← ixOf_eq]
  cases q : ixOf xs.length i with
  | none => (rw [q] at e; cases e)
  | some j =>
    rw [q] at e
    exact r.get (show xs[j]? = some d from e)
/-- d[k] as a subscript by values -/
def rIxD : R2 := fun x y H Q => ∃ a v, x = .ref a ∧ DGet H a y (some v) ∧ Q v H
theorem ix_dict (hu : X.A.units + 1 < cLine) : IxR X rIxD := by
  intro value slice pins s σ H x y v u Q I rx ry h hsub
  obtain ⟨a, w, rfl, g, q⟩ := h
  cases rx
  have hT := dict_typeIs I g
  have h₂ : wpAny (model X.prog X.w) X.A (getItem (.ref a) u) (EP X pins σ Q) X.xe s := d_getItem hu I g ry fun w' s3 I3 rw' => ⟨w, H, I3, rw', q⟩
  unfold subscriptTail
  refine wpAny_bind ?_
  (rw [getitemInPython_of_ne hT.not_modules])
  refine wpAny_bind (wpAny_specialOf hT PySem.F.slot_dict_getitem.lookup ?_)
  have fin : wpAny (model X.prog X.w) X.A (subscripted slice false (.ref a) u) (fun r s₃ => wpAny (model X.prog X.w) X.A (letTemporaryGo value (.ref a) r >>= fun _ => pure r) (EP X pins σ Q) X.xe s₃) X.xe s := by
    rw [hsub]
    (exact wpAny_operating (wpAny_mono h₂ (fun r s₃ h₃ => wpAny_bind (wpAny_letTemporaryGo (wpAny_pure h₃))) fun _ _ x => x))
  first
    | (exact wpAny_pure (wpAny_bind fin))
    | (exact wpAny_bind (wpAny_pure (wpAny_bind fin)))
    | exact wpAny_bind fin
def rIxAll (K : PySem.W.Frag) : R2 := fun x y H Q => rIx K x y H Q ∨ rIxD x y H Q
theorem o_ix (hu : X.A.units + 1 < cLine) : IxR X (rIxAll X.K) := ix_seq.or (ix_dict hu)
theorem k_ix : OpK K (rIxAll K) oIx := by
  intro mu H m x y a b d m' Q h r1 r2 e k
  unfold oIx at e
  split at e
  · rename_i xs i
    cases q : atIx xs i with
    | none => (rw [q] at e; cases e)
    | some dd =>
      rw [q] at e
      cases e
      cases r1 with
      | tup z1 z2 =>
        obtain ⟨v, hv, rv⟩ := ix_at z2 q
        exact .inl (.inr (.inl ⟨_, _, _, v, rfl, rep_int r2, z1, hv, k v H mu (Stp.refl _ _) h rv⟩))
  · rename_i xs i
    cases q : atIx xs i with
    | none => (rw [q] at e; cases e)
    | some dd =>
      rw [q] at e
      cases e
      cases r1 with
      | fl z1 z2 =>
        obtain ⟨v, hv, rv⟩ := ix_at z2 q
        exact .inl (.inl ⟨_, _, _, v, rfl, rep_int r2, z1.sq, hv, k v H mu (Stp.refl _ _) h rv⟩)
  · rename_i z i
    split at e
    · rename_i hl
      cases q : ((ixOf z.cps.toList.length i).bind fun j => z.cps.toList[j]?) with
      | none => (rw [q] at e; cases e)
      | some c =>
        rw [q] at e
        cases e
        have e1 := rep_str r1
        subst e1
        exact .inl (.inr (.inr ⟨_, _, c, rfl, rep_int r2, by rw [← lineN_eq]; exact hl, q, k _ H mu (Stp.refl _ _) h (.str _)⟩))
    · cases e
  · rename_i l
    split at e
    · rename_i xs ex
      split at e
      · rename_i i
        cases q : atIx xs i with
        | none => (rw [q] at e; cases e)
        | some dd =>
          rw [q] at e
          cases e
          cases r1 with
          | ref z =>
            obtain ⟨vs, e1, q1⟩ := h.lst ex z
            obtain ⟨v, hv, rv⟩ := ix_at q1 q
            exact .inl (.inl ⟨_, _, _, v, rfl, rep_int r2, SqL.of e1, hv, k v H mu (Stp.refl _ _) h rv⟩)
      · cases e
    · rename_i kvs ex
      split at e
      · rename_i hk
        obtain ⟨j, rfl⟩ := kD_atom hk
        cases q : dget kvs (kD j) with
        | none => (rw [q] at e; cases e)
        | some dd =>
          rw [q] at e
          cases e
          cases r1 with
          | ref z =>
            obtain ⟨ks, e1, q1⟩ := h.dct ex z
            obtain ⟨v, hv, rv⟩ := (kv_get (k := j) q1).1 _ q
            have ev := rep_key r2
            subst ev
            exact .inr ⟨_, v, rfl, hv ▸ DGet.k e1, k v H mu (Stp.refl _ _) h rv⟩
      · cases e
    · cases e
  · cases e

/-! ### o[i] = v -/
def rSetDm : TSet := fun o i v H Q => ∃ a H', o = .ref a ∧ DPut H a i v H' ∧ Q H'
theorem set_dctD (hu : X.A.units + 1 < cLine) : PSet X rSetDm := by
  (intro pins s σ H o i v ov iv u Q I ro ri rv h)
  obtain ⟨a, H', rfl, g, q⟩ := h
  cases ro
  (exact d_setItem hu I g ri rv fun s' I' => ⟨H', I', q⟩)
def rSetAll : TSet := fun o i v H Q => rSetL o i v H Q ∨ rSetDm o i v H Q
theorem o_set (hu : X.A.units + 1 < cLine) : PSet X rSetAll := by
  (intro pins s σ H o i v ov iv u Q I ro ri rv h)
  rcases h with h | h
  · exact set_list pins s σ H o i v ov iv u Q I ro ri rv h
  · exact set_dctD hu pins s σ H o i v ov iv u Q I ro ri rv h
theorem RepL.set {mu : List Addr} {H : Hp} {vs : List V} {xs : List D} (r : RepL K mu H vs xs) (j : Nat) {v : V} {d : D} (z : Rep K mu H v d) : RepL K mu H (vs.set j v) (xs.set j d) := by
  refine RepL.of_get (by rw [List.length_set, List.length_set]; exact r.length) fun i w e h1 h2 => ?_
  by_cases hj : j = i
  · subst hj
    rw [List.getElem?_set] at h1 h2
    simp only [if_pos] at h1 h2
    split at h1
    · split at h2
      · cases h1; cases h2; exact z
      · cases h2
    · cases h1
  · rw [List.getElem?_set_ne hj] at h1 h2
    obtain ⟨w', q, rw'⟩ := r.get h2
    rw [q] at h1; cases h1
    exact rw'
theorem k_set : SeK K rSetAll := by
  intro mu H m x y v a b d m' Q h r1 r2 r3 e k
  unfold putAt at e
  split at e
  · rename_i l
    split at e
    · rename_i xs ex
      split at e
      · rename_i i
        cases q : ixOf xs.length i with
        | none => (rw [q] at e; cases e)
        | some j =>
          rw [q] at e
          cases e
          cases r1 with
          | ref z =>
            obtain ⟨vs, e1, q1⟩ := h.lst ex z
            refine .inl ⟨_, vs, i, j, rfl, rep_int r2, e1, by rw [q1.length]; exact q, k _ mu (Stp.put z) (h.put ex z ?_)⟩
            exact ⟨_, upd_same, RepL.keep (List.prefix_refl _) (Keep.put h ex z) _ _ (q1.set j r3)⟩
      · cases e
    · rename_i kvs ex
      split at e
      · rename_i hk
        rw [Bool.and_eq_true] at hk
        cases e
        obtain ⟨j, rfl⟩ := kD_atom hk.2
        cases r1 with
        | ref z =>
          obtain ⟨ks, e1, q1⟩ := h.dct ex z
          have ev := rep_key r2
          subst ev
          refine .inr ⟨_, _, rfl, DPut.k e1 ?_, k _ mu (Stp.put z) (h.put ex z ?_)⟩
          · have := q1.length
            have hl := of_decide_eq_true hk.1
            rw [lineN_eq] at hl
            have hlen : ks.length = kvs.length := Paired.length q1
            omega
          · exact ⟨_, upd_same, (kv_put r3 q1).keep (List.prefix_refl _) (Keep.put h ex z)⟩
      · cases e
    · cases e
  · cases e
/-! ### slices -/
theorem sPos_eq (n d : Nat) (o : Option Int) : sPos n d o = HT.sIx n d o := by
  cases o with
  | none => rfl
  | some v =>
    show (if v < 0 then (max (v + n) 0).toNat else (min v n).toNat) = (if v < 0 then (v + (n : Int)).toNat else min v.toNat n)
    split <;> omega
theorem cut_rep {mu : List Addr} {H : Hp} {vs : List V} {xs : List D} (r : RepL K mu H vs xs) (lo hi : Option Int) : RepL K mu H (cutV vs lo hi) (cut xs lo hi) := by
  unfold cutV cut
  rw [sPos_eq, sPos_eq, r.length]
  refine RepL.of_get (by rw [List.length_take, List.length_take, List.length_drop, List.length_drop, r.length]) fun i w e h1 h2 => ?_
  rw [List.getElem?_take] at h1 h2
  split at h1
  · rename_i hl
    rw [if_pos hl] at h2
    rw [List.getElem?_drop] at h1 h2
    obtain ⟨w', q, rw'⟩ := r.get h2
    rw [q] at h1; cases h1
    exact rw'
  · cases h1
theorem cut_whole {vs : List V} {lo hi : Option Int} (h : HT.sIx vs.length 0 lo = 0 ∧ HT.sIx vs.length vs.length hi = vs.length) : cutV vs lo hi = vs := by
  unfold cutV
  rw [h.1, h.2]
  simp
def tO (K : PySem.W.Frag) (f : Env → M → Option (Option Int × M)) : TO := fun st H Q => ∃ mu env m o m', HR K mu H m ∧ EnvR K mu H env st ∧ f env m = some (o, m') ∧
  ∀ H' mu', Stp mu H mu' H' → HR K mu' H' m' → Q o H'
theorem _root_.L2.PO.imp {X : Cx} {e : Option Expr} {t t' : TO} (h : PO X e t) (k : ∀ st H Q, t' st H Q → t st H Q) : PO X e t' := ⟨fun pins s st H Q I q => h.run pins s st H Q I (k _ _ _ q)⟩
theorem po_no : PO X none (tO X.K (oPart none)) := po_none.imp fun st H Q ⟨mu, env, m, o, m', h, r, e, k⟩ => by cases e; exact k H mu (Stp.refl _ _) h
theorem po_so {e : Expr} {f : ES} (he : SE X e f) : PO X (some e) (tO X.K (oPart (some f))) := (po_some he).imp fun st H Q ⟨mu, env, m, o, m', h, r, e, k⟩ => by
  unfold oPart at e
  dsimp only at e
  split at e
  · rename_i i m1 e1
    cases e
    exact ⟨mu, env, m, .int i, _, h, r, e1, fun v H' mu' s h' r' => ⟨i, rep_int r', k H' mu' s h'⟩⟩
  · cases e
theorem s_sl {a : Expr} {lo hi : Option Expr} {f : ES} {fl fh : Option ES} {pos p2 : Pos} (he : SE X a f) (hl : PO X lo (tO X.K (oPart fl))) (hh : PO X hi (tO X.K (oPart fh))) : SE X (.Subscript a (.Slice lo hi none p2) pos) (eSl f fl fh) :=
  (pe_slice (SlR.or sl_list sl_tupA) he hl hh).imp fun st H Q ⟨mu, env, m, d, m', h, r, e, k⟩ => by
    unfold eSl at e
    split at e
    · rename_i x m1 e1
      split at e
      · rename_i l m2 e2
        split at e
        · rename_i u m3 e3
          refine ⟨mu, env, m, x, m1, h, r, e1, fun v1 H1 mu1 s1 h1 r1 => ⟨mu1, env, m1, l, m2, h1, r.step s1 h, e2, fun H2 mu2 s2 h2 => ⟨mu2, env, m2, u, m3, h2, (r.step s1 h).step s2 h1, e3, fun H3 mu3 s3 h3 => ?_⟩⟩⟩
          have r3 := (r1.step s2 h1).step s3 h2
          have st3 := s1.trans (s2.trans s3)
          split at e
          · rename_i xs
            cases e
            cases r3 with
            | tup z1 z2 =>
              refine .inr ⟨_, _, rfl, z1, fun hw => ?_, fun hw p hp => ?_⟩
              · have := cut_rep z2 l u
                rw [cut_whole hw] at this
                exact k _ H3 mu3 st3 h3 (.tup z1 this)
              · exact k _ _ mu3 (st3.trans (Stp.upd hp)) (h3.upd hp) (.tup (SqT.of upd_same) ((cut_rep z2 l u).step (Stp.upd hp) h3))
          · rename_i xs
            cases e
            cases r3 with
            | fl z1 z2 =>
              exact .inl ⟨_, _, rfl, z1.sq, fun p hp => k _ _ _ (st3.trans (Stp.add hp)) (h3.add hp fun mu' pr => ⟨_, upd_same, RepL.keep pr ((Stp.upd hp).keep h3) _ _ (cut_rep z2 l u)⟩) (.ref (add_get h3.len p))⟩
          · rename_i la
            split at e
            · rename_i xs ex
              cases e
              cases r3 with
              | ref z =>
                obtain ⟨vs, ev, q1⟩ := h3.lst ex z
                exact .inl ⟨_, _, rfl, SqL.of ev, fun p hp => k _ _ _ (st3.trans (Stp.add hp)) (h3.add hp fun mu' pr => ⟨_, upd_same, RepL.keep pr ((Stp.upd hp).keep h3) _ _ (cut_rep q1 l u)⟩) (.ref (add_get h3.len p))⟩
            · cases e
          · cases e
        · cases e
      · cases e
    · cases e

/-! ## built-ins -/
theorem repl1 {mu : List Addr} {H : Hp} {vs : List V} {d : D} (r : RepL K mu H vs [d]) : ∃ v, vs = [v] ∧ Rep K mu H v d := by
  cases r with
  | cons h t => cases t; exact ⟨_, rfl, h⟩
theorem repl2 {mu : List Addr} {H : Hp} {vs : List V} {d e : D} (r : RepL K mu H vs [d, e]) : ∃ v w, vs = [v, w] ∧ Rep K mu H v d ∧ Rep K mu H w e := by
  cases r with
  | cons h t =>
    obtain ⟨w, rfl, hw⟩ := repl1 t
    exact ⟨_, w, rfl, h, hw⟩
def rLenD : List V → Hp → VK → Prop := fun xs H Q => ∃ a kvs, xs = [V.ref a] ∧ H a = some (.dK kvs) ∧ Q (.int kvs.length) H
theorem call_lenDk : CallR X (.builtin "len") rLenD := by
  (intro pins s σ H xs us Q I r h)
  obtain ⟨a, kvs, rfl, e, q⟩ := h
  (obtain ⟨u, rfl, ru⟩ := vals1 r)
  cases ru
  exact d_len I (.inl e) fun t s' I' => ⟨.int kvs.length, H, I', ⟨_, rfl⟩, q⟩
def rLenAll (K : PySem.W.Frag) : List V → Hp → VK → Prop := fun xs H Q => (∃ x n, xs = [x] ∧ LenV K x H n ∧ Q (.int n) H) ∨ rLenD xs H Q
theorem c_len : CallR X (.builtin "len") (rLenAll X.K) := call_len.or call_lenDk
theorem k_len : CaK K (rLenAll K) pLen := by
  intro mu H m xs as d m' Q h r e k
  unfold pLen at e
  split at e
  · rename_i z
    split at e
    · rename_i hl
      cases e
      obtain ⟨v, rfl, rv⟩ := repl1 r
      have ev := rep_str rv
      subst ev
      exact .inl ⟨_, _, rfl, ⟨by rw [← lineN_eq]; exact hl, rfl⟩, k _ H mu (Stp.refl _ _) h (.int _)⟩
    · cases e
  · rename_i l m0
    obtain ⟨v, rfl, rv⟩ := repl1 r
    cases rv with
    | ref z =>
      split at e
      · rename_i ds ex
        cases e
        obtain ⟨vs, e1, q1⟩ := h.lst ex z
        refine .inl ⟨_, _, rfl, .inl ⟨vs, SqL.of e1, rfl⟩, ?_⟩
        rw [q1.length]
        exact k _ H mu (Stp.refl _ _) h (.int _)
      · rename_i ds ex
        cases e
        obtain ⟨ks, e1, q1⟩ := h.dct ex z
        refine .inr ⟨_, _, rfl, e1, ?_⟩
        rw [show ks.length = ds.length from Paired.length q1]
        exact k _ H mu (Stp.refl _ _) h (.int _)
      · rename_i ds ex
        exact False.elim (h.ob _ _ _ ex z)
      · cases e
  · rename_i ds m0
    cases e
    obtain ⟨v, rfl, rv⟩ := repl1 r
    cases rv with
    | tup z1 z2 =>
      refine .inl ⟨_, _, rfl, .inr ⟨_, z1, rfl⟩, ?_⟩
      rw [z2.length]
      exact k _ H mu (Stp.refl _ _) h (.int _)
  · rename_i ds m0
    cases e
    obtain ⟨v, rfl, rv⟩ := repl1 r
    cases rv with
    | fl z1 z2 =>
      refine .inl ⟨_, _, rfl, .inl ⟨_, z1.sq, rfl⟩, ?_⟩
      rw [z2.length]
      exact k _ H mu (Stp.refl _ _) h (.int _)
  · cases e
theorem k_int : CaK K (fun xs H Q => (∃ i, xs = [.int i] ∧ Q (.int i) H) ∨ ∃ k, xs = [.bl k] ∧ Q (.int (if k then 1 else 0)) H) pInt := by
  intro mu H m xs as d m' Q h r e k
  unfold pInt at e
  split at e
  · cases e
    obtain ⟨v, rfl, rv⟩ := repl1 r
    exact .inl ⟨_, by rw [rep_int rv], k _ H mu (Stp.refl _ _) h (.int _)⟩
  · cases e
    obtain ⟨v, rfl, rv⟩ := repl1 r
    exact .inr ⟨_, by rw [rep_bl rv], k _ H mu (Stp.refl _ _) h (.int _)⟩
  · cases e
theorem k_tuple : CaK K (fun xs H Q => ∃ p ys, xs = [.ref p] ∧ ((SqL K H p ys ∧ ∀ l, H l = none → Q (.ref l) (L2.upd H l (.tup ys))) ∨ (SqT K H p ys ∧ Q (.ref p) H))) pTuple := by
  intro mu H m xs as d m' Q h r e k
  unfold pTuple at e
  split at e
  · cases e
    obtain ⟨v, rfl, rv⟩ := repl1 r
    cases rv with
    | tup z1 z2 => exact ⟨_, _, rfl, .inr ⟨z1, k _ H mu (Stp.refl _ _) h (.tup z1 z2)⟩⟩
  · cases e
    obtain ⟨v, rfl, rv⟩ := repl1 r
    cases rv with
    | fl z1 z2 => exact ⟨_, _, rfl, .inl ⟨z1.sq, fun p hp => k _ _ mu (Stp.upd hp) (h.upd hp) (.tup (SqT.of upd_same) (z2.step (Stp.upd hp) h))⟩⟩
  · obtain ⟨v, rfl, rv⟩ := repl1 r
    cases rv with
    | ref z =>
      split at e
      · rename_i ds ex
        cases e
        obtain ⟨vs, e1, q1⟩ := h.lst ex z
        exact ⟨_, _, rfl, .inl ⟨SqL.of e1, fun p hp => k _ _ mu (Stp.upd hp) (h.upd hp) (.tup (SqT.of upd_same) (q1.step (Stp.upd hp) h))⟩⟩
      · cases e
  · cases e
def rListAll (K : PySem.W.Frag) : List V → Hp → VK → Prop := fun xs H Q => (∃ p ys, xs = [.ref p] ∧ (SqL K H p ys ∨ SqT K H p ys) ∧ ∀ l, H l = none → Q (.ref l) (L2.upd H l (.lst ys))) ∨ rListD xs H Q
theorem c_list (hc : X.calm = true) : CallR X (.type "list") (rListAll X.K) := call_list_of.or (call_list_dK hc)
theorem kv_keys {mu : List Addr} {H : Hp} : ∀ {ks : List (Key × V)} {kvs : List (D × D)}, KvR K mu H ks kvs → RepL K mu H (ks.map fun kv => kV kv.1) (kvs.map (·.1))
  | _, _, .nil => .nil
  | _, _, .cons (a := p) (b := q) h t => .cons (by
      show Rep K mu H (kV p.1) q.1
      rw [h.1]
      cases p.1 with
      | inl i => exact .int i
      | inr x => exact .str x) (kv_keys t)
theorem k_list : CaK K (rListAll K) pList := by
  intro mu H m xs as d m' Q h r e k
  unfold pList at e
  split at e
  · cases e
    obtain ⟨v, rfl, rv⟩ := repl1 r
    cases rv with
    | tup z1 z2 => exact .inl ⟨_, _, rfl, .inr z1, fun p hp => k _ _ _ (Stp.add hp) (h.add hp fun mu' pr => ⟨_, upd_same, RepL.keep pr ((Stp.upd hp).keep h) _ _ z2⟩) (.ref (add_get h.len p))⟩
  · cases e
    obtain ⟨v, rfl, rv⟩ := repl1 r
    cases rv with
    | fl z1 z2 => exact .inl ⟨_, _, rfl, .inl z1.sq, fun p hp => k _ _ _ (Stp.add hp) (h.add hp fun mu' pr => ⟨_, upd_same, RepL.keep pr ((Stp.upd hp).keep h) _ _ z2⟩) (.ref (add_get h.len p))⟩
  · obtain ⟨v, rfl, rv⟩ := repl1 r
    cases rv with
    | ref z =>
      split at e
      · rename_i ds ex
        cases e
        obtain ⟨vs, e1, q1⟩ := h.lst ex z
        exact .inl ⟨_, _, rfl, .inl (SqL.of e1), fun p hp => k _ _ _ (Stp.add hp) (h.add hp fun mu' pr => ⟨_, upd_same, RepL.keep pr ((Stp.upd hp).keep h) _ _ q1⟩) (.ref (add_get h.len p))⟩
      · rename_i ds ex
        cases e
        obtain ⟨ks, e1, q1⟩ := h.dct ex z
        exact .inr ⟨_, _, rfl, e1, fun p hp => k _ _ _ (Stp.add hp) (h.add hp fun mu' pr => ⟨_, upd_same, RepL.keep pr ((Stp.upd hp).keep h) _ _ (kv_keys q1)⟩) (.ref (add_get h.len p))⟩
      · cases e
  · cases e
theorem ints_rep {mu : List Addr} {H : Hp} : ∀ {ds : List D} {ns : List Int} {vs : List V}, intsOf ds = some ns → RepL K mu H vs ds → vs = ns.map V.int
  | [], _, _, e, r => by cases e; cases r; rfl
  | d :: ds, ns, _, e, r => by
    cases d with
    | int i =>
      rw [intsOf] at e
      cases q : intsOf ds with
      | none => (rw [q] at e; cases e)
      | some ms =>
        rw [q] at e
        cases e
        cases r with
        | cons h t => rw [rep_int h, ints_rep q t]; rfl
    | _ => simp [intsOf] at e
theorem bools_rep {mu : List Addr} {H : Hp} : ∀ {ds : List D} {ns : List Bool} {vs : List V}, boolsOf ds = some ns → RepL K mu H vs ds → vs = ns.map V.bl
  | [], _, _, e, r => by cases e; cases r; rfl
  | d :: ds, ns, _, e, r => by
    cases d with
    | bl i =>
      rw [boolsOf] at e
      cases q : boolsOf ds with
      | none => (rw [q] at e; cases e)
      | some ms =>
        rw [q] at e
        cases e
        cases r with
        | cons h t => rw [rep_bl h, bools_rep q t]; rfl
    | _ => simp [boolsOf] at e
theorem k_sum : CaK K (rSum K) pSum := by
  intro mu H m xs as d m' Q h r e k
  unfold pSum at e
  split at e
  · obtain ⟨v, rfl, rv⟩ := repl1 r
    cases rv with
    | ref z =>
      split at e
      · rename_i ds ex
        cases q : intsOf ds with
        | none => (rw [q] at e; cases e)
        | some ns =>
          rw [q] at e
          cases e
          obtain ⟨vs, e1, q1⟩ := h.lst ex z
          exact ⟨_, ns, rfl, ints_rep q q1 ▸ SqL.of e1, k _ H mu (Stp.refl _ _) h (.int _)⟩
      · cases e
  · cases e
theorem maxL_spec : ∀ {ns : List Int} {k : Int}, maxL ns = some k → 0 < ns.length ∧ ∀ m, m ∈ ns → (∀ y, y ∈ ns → y ≤ m) → m = k
  | [], _, e => by simp [maxL] at e
  | x :: r, k, e => by
    rw [maxL] at e
    cases e
    refine ⟨by simp, fun m hm hy => ?_⟩
    have key : ∀ (r : List Int) (x : Int), (∀ y ∈ r, y ≤ r.foldl max x) ∧ x ≤ r.foldl max x ∧ (r.foldl max x = x ∨ r.foldl max x ∈ r) := by
      intro r
      induction r with
      | nil => intro x; simp
      | cons y r ih =>
        intro x
        obtain ⟨i1, i2, i3⟩ := ih (max x y)
        rw [List.foldl_cons]
        refine ⟨fun z hz => ?_, by omega, ?_⟩
        · rcases List.mem_cons.mp hz with rfl | hz
          · omega
          · exact i1 z hz
        · rcases i3 with i3 | i3
          · by_cases hxy : x ≤ y
            · right; rw [i3, Int.max_eq_right hxy]; exact List.mem_cons_self
            · left; rw [i3, Int.max_eq_left (by omega)]
          · right; exact List.mem_cons_of_mem _ i3
    obtain ⟨i1, i2, i3⟩ := key r x
    have a1 : m ≤ r.foldl max x := by
      (rcases List.mem_cons.mp hm with rfl | hm)
      · exact i2
      · exact i1 m hm
    have a2 : r.foldl max x ≤ m := hy _ (by rcases i3 with i3 | i3; · rw [i3]; exact List.mem_cons_self
                                            · exact List.mem_cons_of_mem _ i3)
    omega
theorem minL_spec : ∀ {ns : List Int} {k : Int}, minL ns = some k → 0 < ns.length ∧ ∀ m, m ∈ ns → (∀ y, y ∈ ns → m ≤ y) → m = k
  | [], _, e => by simp [minL] at e
  | x :: r, k, e => by
    rw [minL] at e
    cases e
    refine ⟨by simp, fun m hm hy => ?_⟩
    have key : ∀ (r : List Int) (x : Int), (∀ y ∈ r, r.foldl min x ≤ y) ∧ r.foldl min x ≤ x ∧ (r.foldl min x = x ∨ r.foldl min x ∈ r) := by
      intro r
      induction r with
      | nil => intro x; simp
      | cons y r ih =>
        intro x
        obtain ⟨i1, i2, i3⟩ := ih (min x y)
        rw [List.foldl_cons]
        refine ⟨fun z hz => ?_, by omega, ?_⟩
        · rcases List.mem_cons.mp hz with rfl | hz
          · omega
          · exact i1 z hz
        · rcases i3 with i3 | i3
          · by_cases hxy : x ≤ y
            · left; rw [i3, Int.min_eq_left hxy]
            · right; rw [i3, Int.min_eq_right (by omega)]; exact List.mem_cons_self
          · right; exact List.mem_cons_of_mem _ i3
    obtain ⟨i1, i2, i3⟩ := key r x
    have a1 : r.foldl min x ≤ m := by
      (rcases List.mem_cons.mp hm with rfl | hm)
      · exact i2
      · exact i1 m hm
    have a2 : m ≤ r.foldl min x := hy _ (by rcases i3 with i3 | i3; · rw [i3]; exact List.mem_cons_self
                                            · exact List.mem_cons_of_mem _ i3)
    omega
def rMaxAll (K : PySem.W.Frag) : List V → Hp → VK → Prop := fun vs H Q => rMax K vs H Q ∨ (∃ i j, vs = [.int i, .int j] ∧ Q (.int (if j > i then j else i)) H)
theorem c_max (hc : X.calm = true) : CallR X (.builtin "max") (rMaxAll X.K) := (cr_max hc).or (call_max2 hc)
theorem k_max : CaK K (rMaxAll K) pMax := by
  intro mu H m xs as d m' Q h r e k
  unfold pMax at e
  split at e
  · obtain ⟨v, rfl, rv⟩ := repl1 r
    cases rv with
    | ref z =>
      split at e
      · rename_i ds ex
        cases q : intsOf ds with
        | none => (rw [q] at e; cases e)
        | some ns =>
          rw [q] at e
          cases q2 : maxL ns with
          | none => simp [q2] at e
          | some kk =>
            simp only [Option.bind_some, q2, Option.map_some, Option.some.injEq, Prod.mk.injEq] at e
            obtain ⟨rfl, rfl⟩ := e
            obtain ⟨vs, e1, q1⟩ := h.lst ex z
            obtain ⟨s1, s2⟩ := maxL_spec q2
            exact .inl ⟨_, ns, rfl, ints_rep q q1 ▸ SqL.of e1, s1, fun mm h1 h2 => by rw [s2 mm h1 h2]; exact k _ H mu (Stp.refl _ _) h (.int _)⟩
      · cases e
  · cases e
    obtain ⟨v, w, rfl, rv, rw'⟩ := repl2 r
    refine .inr ⟨_, _, by rw [rep_int rv, rep_int rw'], ?_⟩
    rename_i _ a b
    rw [show (if b > a then b else a) = max a b by split <;> omega]
    exact k _ H mu (Stp.refl _ _) h (.int _)
  · cases e
def rMinAll (K : PySem.W.Frag) : List V → Hp → VK → Prop := fun vs H Q => rMin K vs H Q ∨ (∃ i j, vs = [.int i, .int j] ∧ Q (.int (if j < i then j else i)) H)
theorem c_min (hc : X.calm = true) : CallR X (.builtin "min") (rMinAll X.K) := (cr_min hc).or (call_min2 hc)
theorem k_min : CaK K (rMinAll K) pMin := by
  intro mu H m xs as d m' Q h r e k
  unfold pMin at e
  split at e
  · obtain ⟨v, rfl, rv⟩ := repl1 r
    cases rv with
    | ref z =>
      split at e
      · rename_i ds ex
        cases q : intsOf ds with
        | none => (rw [q] at e; cases e)
        | some ns =>
          rw [q] at e
          cases q2 : minL ns with
          | none => simp [q2] at e
          | some kk =>
            simp only [Option.bind_some, q2, Option.map_some, Option.some.injEq, Prod.mk.injEq] at e
            obtain ⟨rfl, rfl⟩ := e
            obtain ⟨vs, e1, q1⟩ := h.lst ex z
            obtain ⟨s1, s2⟩ := minL_spec q2
            exact .inl ⟨_, ns, rfl, ints_rep q q1 ▸ SqL.of e1, s1, fun mm h1 h2 => by rw [s2 mm h1 h2]; exact k _ H mu (Stp.refl _ _) h (.int _)⟩
      · cases e
  · cases e
    obtain ⟨v, w, rfl, rv, rw'⟩ := repl2 r
    refine .inr ⟨_, _, by rw [rep_int rv, rep_int rw'], ?_⟩
    rename_i _ a b
    rw [show (if b < a then b else a) = min a b by split <;> omega]
    exact k _ H mu (Stp.refl _ _) h (.int _)
  · cases e
theorem k_any : CaK K (rAny K) pAny := by
  intro mu H m xs as d m' Q h r e k
  unfold pAny at e
  split at e
  · obtain ⟨v, rfl, rv⟩ := repl1 r
    cases rv with
    | ref z =>
      split at e
      · rename_i ds ex
        cases q : boolsOf ds with
        | none => (rw [q] at e; cases e)
        | some ns =>
          rw [q] at e
          cases e
          obtain ⟨vs, e1, q1⟩ := h.lst ex z
          exact ⟨_, ns, rfl, bools_rep q q1 ▸ SqL.of e1, k _ H mu (Stp.refl _ _) h (.bl _)⟩
      · cases e
  · cases e
theorem k_all : CaK K (rAll K) pAll := by
  intro mu H m xs as d m' Q h r e k
  unfold pAll at e
  split at e
  · obtain ⟨v, rfl, rv⟩ := repl1 r
    cases rv with
    | ref z =>
      split at e
      · rename_i ds ex
        cases q : boolsOf ds with
        | none => (rw [q] at e; cases e)
        | some ns =>
          rw [q] at e
          cases e
          obtain ⟨vs, e1, q1⟩ := h.lst ex z
          exact ⟨_, ns, rfl, bools_rep q q1 ▸ SqL.of e1, k _ H mu (Stp.refl _ _) h (.bl _)⟩
      · cases e
  · cases e
end
end Dm
end

section
set_option Elab.async false
set_option linter.all false
set_option maxRecDepth 100000
set_option maxHeartbeats 1100000
namespace Dm
open L2 PyProof.Rows PySem.Spec PySem

/-! ## methods -/
def Ty.nm : Ty → String
  | .int => "int" | .str => "str" | .bool => "bool" | .tuple => "tuple" | .list => "list" | .dict => "dict"
section
variable {X : Cx} {K : PySem.W.Frag}
theorem rcv_ok {mu : List Addr} {H : Hp} {m : M} {t : Ty} {x : V} {d : D} (h : HR K mu H m) (r : Rep K mu H x d) (e : rcv m t d = true) : tyV K t.nm x H := by
  unfold rcv at e
  split at e
  · have := of_decide_eq_true e; subst this; cases r; exact rfl
  · have := of_decide_eq_true e; subst this; cases r; exact rfl
  · have := of_decide_eq_true e; subst this
    cases r with
    | fl z1 z2 => exact .inl ⟨rfl, _, z1.sq⟩
  · cases r with
    | ref z =>
      split at e
      · rename_i xs ex
        have := of_decide_eq_true e; subst this
        obtain ⟨vs, e1, _⟩ := h.lst ex z
        exact .inl ⟨rfl, _, SqL.of e1⟩
      · rename_i xs ex
        have := of_decide_eq_true e; subst this
        obtain ⟨vs, e1, _⟩ := h.dct ex z
        exact .inr (.inr (.inl ⟨rfl, .inl ⟨_, e1⟩⟩))
      · cases e
  · cases e
theorem s_m0 {o : Expr} {name : Str} {apos cpos : Pos} (t : Ty) {id : String} {r : V → List V → Hp → VK → Prop} {f : D → List D → M → Option (D × M)} {fo : ES} (pa : PlainAttrs t.nm) (slot : Slot t.nm name id) (hty : typeOf (.builtin id) = pure (.type "method_descriptor")) (hm : MtR X id r) (ho : SE X o fo)
    (hk : MtK X.K r f) (hbase : attributeBase o name X.env (eval o X.env) = eval o X.env := by rfl) (hline : (apos.endLine == cpos.line) = true := by rfl) : SE X (.Call (.Attribute o name apos) [] [] cpos) (eMeth t f fo aNil) :=
  (pe_bm0 pa slot hty hm ho hbase hline).imp fun st H Q ⟨mu, env, m, d, m', h, r, e, k⟩ => by
    unfold eMeth at e
    split at e
    · rename_i d1 m1 e1
      split at e
      · rename_i ht
        exact ⟨mu, env, m, d1, m1, h, r, e1, fun v1 H1 mu1 s1 h1 r1 => ⟨rcv_ok h1 r1 ht, hk mu1 H1 m1 v1 d1 [] [] d m' Q h1 r1 .nil e fun v H' mu' s3 h3 r3 => k v H' mu' (s1.trans s3) h3 r3⟩⟩
      · cases e
    · cases e
theorem s_m {o e : Expr} {es : List Expr} {name : Str} {apos cpos : Pos} (t : Ty) {id : String} {r : V → List V → Hp → VK → Prop} {f : D → List D → M → Option (D × M)} {fo : ES} {g : LS} (pa : PlainAttrs t.nm) (slot : Slot t.nm name id) (hty : typeOf (.builtin id) = pure (.type "method_descriptor")) (hm : MtR X id r) (ho : SE X o fo) (ha : SA X (e :: es) g)
    (hk : MtK X.K r f) (hbase : attributeBase o name X.env (eval o X.env) = eval o X.env := by rfl) (hfew : ((backTo cpos (starEach (e :: es) X.env)).all (fun x => !x.1) && (backToKw cpos (keywordEach [] X.env)).all (fun x => x.1.isSome) && decide ((e :: es).length + ([] : List Keyword).length + (if ([] : List Keyword).isEmpty then 0 else 1) < 30)) = true := by rfl) (hline : (apos.endLine == cpos.line) = true := by rfl) (hs : starEach (e :: es) X.env = (false, eval e X.env) :: starEach es X.env := by rfl) (hplain : (backTo cpos (starEach es X.env)).any (·.1) = false := by rfl) :
    SE X (.Call (.Attribute o name apos) (e :: es) [] cpos) (eMeth t f fo g) :=
  (pe_bm pa slot hty hm ho ha hbase hfew hline hs hplain).imp fun st H Q ⟨mu, env, m, d, m', h, r, e, k⟩ => by
    unfold eMeth at e
    split at e
    · rename_i d1 m1 e1
      split at e
      · rename_i ht
        split at e
        · rename_i ds m2 e2
          exact ⟨mu, env, m, d1, m1, h, r, e1, fun v1 H1 mu1 s1 h1 r1 => ⟨rcv_ok h1 r1 ht, mu1, env, m1, ds, m2, h1, r.step s1 h, e2, fun vs H2 mu2 s2 h2 r2 =>
            hk mu2 H2 m2 v1 d1 vs ds d m' Q h2 (r1.step s2 h1) r2 e fun v H' mu' s3 h3 r3 => k v H' mu' (s1.trans (s2.trans s3)) h3 r3⟩⟩
        · cases e
      · cases e
    · cases e
/-- a list of the small heap is rewritten -/
theorem put_lst {mu : List Addr} {H : Hp} {m : M} {l : Nat} {a : Addr} {ds ds' : List D} {vs' : List V} (h : HR K mu H m) (ex : m[l]? = some (.lst ds)) (z : mu[l]? = some a) (r : RepL K mu H vs' ds') :
    Stp mu H mu (L2.upd H a (.lst vs')) ∧ HR K mu (L2.upd H a (.lst vs')) (m.set l (.lst ds')) ∧ Keep H (L2.upd H a (.lst vs')) :=
  ⟨Stp.put z, h.put ex z ⟨_, upd_same, RepL.keep (List.prefix_refl _) (Keep.put h ex z) _ _ r⟩, Keep.put h ex z⟩
theorem k_append : MtK K rAppend mAppend := by
  intro mu H m x a xs as d m' Q h r1 r2 e k
  unfold mAppend at e
  split at e
  · split at e
    · rename_i ds ex
      split at e
      · rename_i hl
        cases e
        obtain ⟨v, rfl, rv⟩ := repl1 r2
        cases r1 with
        | ref z =>
          obtain ⟨vs, e1, q1⟩ := h.lst ex z
          obtain ⟨a1, a2, _⟩ := put_lst h ex z (q1.append (RepL.one rv))
          exact ⟨_, vs, v, rfl, rfl, e1, by rw [q1.length, ← lineN_eq]; exact hl, k _ _ mu a1 a2 .non⟩
      · cases e
    · cases e
  · cases e
theorem RepL.dropLast {mu : List Addr} {H : Hp} {vs : List V} {xs : List D} (r : RepL K mu H vs xs) : RepL K mu H vs.dropLast xs.dropLast := by
  refine RepL.of_get (by rw [List.length_dropLast, List.length_dropLast, r.length]) fun i w e h1 h2 => ?_
  rw [List.getElem?_dropLast] at h1 h2
  split at h1
  · split at h2
    · obtain ⟨w', q, rw'⟩ := r.get h2
      rw [q] at h1; cases h1; exact rw'
    · cases h2
  · cases h1
theorem RepL.eraseIdx {mu : List Addr} {H : Hp} {vs : List V} {xs : List D} (r : RepL K mu H vs xs) (j : Nat) : RepL K mu H (vs.eraseIdx j) (xs.eraseIdx j) := by
  refine RepL.of_get (by rw [List.length_eraseIdx, List.length_eraseIdx, r.length]) fun i w e h1 h2 => ?_
  rw [List.getElem?_eraseIdx] at h1 h2
  split at h1
  · rename_i hl
    rw [if_pos hl] at h2
    obtain ⟨w', q, rw'⟩ := r.get h2
    rw [q] at h1; cases h1; exact rw'
  · rename_i hl
    rw [if_neg hl] at h2
    obtain ⟨w', q, rw'⟩ := r.get h2
    rw [q] at h1; cases h1; exact rw'
theorem RepL.reverse {mu : List Addr} {H : Hp} : ∀ {vs : List V} {xs : List D}, RepL K mu H vs xs → RepL K mu H vs.reverse xs.reverse
  | _, [], r => by cases r; exact .nil
  | _, x :: xs, r => by
    cases r with
    | cons h t => rw [List.reverse_cons, List.reverse_cons]; exact (RepL.reverse t).append (RepL.one h)
/-- pop at any place, the number of bits of the index told by the list -/
def rPopAll : V → List V → Hp → VK → Prop := fun x vs H Q => rPop x vs H Q ∨ rPopAt x vs H Q
theorem m_pop : MtR X "list.pop" rPopAll := MtR.or mt_pop mt_popAt
theorem k_pop : MtK K rPopAll mPop := by
  intro mu H m x a xs as d m' Q h r1 r2 e k
  unfold mPop at e
  split at e
  · split at e
    · rename_i ds ex
      split at e
      · rename_i y ey
        cases e
        cases r2
        cases r1 with
        | ref z =>
          obtain ⟨vs, e1, q1⟩ := h.lst ex z
          obtain ⟨v, hv, rv⟩ := q1.get ey
          obtain ⟨a1, a2, a3⟩ := put_lst h ex z q1.dropLast
          refine .inl ⟨_, vs, v, rfl, rfl, e1, by rw [q1.length]; exact hv, k _ _ mu a1 a2 (Rep.keep (List.prefix_refl _) a3 _ _ rv)⟩
      · cases e
    · cases e
  · rename_i l i
    split at e
    · rename_i ds ex
      split at e
      · rename_i j ej
        split at e
        · rename_i y ey
          split at e
          · rename_i hn
            cases e
            obtain ⟨v, rfl, rv⟩ := repl1 r2
            have ev := rep_int rv
            subst ev
            cases r1 with
            | ref z =>
              obtain ⟨vs, e1, q1⟩ := h.lst ex z
              obtain ⟨w, hw, rw'⟩ := q1.get ey
              obtain ⟨a1, a2, a3⟩ := put_lst h ex z (q1.eraseIdx j)
              have hj : ixN vs.length i = some j := by rw [q1.length]; exact ej
              obtain ⟨b1, b2, b3, b4⟩ := ixN_seq hj
              have e24 : lineN = 16777216 := rfl
              exact .inr ⟨_, vs, i, j, w, rfl, rfl, e1, by omega, by omega, b1, hw, k _ _ mu a1 a2 (Rep.keep (List.prefix_refl _) a3 _ _ rw')⟩
          · cases e
        · cases e
      · cases e
    · cases e
  · cases e
theorem k_reverse : MtK K rReverse mReverse := by
  intro mu H m x a xs as d m' Q h r1 r2 e k
  unfold mReverse at e
  split at e
  · split at e
    · rename_i ds ex
      cases e
      cases r2
      cases r1 with
      | ref z =>
        obtain ⟨vs, e1, q1⟩ := h.lst ex z
        obtain ⟨a1, a2, _⟩ := put_lst h ex z q1.reverse
        exact ⟨_, vs, rfl, rfl, e1, k _ _ mu a1 a2 .non⟩
    · cases e
  · cases e

/-! ## numbers' methods -/
theorem nbits_eq (i : Int) : Builtin.Int.intBits i = nbits i := by
  unfold Builtin.Int.intBits
  cases i with
  | ofNat n =>
    cases n with
    | zero => rfl
    | succ n =>
      have : (Int.ofNat (n + 1) == 0) = false := beq_eq_false_iff_ne.mpr (by intro h; cases h)
      rw [this]
      rfl
  | negSucc n =>
    have : (Int.negSucc n == 0) = false := beq_eq_false_iff_ne.mpr (by intro h; cases h)
    rw [this]
    rfl
theorem s_bits {o : Expr} {apos pos : Pos} {fo : ES} (ho : SE X o fo) (hbase : attributeBase o "bit_length" X.env (eval o X.env) = eval o X.env := by rfl) (hline : (apos.endLine == pos.line) = true := by rfl) : SE X (.Call (.Attribute o "bit_length" apos) [] [] pos) (eMeth .int mBits fo aNil) :=
  (pe_bits ho hbase hline).imp fun st H Q ⟨mu, env, m, d, m', h, r, e, k⟩ => by
    unfold eMeth at e
    split at e
    · rename_i d1 m1 e1
      split at e
      · rename_i ht
        refine ⟨mu, env, m, d1, m1, h, r, e1, fun v1 H1 mu1 s1 h1 r1 => ?_⟩
        simp only [aNil] at e
        unfold mBits at e
        split at e
        · cases e
          exact ⟨_, rep_int r1, by rw [nbits_eq]; exact k _ H1 mu1 s1 h1 (.int _)⟩
        · cases e
      · cases e
    · cases e

/-! ## isinstance -/
theorem kit_all : ∀ (a b : Ty), kitB a.nm b.nm = some (decide (a = b) || (decide (a = .bool) && decide (b = .int))) := by
  intro a b
  cases a <;> cases b <;> decide +kernel
theorem kit_non : ∀ (b : Ty), kitB "NoneType" b.nm = some false := by
  intro b
  cases b <;> decide +kernel
theorem tx_ty {mu : List Addr} {H : Hp} {m : M} {x : V} {d : D} {t0 : Ty} {b0 : Bool} (h : HR K mu H m) (r : Rep K mu H x d) (e : isTy m d t0 = some b0) : ∃ c : String, TyX K H x (.type c) ∧ ∀ (t : Ty) (b : Bool), isTy m d t = some b → PySem.W.kitOne K (.type c) (.type t.nm) = some b := by
  have fin : ∀ (a : Ty), TyX K H x (.type a.nm) → (∀ (t : Ty) (b : Bool), isTy m d t = some b → b = (decide (a = t) || (decide (a = .bool) && decide (t = .int)))) → ∃ c : String, TyX K H x (.type c) ∧ ∀ (t : Ty) (b : Bool), isTy m d t = some b → PySem.W.kitOne K (.type c) (.type t.nm) = some b := fun a h1 h2 =>
    ⟨a.nm, h1, fun t b q => by rw [h2 t b q]; exact kit_ty (kit_all a t)⟩
  cases d with
  | non => cases r; exact ⟨"NoneType", .base .non, fun t b q => by cases q; exact kit_ty (kit_non t)⟩
  | bl y => cases r; exact fin .bool (.base (.bl _)) fun t b q => by cases q; cases t <;> rfl
  | int y => cases r; exact fin .int (.base (.int _)) fun t b q => by cases q; cases t <;> rfl
  | str y => cases r; exact fin .str (.base (.str _)) fun t b q => by cases q; cases t <;> rfl
  | tup ys =>
    cases r with
    | tup z1 z2 =>
      refine fin .tuple ?_ fun t b q => by cases q; cases t <;> rfl
      rcases z1 with (z1 | ⟨o, z1⟩) | ⟨o, its, n, z1, z2, _⟩
      · exact .base (.tup z1)
      · exact .fTuple z1
      · exact .kTuple z1 z2
  | fl ys =>
    cases r with
    | fl z1 z2 =>
      refine fin .list ?_ fun t b q => by cases q; cases t <;> rfl
      rcases z1 with ⟨o, z1⟩ | ⟨o, its, n, z1, z2, _⟩
      · exact .base (.frz z1)
      · exact .kList z1 z2
  | ref l =>
    cases r with
    | ref z =>
      unfold isTy at e
      dsimp only at e
      split at e
      · rename_i xs ex
        obtain ⟨vs, e1, _⟩ := h.lst ex z
        exact fin .list (.base (.lst e1)) fun t b q => by unfold isTy at q; simp only [ex] at q; cases q; cases t <;> rfl
      · rename_i xs ex
        obtain ⟨vs, e1, _⟩ := h.dct ex z
        exact fin .dict (.base (.dK e1)) fun t b q => by unfold isTy at q; simp only [ex] at q; cases q; cases t <;> rfl
      · cases e
/-- a built-in class by its name -/
structure TyN (X : Cx) (x : Str) (t : Ty) : Prop where
  gl : Gl X x
  mg : X.mg x = none
  bv : bootBuiltins x = some (.type t.nm)
  n1 : x ≠ "__name__"
  n2 : (x == ("__debug__" : Str)) = false
theorem TyN.pe {x : Str} {t : Ty} (h : TyN X x t) {pos : Pos} : PE X (.Name x pos) (tC (.ty t.nm)) := pe_bltn h.gl h.mg h.bv rfl h.n1 h.n2
theorem s_isi1 {e : Expr} {f : ES} {x : Str} {t : Ty} {p p2 pos : Pos} (hg : Gl X "isinstance") (hm : X.mg "isinstance" = none) (hv : bootBuiltins "isinstance" = some (.builtin "isinstance")) (ht : TyN X x t) (he : SE X e f)
    (h1 : starEach [e, .Name x p2] X.env = (false, eval e X.env) :: starEach [.Name x p2] X.env := by rfl) (h2 : (backTo pos (starEach [.Name x p2] X.env)).any (·.1) = false := by rfl) :
    SE X (.Call (.Name "isinstance" p) [e, .Name x p2] [] pos) (eUn (oIsi [t]) f) :=
  (pe_callB call_isi hg hm hv (pa_cons he (pa_cons ht.pe pa_nil) h1) (by decide) (by decide) h1 h2).imp fun st H Q ⟨mu, env, m, d, m', h, r, e, k⟩ => by
    unfold eUn at e
    split at e
    · rename_i d1 m1 e1
      refine ⟨mu, env, m, d1, m1, h, r, e1, fun v1 H1 mu1 s1 h1 r1 => ?_⟩
      unfold oIsi at e
      split at e
      · rename_i eb
        cases e
        obtain ⟨c, a1, a2⟩ := tx_ty h1 r1 eb
        exact ⟨_, _, _, _, _, rfl, .ty _, a1, a2 _ _ eb, k _ H1 mu1 s1 h1 (.bl _)⟩
      · rename_i eb
        simp only [oIsi] at e
        cases e
        obtain ⟨c, a1, a2⟩ := tx_ty h1 r1 eb
        exact ⟨_, _, _, _, _, rfl, .ty _, a1, a2 _ _ eb, k _ H1 mu1 s1 h1 (.bl _)⟩
      · cases e
    · cases e
theorem s_isi2 {e : Expr} {f : ES} {x y : Str} {t u : Ty} {p p2 p3 p4 pos : Pos} {k0} (hg : Gl X "isinstance") (hm : X.mg "isinstance" = none) (hv : bootBuiltins "isinstance" = some (.builtin "isinstance")) (ht : TyN X x t) (hu : TyN X y u) (he : SE X e f)
    (h1 : starEach [e, .Tuple [.Name x p2, .Name y p3] k0 p4] X.env = (false, eval e X.env) :: starEach [.Tuple [.Name x p2, .Name y p3] k0 p4] X.env := by rfl) (h2 : (backTo pos (starEach [.Tuple [.Name x p2, .Name y p3] k0 p4] X.env)).any (·.1) = false := by rfl) :
    SE X (.Call (.Name "isinstance" p) [e, .Tuple [.Name x p2, .Name y p3] k0 p4] [] pos) (eUn (oIsi [t, u]) f) :=
  (pe_callB call_isiT hg hm hv (pa_cons he (pa_cons (pe_tup (pa_cons ht.pe (pa_cons hu.pe pa_nil))) pa_nil) h1) (by decide) (by decide) h1 h2).imp fun st H Q ⟨mu, env, m, d, m', h, r, e, k⟩ => by
    unfold eUn at e
    split at e
    · rename_i d1 m1 e1
      refine ⟨mu, env, m, d1, m1, h, r, e1, fun v1 H1 mu1 s1 h1 r1 => ⟨by show 2 ≤ sizeLine; rw [sizeLine_eq]; decide, fun q hq => ?_⟩⟩
      have s2 : Stp mu1 H1 mu1 (L2.upd H1 q (.tup [.ty t.nm, .ty u.nm])) := Stp.upd hq
      have h2 : HR X.K mu1 (L2.upd H1 q (.tup [.ty t.nm, .ty u.nm])) m1 := h1.upd hq
      have r2 := r1.step s2 h1
      have done : ∀ {c : String} {b : Bool}, TyX X.K (L2.upd H1 q (.tup [.ty t.nm, .ty u.nm])) v1 (.type c) → PySem.W.kitAny X.K (.type c) [.type t.nm, .type u.nm] = some b → Q (.bl b) (L2.upd H1 q (.tup [.ty t.nm, .ty u.nm])) →
          rIsiT X.K [v1, .ref q] (L2.upd H1 q (.tup [.ty t.nm, .ty u.nm])) Q := fun a b c => ⟨_, _, _, _, _, _, rfl, upd_same, .cons (.ty _) (.cons (.ty _) .nil), a, b, c⟩
      unfold oIsi at e
      split at e
      · rename_i eb
        cases e
        obtain ⟨c, a1, a2⟩ := tx_ty h2 r2 eb
        exact done a1 (kitAny_cons (a2 _ _ eb) (fun z => nomatch z) fun _ => rfl) (k _ _ mu1 (s1.trans s2) h2 (.bl true))
      · rename_i eb
        obtain ⟨c, a1, a2⟩ := tx_ty h2 r2 eb
        unfold oIsi at e
        split at e
        · rename_i ec
          cases e
          exact done a1 (kitAny_cons (a2 _ _ eb) (fun _ => kitAny_cons (a2 _ _ ec) (fun z => nomatch z) fun _ => rfl) (fun z => nomatch z)) (k _ _ mu1 (s1.trans s2) h2 (.bl true))
        · rename_i ec
          simp only [oIsi] at e
          cases e
          exact done a1 (kitAny_cons (a2 _ _ eb) (fun _ => kitAny_cons (a2 _ _ ec) (fun _ => kitAny_nil) (fun z => nomatch z)) (fun z => nomatch z)) (k _ _ mu1 (s1.trans s2) h2 (.bl false))
        · cases e
      · cases e
    · cases e
end
end Dm
end

section
set_option Elab.async false
set_option linter.all false
set_option maxRecDepth 100000
set_option maxHeartbeats 1100000
namespace Dm
open L2 PyProof.Rows PySem.Spec PySem

/-! ## sorting -/
mutual
theorem alk_py : ∀ a b : D, D.alk a b = true → PySem.W.alike a.py b.py = true
  | .int _, b, h => by cases b <;> simp [D.alk] at h <;> rfl
  | .str _, b, h => by cases b <;> simp [D.alk] at h <;> rfl
  | .tup xs, b, h => by
    cases b with
    | tup ys => rw [D.py, D.py, PySem.W.alike]; exact alk_pyL xs ys (by simpa [D.alk] using h)
    | _ => simp [D.alk] at h
  | .fl xs, b, h => by
    cases b with
    | fl ys => rw [D.py, D.py, PySem.W.alike]; exact alk_pyL xs ys (by simpa [D.alk] using h)
    | _ => simp [D.alk] at h
  | .non, b, h => by cases b <;> simp [D.alk] at h
  | .bl _, b, h => by cases b <;> simp [D.alk] at h
  | .ref _, b, h => by cases b <;> simp [D.alk] at h
theorem alk_pyL : ∀ a b : List D, D.alkL a b = true → PySem.W.alikeAll (D.pyL a) (D.pyL b) = true
  | [], _, _ => by rw [D.pyL, PySem.W.alikeAll]
  | x :: xs, [], _ => by rw [D.pyL, D.pyL, PySem.W.alikeAll]
  | x :: xs, y :: ys, h => by
    rw [D.alkL, Bool.and_eq_true] at h
    rw [D.pyL, D.pyL, PySem.W.alikeAll, alk_py x y h.1, alk_pyL xs ys h.2]; rfl
end
theorem row_nil : PySem.W.rowLt [] [] = false := lex_irrefl _
theorem row_nc (y : PyData) (ys : List PyData) : PySem.W.rowLt [] (y :: ys) = true := by
  unfold PySem.W.rowLt
  rw [PySem.W.toks_all_cons]
  simp only [PySem.W.keyToksAll]
  (rw [lex_diff (O := itemOrd) (by simp)])
  rfl
theorem row_cn (y : PyData) (ys : List PyData) : PySem.W.rowLt (y :: ys) [] = false := by
  unfold PySem.W.rowLt
  rw [PySem.W.toks_all_cons]
  simp only [PySem.W.keyToksAll]
  (rw [lex_diff (O := itemOrd) (by simp)])
  rfl
mutual
theorem lt_py : ∀ a b : D, D.alk a b = true → a.gr = true → b.gr = true → PySem.W.dataLt a.py b.py = D.lt a b
  | .int x, b, h, _, _ => by
    cases b with
    | int y => rw [D.py, D.py, PySem.W.dataLt_int, D.lt]
    | _ => simp [D.alk] at h
  | .str x, b, h, _, _ => by
    cases b with
    | str y => rw [D.py, D.py, PySem.W.dataLt_str, D.lt]
    | _ => simp [D.alk] at h
  | .tup xs, b, h, ga, gb => by
    cases b with
    | tup ys => rw [D.py, D.py, PySem.W.dataLt_tuple, D.lt]; exact lt_pyL xs ys (by simpa [D.alk] using h) (by simpa [D.gr] using ga) (by simpa [D.gr] using gb)
    | _ => simp [D.alk] at h
  | .fl xs, b, h, ga, gb => by
    cases b with
    | fl ys => rw [D.py, D.py, PySem.W.dataLt_list, D.lt]; exact lt_pyL xs ys (by simpa [D.alk] using h) (by simpa [D.gr] using ga) (by simpa [D.gr] using gb)
    | _ => simp [D.alk] at h
  | .non, b, h, _, _ => by cases b <;> simp [D.alk] at h
  | .bl _, b, h, _, _ => by cases b <;> simp [D.alk] at h
  | .ref _, b, h, _, _ => by cases b <;> simp [D.alk] at h
theorem lt_pyL : ∀ a b : List D, D.alkL a b = true → D.grL a = true → D.grL b = true → PySem.W.rowLt (D.pyL a) (D.pyL b) = D.ltL a b
  | [], [], _, _, _ => by rw [D.pyL, row_nil, D.ltL]
  | [], y :: ys, _, _, _ => by rw [D.pyL, D.pyL, row_nc, D.ltL]
  | x :: xs, [], _, _, _ => by rw [D.pyL, D.pyL, row_cn, D.ltL]
  | x :: xs, y :: ys, h, ga, gb => by
    rw [D.alkL, Bool.and_eq_true] at h
    rw [D.grL, Bool.and_eq_true] at ga gb
    rw [D.pyL, D.pyL, D.ltL]
    have e := PySem.W.dataLt_cons (alk_py x y h.1) (D.pyL xs) (D.pyL ys)
    have e2 : PySem.W.rowLt (x.py :: D.pyL xs) (y.py :: D.pyL ys) = _ := e
    rw [e2, eq_py x y ga.1 gb.1, lt_py x y h.1 ga.1 gb.1]
    have e3 : PyProof.Rows.lexLt itemOrd (PySem.W.keyToksAll (D.pyL xs)) (PySem.W.keyToksAll (D.pyL ys)) = PySem.W.rowLt (D.pyL xs) (D.pyL ys) := rfl
    rw [e3, lt_pyL xs ys h.2 ga.2 gb.2]
end

/-! ### the items with their data, in order -/
abbrev VP := V × PyData
def vle (a b : VP) : Bool := PySem.W.dataLe false (fun z : VP => z.2) a b
theorem vals_each {T : List VP} : ∀ {us : List Value}, Vals (T.map (·.1)) us → PySem.W.EachIs (fun (u : Value) (b : VP) => RelV b.1 u) us T := by
  induction T with
  | nil => intro us h; cases h; exact .nil
  | cons b T ih =>
    intro us h
    cases h with
    | cons h1 h2 => exact .cons h1 (ih h2)
theorem each_vals {us : List Value} : ∀ {T : List VP}, PySem.W.EachIs (fun (u : Value) (b : VP) => RelV b.1 u) us T → Vals (T.map (·.1)) us := by
  induction us with
  | nil => intro T h; cases h; exact .nil
  | cons u us ih =>
    intro T h
    cases h with
    | cons h1 h2 => exact .cons h1 (ih h2)
theorem reads_each {X : Cx} {pins : List (Addr × Obj)} {st : L2.St} {H : Hp} {s : Shared} (I : Inv X pins st H s) : ∀ {T : List VP} {us : List Value}, Vals (T.map (·.1)) us → DpAll X.K H (T.map (·.1)) (T.map (·.2)) → PySem.W.EachIs (fun (u : Value) (b : VP) => ∃ as, Reads s.heap u b.2 as) us T
  | [], _, h, _ => by cases h; exact .nil
  | b :: T, _, h, d => by
    cases h with
    | cons h1 h2 =>
      cases d with
      | cons d1 d2 => exact .cons (Dp.reads I _ _ _ d1 h1) (reads_each I h2 d2)
def rSortD (K : PySem.W.Frag) : List V → Hp → VK → Prop := fun xs H Q => ∃ (a : Addr) (T : List VP), xs = [.ref a] ∧ SqL K H a (T.map (·.1)) ∧
  ((DpAll K H (T.map (·.1)) (T.map (·.2)) ∧ PySem.W.AllAlike (T.map (·.2)) ∧ PySem.W.Sortable (T.map (·.2)) ∧ ∀ t, t ∈ T → t.2.depth ≤ 60) ∨ T.length ≤ 1) ∧
  ∀ p, H p = none → Q (.ref p) (L2.upd H p (.lst ((T.mergeSort vle).map (·.1))))
theorem sort_short {T : List VP} (h : T.length ≤ 1) : T.mergeSort vle = T := by
  cases T with
  | nil => simp
  | cons a T =>
    cases T with
    | nil => simp
    | cons b T => simp at h
section
variable {X : Cx} {K : PySem.W.Frag}
theorem c_sorted (hu : X.A.units + 64 < cLine) : CallR X (.builtin "sorted") (rSortD X.K) := by
  (intro pins s σ H xs us Q I r h)
  obtain ⟨a, T, rfl, hq, hc, q⟩ := h
  (obtain ⟨u, rfl, ru⟩ := vals1 r)
  cases ru
  (obtain ⟨its, rv, p, hz⟩ := I.list hq)
  have hTl : T.length = its.length := by have := rv.length; rwa [List.length_map] at this
  have hz' : T.length ≤ sizeLine := by rwa [List.length_map] at hz
  have fin : ∀ (out : List Value) (T' : List VP), Vals (T'.map (·.1)) out → T'.map (·.1) = (T.mergeSort vle).map (·.1) → T'.length = T.length → EP X pins σ Q (.ref (s.heap.objs.size + 1)) { s with heap := sortedAll s.heap its out.toArray } := by
    intro out T' h1 h2 h3
    (obtain ⟨ep, he'⟩ := PyProof.Rows.sortedAll_at s.heap its out.toArray)
    have q' := q (s.heap.objs.size + 1) (I.hok.fresh (Nat.le_succ _))
    rw [← h2] at q'
    exact ⟨.ref _, L2.upd H (s.heap.objs.size + 1) (.lst (T'.map (·.1))), I.laid (t' := s.toks) (fun _ _ => PyProof.Rows.sortedAll_old) (Nat.le_succ _) ⟨by rw [List.length_map, h3]; exact hz', _, ep, h1, he'⟩, rfl, q'⟩
  rcases hc with ⟨hd, hal, hk, hdep⟩ | hshort
  · refine PySem.W.sorted_data (R := fun (u : Value) (b : VP) => RelV b.1 u) (enc := fun z : VP => z.2) p.isList (vals_each rv) (reads_each I rv hd) hal hk hz' (fun b hb => ?_) fun out hl he => ?_
    · have := hdep b hb; omega
    · exact fin out _ (each_vals he) rfl (List.length_mergeSort _)
  · refine SrtO.sorted_ord (ltv := fun _ _ => false) ⟨fun _ _ _ => rfl, fun _ _ _ _ _ => rfl⟩ p.isList (by rw [← hTl]; exact hz') (fun h2 => absurd h2 (by omega)) fun out h1 h2 => ?_
    have hp := h2.perm
    have eo : out = its := by
      cases its with
      | nil => exact hp.eq_nil
      | cons x its =>
        cases its with
        | nil => exact List.perm_singleton.mp hp
        | cons y its => simp at hTl; omega
    subst eo
    exact fin _ T rv (by rw [sort_short hshort]) rfl
abbrev ZP := V × (D × D)
theorem sort_rep {mu : List Addr} {H : Hp} {m : M} (Z : List ZP) (hr : ∀ z ∈ Z, Rep K mu H z.1 z.2.1) (ha : (sortable (Z.map fun z => z.2.2) || decide (Z.length ≤ 1)) = true) :
    RepL K mu H ((((Z.map fun z => ((z.1, z.2.2.py) : VP)).mergeSort vle)).map (·.1)) (sortBy (Z.map (·.2))) := by
  have key : ∀ (Z' : List ZP), (∀ z ∈ Z', Rep K mu H z.1 z.2.1) → RepL K mu H ((Z'.map fun z => ((z.1, z.2.2.py) : VP)).map (·.1)) ((Z'.map (·.2)).map (·.1)) := by
    intro Z'
    induction Z' with
    | nil => intro _; exact .nil
    | cons z Z' ih => intro h; exact .cons (h z List.mem_cons_self) (ih fun y hy => h y (List.mem_cons_of_mem _ hy))
  rw [Bool.or_eq_true] at ha
  rcases ha with ha | ha
  · unfold sortable at ha
    rw [Bool.and_eq_true, Bool.and_eq_true] at ha
    have hal : ∀ a ∈ Z, ∀ b ∈ Z, D.alk a.2.2 b.2.2 = true := fun a h1 b h2 =>
      List.all_eq_true.mp (List.all_eq_true.mp ha.1.1 _ (List.mem_map.mpr ⟨a, h1, rfl⟩)) _ (List.mem_map.mpr ⟨b, h2, rfl⟩)
    have hsh : ∀ a ∈ Z, a.2.2.gr = true := fun a h1 => shp_gr (List.all_eq_true.mp ha.2 _ (List.mem_map.mpr ⟨a, h1, rfl⟩))
    have e1 : ((Z.map fun z => ((z.1, z.2.2.py) : VP)).mergeSort vle) = (Z.mergeSort fun a b => D.le a.2.2 b.2.2).map fun z => ((z.1, z.2.2.py) : VP) := by
      refine (List.map_mergeSort fun a h1 b h2 => ?_).symm
      show D.le a.2.2 b.2.2 = PySem.W.dataLe false (fun z : VP => z.2) (a.1, a.2.2.py) (b.1, b.2.2.py)
      rw [PySem.W.dataLe_eq]
      show D.le a.2.2 b.2.2 = !PySem.W.dataLt b.2.2.py a.2.2.py
      rw [lt_py _ _ (hal b h2 a h1) (hsh b h2) (hsh a h1)]
      rfl
    have e2 : ((Z.map (·.2)).mergeSort fun p q => D.le p.2 q.2) = (Z.mergeSort fun a b => D.le a.2.2 b.2.2).map (·.2) := (List.map_mergeSort (r := fun a b : ZP => D.le a.2.2 b.2.2) (s := fun p q : D × D => D.le p.2 q.2) (f := fun z : ZP => z.2) (l := Z) fun a _ b _ => rfl).symm
    unfold sortBy
    rw [e1, e2]
    exact key _ fun z hz => hr z ((List.mergeSort_perm Z _).mem_iff.mp hz)
  · have hl := of_decide_eq_true ha
    rw [sort_short (by rw [List.length_map]; exact hl)]
    have e2 : sortBy (Z.map (·.2)) = (Z.map (·.2)).map (·.1) := by
      unfold sortBy
      cases Z with
      | nil => simp
      | cons z Z =>
        cases Z with
        | nil => simp
        | cons y Z => simp at hl
    rw [e2]
    exact key Z hr
theorem sortable_py {ks : List D} (h : sortable ks = true) : PySem.W.AllAlike (ks.map D.py) ∧ PySem.W.Sortable (ks.map D.py) ∧ (∀ k ∈ ks, k.gr = true ∧ k.py.depth ≤ 60) := by
  unfold sortable at h
  rw [Bool.and_eq_true, Bool.and_eq_true, Bool.or_eq_true] at h
  refine ⟨fun d hd d' hd' => ?_, ?_, fun k hk => ?_⟩
  · obtain ⟨k, h1, rfl⟩ := List.mem_map.mp hd
    obtain ⟨k', h2, rfl⟩ := List.mem_map.mp hd'
    exact alk_py _ _ (List.all_eq_true.mp (List.all_eq_true.mp h.1.1 k h1) k' h2)
  · rcases h.1.2 with q | q
    · left
      intro d hd
      obtain ⟨k, h1, rfl⟩ := List.mem_map.mp hd
      have := List.all_eq_true.mp q k h1
      unfold D.isT1 at this
      split at this
      · rename_i x xs; exact ⟨_, _, by rw [D.py, D.pyL]⟩
      · cases this
    · right
      intro d hd
      obtain ⟨k, h1, rfl⟩ := List.mem_map.mp hd
      have := List.all_eq_true.mp q k h1
      unfold D.isO at this
      split at this
      · exact ⟨(fun z => nomatch z), fun _ z => nomatch z⟩
      · exact ⟨(fun z => nomatch z), fun _ z => nomatch z⟩
      · exact ⟨by rw [D.py]; exact (fun z => nomatch z), fun _ z => by rw [D.py] at z; cases z⟩
      · cases this
  · have := List.all_eq_true.mp h.2 k hk
    refine ⟨shp_gr this, ?_⟩
    unfold D.shp at this
    rw [Bool.and_eq_true] at this
    rw [dep_py]
    exact of_decide_eq_true this.2
theorem lst_rep {mu : List Addr} {H : Hp} {m : M} {v : V} {d : D} {xs : List D} (h : HR K mu H m) (r : Rep K mu H v d) (e : lstOf m d = some xs) : ∃ a vs, v = .ref a ∧ SqL K H a vs ∧ RepL K mu H vs xs := by
  cases d with
  | fl ds => cases e; cases r with | fl z1 z2 => exact ⟨_, _, rfl, z1.sq, z2⟩
  | ref l =>
    unfold lstOf at e
    dsimp only at e
    split at e
    · rename_i ds ed
      cases e
      cases r with
      | ref z =>
        obtain ⟨vs, e1, r1⟩ := h.lst ed z
        exact ⟨_, _, rfl, SqL.of e1, r1⟩
    · cases e
  | _ => cases e
theorem keysBy_items {f : D → M → Option (D × M)} {m : M} : ∀ {xs : List D} {ps : List (D × D)}, keysBy f m xs = some ps → ps.map (·.1) = xs ∧ ∀ p ∈ ps, f p.1 m = some (p.2, m)
  | [], _, e => by cases e; exact ⟨rfl, fun _ h => by simp at h⟩
  | x :: r, ps, e => by
    unfold keysBy at e
    split at e
    · rename_i k m1 e1
      split at e
      · rename_i em
        subst em
        split at e
        · rename_i qs e2
          cases e
          obtain ⟨i1, i2⟩ := keysBy_items e2
          refine ⟨by rw [List.map_cons, i1], fun p hp => ?_⟩
          (rcases List.mem_cons.mp hp with rfl | hp)
          · exact e1
          · exact i2 p hp
        · cases e
      · cases e
    · cases e
/-- the items, each with its value -/
theorem zip_rep {mu : List Addr} {H : Hp} : ∀ {ps : List (D × D)} {vs : List V}, RepL K mu H vs (ps.map (·.1)) → ∃ Z : List ZP, Z.map (·.1) = vs ∧ Z.map (·.2) = ps ∧ ∀ z ∈ Z, Rep K mu H z.1 z.2.1
  | [], _, r => by cases r; exact ⟨[], rfl, rfl, fun _ h => by simp at h⟩
  | p :: ps, _, r => by
    cases r with
    | cons h t =>
      obtain ⟨Z, e1, e2, e3⟩ := zip_rep t
      refine ⟨(_, p) :: Z, by rw [List.map_cons, e1], by rw [List.map_cons, e2], fun z hz => ?_⟩
      (rcases List.mem_cons.mp hz with rfl | hz)
      · exact h
      · exact e3 z hz
theorem dpall_of {H : Hp} : ∀ {Z : List ZP}, (∀ z ∈ Z, Dp K H z.1 z.2.2.py) → DpAll K H ((Z.map fun z => ((z.1, z.2.2.py) : VP)).map (·.1)) ((Z.map fun z => ((z.1, z.2.2.py) : VP)).map (·.2))
  | [], _ => .nil
  | z :: Z, h => .cons (h z List.mem_cons_self) (dpall_of fun y hy => h y (List.mem_cons_of_mem _ hy))
theorem k_sorted : CaK K (rSortD K) pSorted := by
  intro mu H m xs as d m' Q h r e k
  unfold pSorted at e
  split at e
  · rename_i x m0
    split at e
    · rename_i ds ed
      split at e
      · rename_i ps ep
        split at e
        · rename_i hs
          cases e
          obtain ⟨v, rfl, rv⟩ := repl1 r
          obtain ⟨a, vs, rfl, hq, rl⟩ := lst_rep h rv ed
          obtain ⟨i1, i2⟩ := keysBy_items ep
          rw [← i1] at rl
          obtain ⟨Z, e1, e2, e3⟩ := zip_rep rl
          have ek : Z.map (fun z => z.2.2) = ps.map (·.2) := by rw [← e2, List.map_map]; rfl
          have hzl : Z.length = ps.length := by rw [← e2, List.length_map]
          have hsz : (sortable (Z.map fun z => z.2.2) || decide (Z.length ≤ 1)) = true := by rw [ek, hzl]; exact hs
          have eT1 : (Z.map fun z => ((z.1, z.2.2.py) : VP)).map (·.1) = vs := by rw [List.map_map, ← e1]; rfl
          have hdp : ∀ z ∈ Z, Dp K H z.1 z.2.2.py := fun z hz => by
            have hm : z.2 ∈ ps := by rw [← e2]; exact List.mem_map.mpr ⟨z, hz, rfl⟩
            have q := i2 _ hm
            cases qq : rd m z.2.1 with
            | none => rw [qq] at q; cases q
            | some kk =>
              rw [qq] at q
              have : kk = z.2.2 := by simpa using q
              subst this
              exact rd_dp h (e3 z hz) qq
          refine ⟨a, Z.map fun z => ((z.1, z.2.2.py) : VP), rfl, by rw [eT1]; exact hq, ?_, fun p hp => ?_⟩
          · rw [Bool.or_eq_true] at hsz
            rcases hsz with hsz | hsz
            · left
              obtain ⟨s1, s2, s3⟩ := sortable_py hsz
              have eT2 : (Z.map fun z => ((z.1, z.2.2.py) : VP)).map (·.2) = (Z.map fun z => z.2.2).map D.py := by rw [List.map_map, List.map_map]; rfl
              refine ⟨dpall_of hdp, by rw [eT2]; exact s1, by rw [eT2]; exact s2, fun t ht => ?_⟩
              obtain ⟨z, hz, rfl⟩ := List.mem_map.mp ht
              exact (s3 z.2.2 (List.mem_map.mpr ⟨z, hz, rfl⟩)).2
            · right
              rw [List.length_map]
              exact of_decide_eq_true hsz
          · have rr := sort_rep (K := K) (m := m) Z e3 hsz
            rw [e2] at rr
            exact k _ _ _ (Stp.add hp) (h.add hp fun mu' pr => ⟨_, upd_same, RepL.keep pr ((Stp.upd hp).keep h) _ _ rr⟩) (.ref (add_get h.len p))
        · cases e
      · cases e
    · cases e
  · cases e
end
end Dm
end

section
set_option Elab.async false
set_option linter.all false
set_option maxRecDepth 100000
set_option maxHeartbeats 1100000
namespace Dm
open L2 PyProof.Rows PySem.Spec PySem

/-! ## sorted(xs, key=f) -/
abbrev deep2 (X : Cx) : Cx := { X with A := X.A.in1.in1 }
theorem inv_deep {X : Cx} {pins : List (Addr × Obj)} {st : L2.St} {H : Hp} {s : Shared} (I : Inv X pins st H s) : Inv (deep2 X) pins st H s :=
  ⟨⟨I.ok.mod, I.ok.kind, I.ok.glob, I.ok.blt, I.ok.above, I.ok.inj, I.ok.has, I.ok.cab, fun h => I.ok.hd h, I.ok.frames, I.ok.stk, I.ok.exf, I.ok.bs, I.ok.bsz, I.ok.noex, I.ok.exfs, I.ok.funs, I.ok.frf⟩, I.os, I.bare, I.base, I.loc, I.cell, I.free, I.freeC, I.pin, I.hok, I.len⟩
theorem inv_up {X : Cx} {pins : List (Addr × Obj)} {st : L2.St} {H : Hp} {s : Shared} (I : Inv (deep2 X) pins st H s) : Inv X pins st H s :=
  ⟨⟨I.ok.mod, I.ok.kind, I.ok.glob, I.ok.blt, I.ok.above, I.ok.inj, I.ok.has, I.ok.cab, fun h => I.ok.hd h, I.ok.frames, I.ok.stk, I.ok.exf, I.ok.bs, I.ok.bsz, I.ok.noex, I.ok.exfs, I.ok.funs, I.ok.frf⟩, I.os, I.bare, I.base, I.loc, I.cell, I.free, I.freeC, I.pin, I.hok, I.len⟩
/-- the key function, by values -/
def KeyF (X : Cx) (fv : Value) (g : D → M → Option (D × M)) : Prop := ∀ (pins : List (Addr × Obj)) (s : Shared) (st : L2.St) (H : Hp) (mu : List Addr) (m : M) (v : V) (u : Value) (d k : D), Inv X pins st H s → HR X.K mu H m → Rep X.K mu H v d → RelV v u → g d m = some (k, m) →
  wpAny (model X.prog X.w) X.A (call fv [u]) (fun r s' => ∃ vk H' mu', Inv X pins st H' s' ∧ RelV vk r ∧ Stp mu H mu' H' ∧ HR X.K mu' H' m ∧ Rep X.K mu' H' vk k) X.xe s
theorem keyf_def {X : Cx} {k : Nat} {fa : Addr} {fd : FuncData} {ps : List Str} {f : List D → M → Option (D × M)} (F : FnOk X.prog X.w X.K X.mg X.base CX0 k fa fd ps (spF X.K 1 f)) (hr : Room k X.A) (hb : Binds X.K fd ps []) : KeyF X (.ref fa) fun d m => f [d] m := by
  intro pins s st H mu m v u d kk I h r ru e
  refine thn (run_fn (Q := fun vk H' => ∃ mu', Stp mu H mu' H' ∧ HR X.K mu' H' m ∧ Rep X.K mu' H' vk kk) F hr hb .nil (E := E0) pass0 I (.cons ru .nil) ⟨rfl, mu, m, [d], kk, m, h, .cons r .nil, e, fun v' H' mu' s' h' r' => ⟨mu', s', h', r'⟩⟩) fun r s' ⟨vk, H', I', rv, mu', a1, a2, a3⟩ => ⟨vk, H', mu', I', rv, a1, a2, a3⟩
theorem keyf_call {X : Cx} {fv : Value} {r : List V → Hp → VK → Prop} {f : List D → M → Option (D × M)} (hc : CallR X fv r) (hk : CaK X.K r f) : KeyF X fv fun d m => f [d] m := by
  intro pins s st H mu m v u d kk I h r ru e
  refine thn (hc pins s st H [v] [u] (fun vk H' => ∃ mu', Stp mu H mu' H' ∧ HR X.K mu' H' m ∧ Rep X.K mu' H' vk kk) I (.cons ru .nil) (hk mu H m [v] [d] kk m _ h (.cons r .nil) e fun v' H' mu' s' h' r' => ⟨mu', s', h', r'⟩)) fun r s' ⟨vk, H', I', rv, mu', a1, a2, a3⟩ => ⟨vk, H', mu', I', rv, a1, a2, a3⟩
theorem young {X : Cx} {pins : List (Addr × Obj)} {st : L2.St} {H : Hp} {s : Shared} (I : Inv X pins st H s) {b : Addr} (h : s.heap.objs.size ≤ b) :
    (b ∈ X.ex ∨ X.s_0.heap.objs.size ≤ b) ∧ b ≠ X.env.locals ∧ (∀ x c, X.env.cells.lookup x = some c → c ≠ b) ∧ (∀ p ∈ X.pn ++ pins, p.1 ≠ b) ∧ b ∉ X.fs ∧ H b = none := by
  have hn : H b = none := I.hok.fresh h
  obtain ⟨_, f1, f2, f3, f4, f5⟩ := I.fpOk h hn
  exact ⟨f3, f1, f4, f5, f2, hn⟩
theorem reads_keys {X : Cx} {pins : List (Addr × Obj)} {st : L2.St} {H : Hp} {s : Shared} {mu : List Addr} (I : Inv X pins st H s) : ∀ {ks : List D} {vk : List V} {us : List Value}, Vals vk us → RepL X.K mu H vk ks → (∀ k ∈ ks, k.gr = true) → PySem.W.EachIs (fun v k => ∃ as, Reads s.heap v k as) us (ks.map D.py)
  | [], _, _, h, r, _ => by cases r; cases h; exact .nil
  | k :: ks, _, _, h, r, g => by
    cases r with
    | cons r1 r2 =>
      cases h with
      | cons h1 h2 => exact .cons (Dp.reads I _ _ _ (Rep.dp k _ (g k List.mem_cons_self) r1) h1) (reads_keys I h2 r2 fun y hy => g y (List.mem_cons_of_mem _ hy))
section
variable {X : Cx}
theorem sortK_run {fv : Value} {kw : List (Str × Value)} {g : D → M → Option (D × M)} {pins : List (Addr × Obj)} {s : Shared} {st : L2.St} {H : Hp} {mu : List Addr} {m : M} {a : Addr} {vs : List V} {ps : List (D × D)} {Q : VK}
    (hxe : X.xe = fun _ _ => False) (hu : X.A.units + 64 < cLine) (hf : KeyF (deep2 X) fv g) (ha1 : argsOk "sorted" ⟨[.ref a], kw⟩) (ha2 : ∀ x, argsOk "list.sort" ⟨[.ref x], kw⟩) (ht : ∀ x, Builtin.«list.sort» ⟨[.ref x], kw⟩ = ksk_tree x fv false)
    (I : Inv X pins st H s) (h : HR X.K mu H m) (hq : SqL X.K H a vs) (rl : RepL X.K mu H vs (ps.map (·.1))) (hps : ∀ p ∈ ps, g p.1 m = some (p.2, m)) (hs : sortable (ps.map (·.2)) = true)
    (k : ∀ v H' mu', Stp mu H mu' H' → HR X.K mu' H' (m ++ [.lst (sortBy ps)]) → Rep X.K mu' H' v (.ref m.length) → Q v H') :
    wpAny (model X.prog X.w) X.A (call (.builtin "sorted") [.ref a] kw) (EP X pins st Q) X.xe s := by
  (obtain ⟨its, rv, pl, hz⟩ := I.list hq)
  obtain ⟨Z, e1, e2, e3⟩ := zip_rep rl
  have hvl := rv.length
  have hZl : Z.length = its.length := by rw [← hvl, ← e1, List.length_map]
  have hzl : its.length ≤ sizeLine := by rw [← hvl]; exact hz
  have ek : Z.map (fun z => z.2.2) = ps.map (·.2) := by rw [← e2, List.map_map]; rfl
  obtain ⟨s1, s2, s3⟩ := sortable_py hs
  let T : List VP := Z.map fun z => ((z.1, z.2.2.py) : VP)
  have eT1 : T.map (·.1) = vs := by show (Z.map fun z => ((z.1, z.2.2.py) : VP)).map (·.1) = vs; rw [List.map_map, ← e1]; rfl
  have eT2 : T.map (·.2) = (ps.map (·.2)).map D.py := by show (Z.map fun z => ((z.1, z.2.2.py) : VP)).map (·.2) = _; rw [← ek, List.map_map, List.map_map]; rfl
  let A1 : Addr := s.heap.objs.size + 1
  have hA1 : s.heap.objs.size ≤ A1 := Nat.le_succ _
  refine PySem.W.sorted_of_sort pl.isList hzl ha1 ha2 fun E' => ?_
  rw [ht]
  -- the copy that is sorted stands at A1
  have I0 : Inv X pins st H { s with heap := PySem.W.copyHeap s.heap its } := I.kept (t' := s.toks) fun b o e => PySem.W.copyHeap_old e
  have ho : (PySem.W.copyHeap s.heap its).get? A1 = some (seqObj "list" its.toArray 0) := PySem.W.copyHeap_at s.heap its
  obtain ⟨y1, y2, y3, y4, y5, y6⟩ := young I hA1
  show wpAny (model X.prog X.w) X.A.in1.in1 (ksk_tree A1 fv false) _ E' { s with heap := PySem.W.copyHeap s.heap its }
  obtain ⟨c1, ho1⟩ : ∃ c1, ((PySem.W.copyHeap s.heap its).update A1 (Obj.mapSeq fun _ => (#[] : Array Value))).get? A1 = some (seqObj "list" #[] c1) := ⟨_, get?_update_seq ho fun _ => #[]⟩
  unfold ksk_tree
  (refine wpAny_bind (listItems_at ho rfl ?_))
  refine wpAny_bind (listUpdate_at ho rfl ?_ (by rw [List.size_toArray]; exact hzl) (Nat.zero_le _))
  (refine wpAny_bind (seqEpoch_at ho1 rfl ?_))
  refine wpAny_bind (wpAny_newTuple ?_ (by show its.length ≤ _; exact hzl))
  (refine wpAny_bind (wpAny_newList ?_ (Nat.zero_le _)))
  refine wpAny_holding ?_
  have IA : Inv X pins st H { s with heap := (PySem.W.copyHeap s.heap its).update A1 (Obj.mapSeq fun _ => (#[] : Array Value)) } :=
    I0.turned (t' := s.toks) (fun b o hb e => (Heap.get?_update_ne _ _ _ _ hb).trans e) y6 y2 y1 y3 y4
  have IB : Inv X pins st H { s with heap := ((PySem.W.copyHeap s.heap its).update A1 (Obj.mapSeq fun _ => (#[] : Array Value))).push (seqObj "tuple" its.toArray 0) } := IA.kept (t' := s.toks) fun b o e => Heap.get?_push_of_some _ e
  obtain ⟨kS, hkS⟩ : ∃ kS : Addr, kS = (((PySem.W.copyHeap s.heap its).update A1 (Obj.mapSeq fun _ => (#[] : Array Value))).push (seqObj "tuple" its.toArray 0)).objs.size := ⟨_, rfl⟩
  obtain ⟨z1, z2, z3, z4, z5, z6⟩ := young IB (b := kS) (Nat.le_of_eq hkS.symm)
  have IC : Inv X pins st H { s with heap := (((PySem.W.copyHeap s.heap its).update A1 (Obj.mapSeq fun _ => (#[] : Array Value))).push (seqObj "tuple" its.toArray 0)).push (seqObj "list" #[] 0) } := IB.kept (t' := s.toks) fun b o e => Heap.get?_push_of_some _ e
  have hA1lt : A1 < kS := by
    have := Heap.lt_size ho
    rw [hkS, size_push', Heap.size_update]
    exact Nat.lt_succ_of_lt this
  have hka : kS ≠ A1 := Nat.ne_of_gt hA1lt
  rw [← hkS]
  have nk0 : ((((PySem.W.copyHeap s.heap its).update A1 (Obj.mapSeq fun _ => (#[] : Array Value))).push (seqObj "tuple" its.toArray 0)).push (seqObj "list" #[] 0)).get? kS = some (seqObj "list" #[] 0) := by
    rw [hkS]; exact Heap.get?_push_size _ rfl
  have na0 : ((((PySem.W.copyHeap s.heap its).update A1 (Obj.mapSeq fun _ => (#[] : Array Value))).push (seqObj "tuple" its.toArray 0)).push (seqObj "list" #[] 0)).get? A1 = some (seqObj "list" #[] c1) :=
    (Heap.get?_push_of_some _ (Heap.get?_push_of_some _ ho1))
  generalize hs4 : ({ s with heap := (((PySem.W.copyHeap s.heap its).update A1 (Obj.mapSeq fun _ => (#[] : Array Value))).push (seqObj "tuple" its.toArray 0)).push (seqObj "list" #[] 0) } : Shared) = s4 at IC ⊢
  have nk4 : s4.heap.get? kS = some (seqObj "list" #[] 0) := by rw [← hs4]; exact nk0
  have na4 : s4.heap.get? A1 = some (seqObj "list" #[] c1) := by rw [← hs4]; exact na0
  unfold ksk_rest
  (refine wpAny_bind (wpAny_rule ?_))
  first
    | rw [List.forIn_toArray]
    | ((rw [← Array.forIn_toList]; simp only [List.toList_toArray]))
    | rw [← Array.forIn_toList]
  refine wpAny_bind (ksk_fold (fun i s' => ∃ H' mu' kA e vk, Inv X pins st H' s' ∧ s'.heap.get? kS = some (seqObj "list" kA e) ∧ s'.heap.get? A1 = some (seqObj "list" #[] c1) ∧ H' kS = none ∧ H' A1 = none ∧ Stp mu H mu' H' ∧ HR X.K mu' H' m ∧ Vals vk kA.toList ∧ RepL X.K mu' H' vk ((ps.map (·.2)).take i)) its 0 s4
    ⟨H, mu, #[], 0, [], IC, nk4, na4, z6, y6, Stp.refl _ _, h, .nil, .nil⟩ ?step ?done)
  case step =>
    rintro j x s5 hx ⟨H5, mu5, kA, ep, vk, I5, nk5, na5, hk5, ha5, st5, h5, rk5, rr5⟩
    simp only [Nat.zero_add] at rr5 ⊢
    have hj : j < its.length := (List.getElem?_eq_some_iff.mp hx).1
    have hjp : j < ps.length := by rw [← e2, List.length_map, hZl]; exact hj
    obtain ⟨d, hd, rd'⟩ : ∃ d, (ps.map (·.1))[j]? = some d ∧ ∃ v, vs[j]? = some v ∧ Rep X.K mu H v d := by
      have e : (ps.map (·.1))[j]? = some (ps[j]).1 := by rw [List.getElem?_map, List.getElem?_eq_getElem hjp]; rfl
      exact ⟨_, e, rl.get e⟩
    obtain ⟨v, hv, rvd⟩ := rd'
    have hd' : d = (ps[j]).1 := by
      rw [List.getElem?_map, List.getElem?_eq_getElem hjp] at hd
      exact (Option.some.inj hd).symm
    subst hd'
    have rux : RelV v x := by
      obtain ⟨u, hu', ru⟩ := rv.get hv
      rw [hx] at hu'; cases hu'
      exact ru
    have hg := hps ps[j] (List.getElem_mem hjp)
    have hkz : kA.size ≤ its.length := by
      have h1 : vk.length = kA.size := by rw [← Array.length_toList]; exact rk5.length
      have h2 := rr5.length
      rw [List.length_take, List.length_map] at h2
      omega
    have IP : Inv (deep2 X) (pins ++ [(A1, seqObj "list" #[] c1), (kS, seqObj "list" kA ep)]) st H5 s5 := inv_deep (I5.pins_of fun p hp => (List.mem_append.mp hp).elim (fun z => I5.pin p (List.mem_append_right _ z)) fun z => by
      rcases List.mem_cons.mp z with rfl | z
      · exact ⟨na5, ha5, y2, y5, fun _ q => nomatch q⟩
      · have : p = (kS, seqObj "list" kA ep) := by simpa using z
        subst this
        exact ⟨nk5, hk5, z2, z5, fun _ q => nomatch q⟩)
    refine wpAny_bind (wpAny_attempt (wpAny_mono (hf _ s5 st H5 mu5 m v x _ _ IP h5 (rvd.step st5 h) rux hg) (fun r s6 he => ?_) fun _ _ hF => False.elim (by rw [show (deep2 X).xe = X.xe from rfl, hxe] at hF; exact hF)))
    obtain ⟨vk1, H6, mu6, I6, rk6, st6, h6, rep6⟩ := he
    try dsimp only
    have p1 := I6.pin (A1, seqObj "list" #[] c1) (List.mem_append_right _ (List.mem_append_right _ List.mem_cons_self))
    have p2 := I6.pin (kS, seqObj "list" kA ep) (List.mem_append_right _ (List.mem_append_right _ (List.mem_cons_of_mem _ List.mem_cons_self)))
    have nk6 : s6.heap.get? kS = some (seqObj "list" kA ep) := p2.1
    have na6 : s6.heap.get? A1 = some (seqObj "list" #[] c1) := p1.1
    have I6' : Inv X pins st H6 s6 := inv_up (I6.pins_of fun p hp => I6.pin p (List.mem_append_right _ (List.mem_append_left _ hp)))
    have sb := Heap.SameBut.update s6.heap kS (Obj.mapSeq (·.push r))
    obtain ⟨c2, hc2⟩ : ∃ c2, (s6.heap.update kS (Obj.mapSeq (·.push r))).get? kS = some (seqObj "list" (kA.push r) c2) := ⟨_, get?_update_seq nk6 (·.push r)⟩
    refine wpAny_bind (listUpdate_at nk6 rfl ?_ (Nat.le_trans hkz hzl) (Nat.le_trans (Nat.le_of_eq (Array.size_push ..)) (Nat.succ_le_succ (Nat.le_trans hkz hzl))))
    refine wpAny_pure ⟨rfl, H6, mu6, kA.push r, c2, vk ++ [vk1], I6'.turned (t' := s6.toks) (fun b o hb e => (sb.2 b hb).trans e) p2.2.1 z2 z1 z3 z4, hc2, (sb.2 A1 hka.symm).trans na6, p2.2.1, p1.2.1, st5.trans st6, h6, ?_, ?_⟩
    · rw [Array.toList_push]
      exact rk5.append (.cons rk6 .nil)
    · have ek2 : (ps.map (·.2)).take (j + 1) = (ps.map (·.2)).take j ++ [(ps[j]).2] := by
        rw [List.take_add_one, List.getElem?_map, List.getElem?_eq_getElem hjp]; rfl
      rw [ek2]
      exact (rr5.step st6 h5).append (RepL.one rep6)
  case done =>
    rintro s5 ⟨H5, mu5, kA, ep, vk, I5, nk5, na5, hk5, ha5, st5, h5, rk5, rr5⟩
    have etk : (ps.map (·.2)).take (0 + its.length) = ps.map (·.2) := List.take_of_length_le (by rw [List.length_map, ← hZl, ← e2, List.length_map]; omega)
    rw [etk] at rr5
    have hTk : PySem.W.EachIs (fun v k => ∃ as, Reads s5.heap v k as) kA.toList (T.map (·.2)) := by
      rw [eT2]
      exact reads_keys I5 rk5 rr5 fun x hx => (s3 x (by rw [← ek] at hx ⊢; exact hx)).1
    have hsz : kA.size = its.length := by
      have h1 : vk.length = kA.size := by rw [← Array.length_toList]; exact rk5.length
      have h2 := rr5.length
      rw [List.length_map] at h2
      rw [← h1, h2, ← hZl, ← e2, List.length_map]
    try dsimp only
    refine wpAny_bind (listItems_at nk5 rfl ?_)
    have kp : PySem.W.KeepsBut A1 (PySem.W.hideAll s5.heap [kS]) s5.heap := fun b o hb e => PySem.W.of_hideAll _ e
    refine PySem.W.keyH_end (b := false) (κ := PySem.W.dataKind s5.heap (T.map (·.2))) (h₁ := PySem.W.hideAll s5.heap [kS]) kp (PySem.W.hideAll_none _ List.mem_cons_self) nk5 na5 hka
      (PySem.W.SortsAt.data hTk (by rw [eT2]; rw [← ek]; rw [← ek] at s1; exact s1) (by rw [eT2]; exact s2) fun d hd => ?_) hsz hzl fun h6 tk6 c6 k6 n6 => ⟨rfl, ?_⟩
    · rw [eT2] at hd
      obtain ⟨k0, hk0, rfl⟩ := List.mem_map.mp hd
      have := (s3 k0 hk0).2
      show X.A.units + 1 + 1 + _ < cLine
      omega
    · have ko : PySem.W.KeyedOut false (T.map (·.2)) its (PySem.W.sortVals (PySem.W.dataKind s5.heap (T.map (·.2))) false kA.toList its) := ⟨s5.heap, kA.toList, by rw [eT2]; exact s1, rfl, hTk⟩
      have eo := each_vals (PySem.W.keyedOut_each (fun z : VP => z.2) ko (vals_each (T := T) (by rw [eT1]; exact rv)))
      have hol : ((T.mergeSort vle).map (·.1)).length ≤ sizeLine := by
        rw [List.length_map, List.length_mergeSort, ← List.length_map (f := fun z : VP => z.1), eT1]; exact hz
      have keepA : ∀ b o, b ≠ A1 → b ≠ kS → s5.heap.get? b = some o → h6.get? b = some o := fun b o n1 n2 e => k6 b o n1 (PySem.W.hideAll_get _ e (by simpa using n2))
      have neT : ∀ b u, H5 b = some u → b ≠ A1 ∧ b ≠ kS := fun b u e => ⟨(fun z => by rw [z, ha5] at e; cases e), (fun z => by rw [z, hk5] at e; cases e)⟩
      have I6 : Inv X pins st (L2.upd H5 A1 (.lst ((T.mergeSort vle).map (·.1)))) { s5 with heap := h6, toks := tk6 } := by
        refine I5.step (g' := s5.gens) (d' := s5.drawn) (ch := [A1, kS]) (fun b hb => ?_) (fun b o _ _ hc e _ => ?_) (fun b o _ _ hc e _ => ⟨o.slots, ?_⟩) (fun b o hc e n => ?_) (fun b o hc e => ⟨o, ?_⟩)
          (fun b xs e => by rw [upd_ne (neT b _ e).1]; exact e) (fun b o u e => by rw [upd_ne (neT b _ e).1]; exact e) (fun b ps' e => ⟨#[], by rw [upd_ne (neT b _ e).1, e]; simp⟩) (fun mm hm => ?_) (fun b u e => ?_) I5.bare
        · (rcases List.mem_cons.mp hb with rfl | hb)
          · exact ⟨y1, y2, y3, y4⟩
          · have : b = kS := by simpa using hb
            subst this
            exact ⟨z1, z2, z3, z4⟩
        · simp only [List.mem_cons, not_or] at hc
          exact keepA b o hc.1 hc.2.1 e
        · simp only [List.mem_cons, not_or] at hc
          exact keepA b o hc.1 hc.2.1 e
        · simp only [List.mem_cons, not_or] at hc
          rw [upd_ne hc.1]; exact n
        · simp only [List.mem_cons, not_or] at hc
          exact keepA b o hc.1 hc.2.1 e
        · obtain ⟨o, es, ep2, e, r⟩ := hm
          exact ⟨o, es, ep2, keepA _ _ (Ne.symm y2) (Ne.symm z2) e, r⟩
        · by_cases hb : b = A1
          · subst hb
            rw [upd_same] at e
            cases e
            exact ⟨hol, _, c6, eo, n6⟩
          · rw [upd_ne hb] at e
            refine (I5.hok b u e).stay (fun c w' hc q => ?_) (fun c q => by rw [upd_ne (neT c _ q).1]; exact q) fun c xs q => by rw [upd_ne (neT c _ q).1]; exact q
            have hne : c ≠ A1 ∧ c ≠ kS := by
              rcases hc with rfl | hc
              · exact neT _ _ e
              · exact neT _ _ hc
            exact keepA c w' hne.1 hne.2 q
      have rr := sort_rep (K := X.K) (mu := mu5) (H := H5) (m := m) Z (fun z hz => (e3 z hz).step st5 h) (by rw [ek, hs]; rfl)
      rw [e2] at rr
      exact ⟨.ref A1, _, I6, rfl, k _ _ _ (st5.trans (Stp.add ha5)) (h5.add ha5 fun mu'' pr => ⟨_, upd_same, RepL.keep pr ((Stp.upd ha5).keep h5) _ _ rr⟩) (.ref (add_get h5.len A1))⟩
/-- sorted(xs, key=f), f a def -/
theorem s_sortKd {k : Nat} {x : Str} {p pos p2 kp : Pos} {e : Expr} {f : List D → M → Option (D × M)} {fe : ES} (hxe : X.xe = fun _ _ => False) (F : Fx X.prog X.w X.K X.mg X.base k 1 f x) (hr : Room (k + 2) X.A) (hg0 : Gl X "sorted") (hm0 : X.mg "sorted" = none) (hg : Gl X x) (he : SE X e fe)
    (hdb : (x == ("__debug__" : Str)) = false := by decide)
    (hs1 : starEach [e] X.env = (false, eval e X.env) :: starEach [] X.env := by rfl) :
    SE X (.Call (.Name "sorted" p) [e] [⟨some "key", .Name x p2, kp⟩] pos) (ePrim (pSortK fun d m => f [d] m) (aCons fe aNil)) := by
  obtain ⟨fa, fd, ps, ok, hm, hk, hb⟩ := F.ex
  have hc : CallRK X (.builtin "sorted") [Str.ofString "key"] (fun vs zs H Q => zs = [.ref fa] ∧ ∃ mu m as d m', HR X.K mu H m ∧ RepL X.K mu H vs as ∧ pSortK (fun d m => f [d] m) as m = some (d, m') ∧ ∀ v H' mu', Stp mu H mu' H' → HR X.K mu' H' m' → Rep X.K mu' H' v d → Q v H') := by
    intro pins s st H vs zs us ws Q I r rz h
    obtain ⟨rfl, mu, m, as, d, m', h, rl, e, kk⟩ := h
    obtain ⟨w1, rfl, rw1⟩ := vals1 rz
    cases rw1
    unfold pSortK at e
    split at e
    · rename_i dx m0
      split at e
      · rename_i ds ed
        split at e
        · rename_i qs eq'
          split at e
          · rename_i hs
            cases e
            obtain ⟨v, rfl, rv⟩ := repl1 rl
            obtain ⟨a, xs, rfl, hq, rx⟩ := lst_rep h rv ed
            obtain ⟨u1, rfl, ru⟩ := vals1 r
            cases ru
            obtain ⟨i1, i2⟩ := keysBy_items eq'
            rw [← i1] at rx
            exact sortK_run (g := fun d m => f [d] m) hxe hr.units (keyf_def ok (show Room k X.A.in1.in1 from hr.in1.in1) hb) (ksk_s1 _ _) (fun _ => ksk_l1 _ _) (fun x => ksk_t1 fa x) I h hq rx i2 hs kk
          · cases e
        · cases e
      · cases e
    · cases e
  refine (pe_callBK hc hg0 hm0 (by decide +kernel) (sa_cons he sa_nil hs1) (pk_cons (pe_glob (v := .ref fa) hg hm rfl hdb) pk_nil) (by decide) (by decide) (by first | rfl | (rw [hs1]; rfl)) (by first | rfl | (rw [hs1]; rfl)) ).imp fun st H Q ⟨mu, env, m, d, m', h, r, e, kk⟩ => ?_
  unfold ePrim at e
  split at e
  · rename_i d1 m1 e1
    exact ⟨mu, env, m, d1, m1, h, r, e1, fun v1 H1 mu1 s1 h1 r1 => ⟨rfl, mu1, m1, d1, d, m', h1, r1, e, fun v H' mu' s3 h3 r3 => kk v H' mu' (s1.trans s3) h3 r3⟩⟩
  · cases e
end
end Dm
end

section
set_option Elab.async false
set_option linter.all false
set_option maxRecDepth 100000
set_option maxHeartbeats 1100000
namespace Dx
open L2 PyProof.Rows PySem.Spec PySem
theorem d2t_out (kx vx t0 i0 t1 i1 : Expr) (cs0 cs1 : List Expr) (scp : Scope) (pos : Pos) (it : Value) (D : Addr) (en : Env) :
    compTurn (.DictComp kx vx [⟨t0, i0, cs0, 0⟩, ⟨t1, i1, cs1, 0⟩] scp pos) 0 it (.ref D) en = (do
      standAt i0.pos
      match ← pyNext it with
      | none => pure (.done .next)
      | some v =>
        letOwnedTupleGo t0 it v
        assign t0 en v
        let mut ok := true
        for c in cs0 do
          if ok then ok ← isTrue c en (eval c en)
        if ok then
          let x ← eval i1 en
          standAt i1.pos
          let x ← foldedSetIterable i1 en x
          let _ ← runOwn (.compStart (.DictComp kx vx [⟨t0, i0, cs0, 0⟩, ⟨t1, i1, cs1, 0⟩] scp pos) 1 (← holding [x] (pyIter x)) (.ref D) en) en
        again (.compLoop (.DictComp kx vx [⟨t0, i0, cs0, 0⟩, ⟨t1, i1, cs1, 0⟩] scp pos) 0 it (.ref D) en)) := by rfl
theorem d2t_in (kx vx t0 i0 t1 i1 : Expr) (cs0 cs1 : List Expr) (scp : Scope) (pos : Pos) (it : Value) (D : Addr) (en : Env) :
    compTurn (.DictComp kx vx [⟨t0, i0, cs0, 0⟩, ⟨t1, i1, cs1, 0⟩] scp pos) 1 it (.ref D) en = (do
      standAt i1.pos
      match ← pyNext it with
      | none => pure (.done .next)
      | some v =>
        letOwnedTupleGo t1 it v
        assign t1 en v
        let mut ok := true
        for c in cs1 do
          if ok then ok ← isTrue c en (eval c en)
        if ok then
          (do
            let kv ← eval kx en
            let vv ← holding [kv] (eval vx en)
            (standAt { kx.pos with endLine := vx.pos.endLine, endCol := vx.pos.endCol })
            (holding [kv, vv] (dictSet D kv vv)))
        again (.compLoop (.DictComp kx vx [⟨t0, i0, cs0, 0⟩, ⟨t1, i1, cs1, 0⟩] scp pos) 1 it (.ref D) en)) := by rfl

section
variable {prg : Program} {w : World} {A : Around} {R : Result → Shared → Prop} {s : Shared} {kx vx t0 i0 t1 i1 : Expr} {cs0 cs1 : List Expr} {scp : Scope} {pos : Pos} {it : Value} {D : Addr} {en : Env}
/-- the lp of the first clause -/
theorem d2l_out (hs : ∀ x, foldedSetIterable i1 en x = pure x) (I : Nat → Shared → Prop)
    (trn : ∀ n s, I n s → wpAny (model prg w) A (pyNext it) (fun r sa1 => match r with
      | none => R (.ok .next) sa1
      | some v => wpAny (model prg w) A (letOwnedTupleGo t0 it v) (fun _ sq1 => wpAny (model prg w) A (assign t0 en v) (fun _ sa2 =>
          wpAny (model prg w) A (forIn cs0 true fun c r => if r = true then do let ok ← isTrue c en (eval c en); pure (ForInStep.yield ok) else pure (ForInStep.yield r)) (fun ok sa3 =>
            if ok = true then wpAny (model prg w) A (eval i1 en) (fun x sa4 => wpAny (model prg w) A (pyIter x) (fun it1 sa5 =>
              codeAny (model prg w) A (.compStart (.DictComp kx vx [⟨t0, i0, cs0, 0⟩, ⟨t1, i1, cs1, 0⟩] scp pos) 1 it1 (.ref D) en) (fun r s' => match r with
                | .ok _ => (∃ m, m < n ∧ I m s')
                | .error _ => False) sa5) (notedBy (model prg w) A en fun e s' => R (.error e) s') sa4) (notedBy (model prg w) A en fun e s' => R (.error e) s') sa3
            else ∃ m, m < n ∧ I m sa3) (notedBy (model prg w) A en fun e s' => R (.error e) s') sa2) (notedBy (model prg w) A en fun e s' => R (.error e) s') sq1) (notedBy (model prg w) A en fun e s' => R (.error e) s') sa1) (notedBy (model prg w) A en fun e s' => R (.error e) s') s)
    (n : Nat) (h : I n s) :
    codeAny (model prg w) A (.compLoop (.DictComp kx vx [⟨t0, i0, cs0, 0⟩, ⟨t1, i1, cs1, 0⟩] scp pos) 0 it (.ref D) en) R s := by
  (refine codeAny_loop rfl I (fun n s hI => ?_) n h)
  show wpAny _ A ((compTurn (.DictComp kx vx [⟨t0, i0, cs0, 0⟩, ⟨t1, i1, cs1, 0⟩] scp pos) 0 it (.ref D) en).onRaise (fun x => do noteFrame x en; theTreesLotGoes x)) _ _ s
  refine wpAny_noted ?_
  rw [d2t_out]
  refine wpAny_bind (wpAny_standAt (wpAny_bind (wpAny_mono (trn n s hI) (fun r sa1 ha1 => ?_) fun _ _ hh => hh)))
  cases r with
  | none => exact wpAny_pure ha1
  | some v =>
    refine wpAny_bind (wpAny_mono ha1 (fun _ sq1 hq1 => ?_) fun _ _ hh => hh)
    refine wpAny_bind (wpAny_mono hq1 (fun _ sa2 ha2 => wpAny_bind (wpAny_mono ha2 (fun ok sa3 ha3 => ?_) fun _ _ hh => hh)) fun _ _ hh => hh)
    cases ok with
    | false => exact wpAny_pure ⟨rfl, ha3⟩
    | true =>
      refine wpAny_bind (wpAny_mono ha3 (fun x sa4 ha4 => ?_) fun _ _ hh => hh)
      refine wpAny_bind (wpAny_standAt (wpAny_bind (wpAny_of_eq (hs x) (wpAny_bind (wpAny_holding (wpAny_mono ha4 (fun it1 sa5 ha5 => ?_) fun _ _ hh => hh))))))
      (refine wpAny_bind (wpAny_runOwn ?_))
      rw [Around.mark_none]
      refine codeAny_mono ha5 fun r s' hr => ?_
      cases r with
      | ok f =>
        first
          | exact wpAny_pure ⟨rfl, hr⟩
          | (exact wpAny_bind (wpAny_pure (wpAny_pure ⟨rfl, hr⟩)))
      | error e => exact hr.elim
/-- the lp of the second -/
theorem d2l_in (I : Nat → Shared → Prop)
    (trn : ∀ n s, I n s → wpAny (model prg w) A (pyNext it) (fun r sa1 => match r with
      | none => R (.ok .next) sa1
      | some v => wpAny (model prg w) A (letOwnedTupleGo t1 it v) (fun _ sq1 => wpAny (model prg w) A (assign t1 en v) (fun _ sa2 =>
          wpAny (model prg w) A (forIn cs1 true fun c r => if r = true then do let ok ← isTrue c en (eval c en); pure (ForInStep.yield ok) else pure (ForInStep.yield r)) (fun ok sa3 =>
            if ok = true then wpAny (model prg w) A (eval kx en) (fun kv sa4 => wpAny (model prg w) A (eval vx en) (fun vv sa5 =>
              wpAny (model prg w) A (dictSet D kv vv) (fun _ sa6 => ∃ m, m < n ∧ I m sa6) (notedBy (model prg w) A en fun e s' => R (.error e) s') sa5) (notedBy (model prg w) A en fun e s' => R (.error e) s') sa4) (notedBy (model prg w) A en fun e s' => R (.error e) s') sa3
            else ∃ m, m < n ∧ I m sa3) (notedBy (model prg w) A en fun e s' => R (.error e) s') sa2) (notedBy (model prg w) A en fun e s' => R (.error e) s') sq1) (notedBy (model prg w) A en fun e s' => R (.error e) s') sa1) (notedBy (model prg w) A en fun e s' => R (.error e) s') s)
    (n : Nat) (h : I n s) :
    codeAny (model prg w) A (.compLoop (.DictComp kx vx [⟨t0, i0, cs0, 0⟩, ⟨t1, i1, cs1, 0⟩] scp pos) 1 it (.ref D) en) R s := by
  (refine codeAny_loop rfl I (fun n s hI => ?_) n h)
  show wpAny _ A ((compTurn (.DictComp kx vx [⟨t0, i0, cs0, 0⟩, ⟨t1, i1, cs1, 0⟩] scp pos) 1 it (.ref D) en).onRaise (fun x => do noteFrame x en; theTreesLotGoes x)) _ _ s
  refine wpAny_noted ?_
  rw [d2t_in]
  refine wpAny_bind (wpAny_standAt (wpAny_bind (wpAny_mono (trn n s hI) (fun r sa1 ha1 => ?_) fun _ _ hh => hh)))
  cases r with
  | none => exact wpAny_pure ha1
  | some v =>
    refine wpAny_bind (wpAny_mono ha1 (fun _ sq1 hq1 => ?_) fun _ _ hh => hh)
    refine wpAny_bind (wpAny_mono hq1 (fun _ sa2 ha2 => wpAny_bind (wpAny_mono ha2 (fun ok sa3 ha3 => ?_) fun _ _ hh => hh)) fun _ _ hh => hh)
    cases ok with
    | false => exact wpAny_pure ⟨rfl, ha3⟩
    | true =>
      exact wpAny_bind (wpAny_bind (wpAny_mono ha3 (fun kv sa4 ha4 => wpAny_bind (wpAny_holding (wpAny_mono ha4 (fun vv sa5 ha5 => wpAny_bind (wpAny_standAt (wpAny_holding (wpAny_mono ha5 (fun _ sa6 ha6 => wpAny_pure ⟨rfl, ha6⟩) fun _ _ hh => hh)))) fun _ _ hh => hh))) fun _ _ hh => hh))
/-- how the second clause of a dict starts -/
theorem d2s_ok (h0 : codeAny (model prg w) A (.compLoop (.DictComp kx vx [⟨t0, i0, cs0, 0⟩, ⟨t1, i1, cs1, 0⟩] scp pos) 1 it (.ref D) en) R s)
    (h : wpAny (model prg w) A (pyIter it) (fun it' s' => codeAny (model prg w) A (.compLoop (.DictComp kx vx [⟨t0, i0, cs0, 0⟩, ⟨t1, i1, cs1, 0⟩] scp pos) 1 it' (.ref D) en) R s')
      (notedBy (model prg w) A en fun x s' => R (.error x) s') s) :
    codeAny (model prg w) A (.compStart (.DictComp kx vx [⟨t0, i0, cs0, 0⟩, ⟨t1, i1, cs1, 0⟩] scp pos) 1 it (.ref D) en) R s := by
  refine codeAny_of_tree ?_
  show wpAny _ _ ((compStart (.DictComp kx vx [⟨t0, i0, cs0, 0⟩, ⟨t1, i1, cs1, 0⟩] scp pos) 1 it (.ref D) en).onRaise (fun x => do noteFrame x en; standAt theWindowsPlace)) _ _ s
  refine wpAny_notedAt ?_
  unfold compStart
  (show wpAny _ _ (ask >>= _) _ _ s)
  (refine wpAny_bind (wpAny_askSetting (wpAny_ite ?_)))
  split
  · first
      | (exact wpAny_bind (wpAny_pure (wpAny_pure (And.intro rfl h0))))
      | (exact wpAny_pure (And.intro rfl h0))
  · first
      | exact wpAny_bind (wpAny_rule (wpAny_bind (wpAny_standAt (wpAny_bind (wpAny_mono h (fun it' s' hh => wpAny_pure (And.intro rfl hh)) fun _ _ x => x)))))
      | (refine wpAny_bind (wpAny_rule ?_); show wpAny _ _ (standAt i1.pos >>= _) _ _ s; exact wpAny_bind (wpAny_standAt (wpAny_bind (wpAny_mono h (fun it' s' hh => wpAny_pure (And.intro rfl hh)) fun _ _ x => x))))
end

section
variable {X : Cx}
/-- [elt for tg in itr if .. for tg1 in itr1 if ..]: behind the first clause's store and tests the second source's ow lp, from which Nq is reached. vs: the block's names; vs1: those of the second target -/
def tDc2 (wi : TI) (g : TG) (tt : TT) (wi1 : TI) (g1 : TG) (tt1 : TT) (tk tv : TE) (vs vs1 : List Nat) : TE := fun gs H Q => wi gs H fun J H1 => ∀ D, H1 D = none → ∃ W : Nat → Nat → Hp → Prop, (∃ m, W 0 m (upd H1 D (.dK []))) ∧ ∀ i m H, W i m H →
  (J.stop i H ∧ Q (.ref D) H) ∨ (J.go i H ∧ ∃ Nq : Hp → Prop, (∀ H', Nq H' → ∃ m', m' < m ∧ W (i + 1) m' H') ∧ ∀ x H', J.yld i H x H' → g x (wipe gs vs) H' fun g2s H2 => wipe g2s vs = wipe gs vs ∧ tt g2s H2 fun b H3 =>
    if b = true then wi1 g2s H3 fun J1 H4 => ∃ W1 : Nat → Nat → Hp → Prop, (∃ m, W1 0 m H4) ∧ ∀ j k H, W1 j k H →
      (J1.stop j H ∧ Nq H) ∨ (J1.go j H ∧ ∃ Nq1 : Hp → Prop, (∀ H', Nq1 H' → ∃ k', k' < k ∧ W1 (j + 1) k' H') ∧ ∀ x H', J1.yld j H x H' → g1 x (wipe g2s vs1) H' fun g3s H5 => wipe g3s vs1 = wipe g2s vs1 ∧ tt1 g3s H5 fun b H6 =>
        if b = true then tk g3s H6 fun y H7 => tv g3s H7 fun z H8 => ∃ kvs k, y = kV k ∧ H8 D = some (.dK kvs) ∧ kvs.length < sizeLine ∧ Nq1 (upd H8 D (.dK (putK kvs k z))) else Nq1 H6)
    else Nq H3)
theorem dc2_core {pns : List (Addr × Obj)} {s : Shared} {gs : L2.St} {H : Hp} {Q : VK} {kx vx tg itr tg1 itr1 : Expr} {cs cs1 : List Expr} {scp : Scope} {ow : List (Str × Nat)} {vs1 : List Nat} {pos pos' : Pos} {wi wi1 : TI} {g g1 : TG} {tt tt1 : TT} {tk tv : TE} {use : Option (Value → Sem Unit)} {Qf : Value → Shared → Prop}
    (hc : X.calm = true) (hN : X.N.Nodup) (I : Inv X pns gs H s) (hi : PI X tg itr wi) (ok : BlkOk X.N X.env.scope scp ow) (hvv : ∀ i ∈ vs1, i ∈ ow.map (·.2))
    (hg : ∀ (s : Shared) (H : Hp) (C : Addr) (cl : List (Str × Addr)) (fq : List Addr), PG (X.blk s H scp (compEnvC scp cl C X.env) fq) tg g) (ht : ∀ (s : Shared) (H : Hp) (C : Addr) (cl : List (Str × Addr)) (fq : List Addr), PTs (X.blk s H scp (compEnvC scp cl C X.env) fq) cs tt)
    (hk : ∀ (s : Shared) (H : Hp) (C : Addr) (cl : List (Str × Addr)) (fq : List Addr), PE (X.blk s H scp (compEnvC scp cl C X.env) fq) kx tk)
    (he : ∀ (s : Shared) (H : Hp) (C : Addr) (cl : List (Str × Addr)) (fq : List Addr), PE (X.blk s H scp (compEnvC scp cl C X.env) fq) vx tv) (hs : ∀ x, foldedSetIterable itr X.env x = pure x)
    (hi1 : ∀ (s : Shared) (H : Hp) (C : Addr) (cl : List (Str × Addr)) (fq : List Addr), PI (X.blk s H scp (compEnvC scp cl C X.env) fq) tg1 itr1 wi1)
    (hg1 : ∀ (s : Shared) (H : Hp) (C : Addr) (cl : List (Str × Addr)) (fq : List Addr), PG (X.blk s H scp (compEnvC scp cl C X.env) fq) tg1 g1)
    (ht1 : ∀ (s : Shared) (H : Hp) (C : Addr) (cl : List (Str × Addr)) (fq : List Addr), PTs (X.blk s H scp (compEnvC scp cl C X.env) fq) cs1 tt1)
    (hs1 : ∀ en x, foldedSetIterable itr1 en x = pure x)
    (h : tDc2 wi g tt wi1 g1 tt1 tk tv (ow.map (·.2)) vs1 gs H Q)
    (hRR : ∀ D C s' m H', Inv X pns gs H' s' → Q (.ref D) H' → s'.heap.Ns C m → FpOk X pns H' C → compPost (model X.prog X.w) X.A X.xe use Qf (.ref D) C (.ok .next) s') :
    wpAny (model X.prog X.w) X.A (comprehension (.DictComp kx vx [⟨tg, itr, cs, 0⟩, ⟨tg1, itr1, cs1, 0⟩] scp pos) scp X.env pos' newDict false (eval itr X.env) use) Qf X.xe s := by
  have hfr : ∀ y ∈ scp.names, y.2 = .free → ∃ c, X.env.cells.lookup y.1 = some c := fun y hy e => by
    (rcases ok.free y hy e with k | k)
    · exact I.ok.has _ (.inl k)
    · exact I.ok.has _ (.inr k)
  refine wpAny_comprehension_free (use := use) rfl hs (closure_ok hfr) ok.kind (fun y hy e => by rw [ok.uniq y hy, e])
    (thn (hi.run pns s gs H _ I h) fun xv s1 hx => thn hx fun itv s2 h2 => ?_)
  obtain ⟨it, fq, tq, J, H2, e, I2, T, st2, f2, q⟩ := h2
  subst e
  (refine wpAny_newObj_type (newEnv_comp ?_))
  (generalize hD : s2.heap.objs.size = D)
  (have hDn : H2 D = none := I2.hok.fresh (Nat.le_of_eq hD))
  obtain ⟨W, ⟨mz, wz⟩, trn⟩ := q D hDn
  -- the new list
  (generalize hs3 : ({ s2 with heap := s2.heap.push { cls := .type "dict", data := .dict #[] } } : Shared) = s3)
  have I3 : Inv X pns gs (upd H2 D (.dK [])) s3 := by
    rw [← hs3]
    (refine I2.laid (t' := s2.toks) (fun b o e => Heap.get?_push_of_some _ e) (Nat.le_of_eq hD) ?_)
    rw [← hD]
    exact dk_empty s2.heap I2.big
  have hc3 : s3.heap = s2.heap.push { cls := .type "dict", data := .dict #[] } := by rw [← hs3]
  have szq : ∀ b ∈ fq, b < s2.heap.objs.size := fun b hb => by
    (obtain ⟨o, e, _⟩ := T.obj _ _ st2 b hb)
    exact Heap.lt_size e
  have f3 : ∀ b ∈ fq, FpOk X pns (upd H2 D (.dK [])) b ∧ b < s3.heap.objs.size := fun b hb => by
    have hlt := szq b hb
    refine ⟨⟨?_, (f2 b hb).2⟩, by rw [hc3, Heap.size_push]; exact Nat.lt_succ_of_lt hlt⟩
    (rw [upd_ne (by rw [← hD]; exact Nat.ne_of_lt hlt)])
    exact (f2 b hb).1
  have st3 : tq 0 s3.heap := T.keep _ _ _ st2 fun b _ o e => by rw [hc3]; exact Heap.get?_push_of_some _ e
  (have I4 := block_start I3 ok hN f3)
  have pg := hg s3 (upd H2 D (.dK [])) s3.heap.objs.size (cellsFrom (s3.heap.objs.size + 1) scp.names (cloFrom X.env.cells scp.names [])) fq
  have pt := ht s3 (upd H2 D (.dK [])) s3.heap.objs.size (cellsFrom (s3.heap.objs.size + 1) scp.names (cloFrom X.env.cells scp.names [])) fq
  have pk := hk s3 (upd H2 D (.dK [])) s3.heap.objs.size (cellsFrom (s3.heap.objs.size + 1) scp.names (cloFrom X.env.cells scp.names [])) fq
  have pe := he s3 (upd H2 D (.dK [])) s3.heap.objs.size (cellsFrom (s3.heap.objs.size + 1) scp.names (cloFrom X.env.cells scp.names [])) fq
  have pi1 := hi1 s3 (upd H2 D (.dK [])) s3.heap.objs.size (cellsFrom (s3.heap.objs.size + 1) scp.names (cloFrom X.env.cells scp.names [])) fq
  have pg1 := hg1 s3 (upd H2 D (.dK [])) s3.heap.objs.size (cellsFrom (s3.heap.objs.size + 1) scp.names (cloFrom X.env.cells scp.names [])) fq
  have pt1 := ht1 s3 (upd H2 D (.dK [])) s3.heap.objs.size (cellsFrom (s3.heap.objs.size + 1) scp.names (cloFrom X.env.cells scp.names [])) fq
  show codeAny _ _ (.compStart (.DictComp kx vx [⟨tg, itr, cs, 0⟩, ⟨tg1, itr1, cs1, 0⟩] scp pos) 0 (.ref it) (.ref D) (compEnvC scp (cellsFrom (s3.heap.objs.size + 1) scp.names (cloFrom X.env.cells scp.names [])) s3.heap.objs.size X.env)) (compPost (model X.prog X.w) X.A X.xe use Qf (.ref D) s3.heap.objs.size) { s3 with heap := pushCells (s3.heap.push { cls := .type "dict", data := .dict #[] }) scp.names }
  have nfp : ∀ b ∈ fq, (upd H2 D (.dK [])) b = none := fun b hb => (f3 b hb).1.1
  generalize hce : compEnvC scp (cellsFrom (s3.heap.objs.size + 1) scp.names (cloFrom X.env.cells scp.names [])) s3.heap.objs.size X.env = cq at I4 pg pt pk pe pi1 pg1 pt1 ⊢
  have cL : cq.locals = s3.heap.objs.size := by subst hce; rfl
  generalize hH3 : upd H2 D (.dK []) = H3 at I3 I4 pg pt pk pe pi1 pg1 pt1 wz nfp f3
  generalize hs4 : ({ s3 with heap := pushCells (s3.heap.push { cls := .type "dict", data := .dict #[] }) scp.names } : Shared) = s4 at I4 ⊢
  have st4 : tq 0 s4.heap := T.keep _ _ _ st3 fun b _ o e => by rw [← hs4]; exact pushCells_keeps _ _ _ _ (Heap.get?_push_of_some _ e)
  have statq : ∀ {gs' : L2.St} {H' : Hp} {s' : Shared}, Inv (X.blk s3 H3 scp cq fq) [] gs' H' s' → (∀ b ∈ fq, H' b = none) → ∀ b ∈ fq, FpOk (X.blk s3 H3 scp cq fq) [] H' b := fun {gs' H' s'} I' hn b hb =>
    (⟨hn b hb, (I'.ok.exf b hb).1, I'.ok.exfs b hb, .inl hb, fun x c e => (I'.ok.exf b hb).2 x c e, fun p hp => absurd (show p ∈ ([] : List (Addr × Obj)) ++ [] from hp) (by simp)⟩)
  have lp : codeAny (model X.prog X.w) X.A (.compLoop (.DictComp kx vx [⟨tg, itr, cs, 0⟩, ⟨tg1, itr1, cs1, 0⟩] scp pos) 0 (.ref it) (.ref D) cq) (compPost (model X.prog X.w) X.A X.xe use Qf (.ref D) s3.heap.objs.size) s4 := by
    refine d2l_out (hs1 cq) (fun n s' => ∃ i H', Inv (X.blk s3 H3 scp cq fq) [] (wipe gs (ow.map (·.2))) H' s' ∧ tq i s'.heap ∧ (∀ b ∈ fq, H' b = none) ∧ W i n H') ?_ mz ⟨0, H3, I4, st4, nfp, wz⟩
    (rintro n s5 ⟨i, H5, I5, st5, n5, w5⟩)
    rcases trn i n H5 w5 with ⟨stop, qq⟩ | ⟨go, Nq, hNx, stq⟩
    · have td := T.done (X.blk s3 H3 scp cq fq) rfl rfl rfl hc i [] s5 _ H5 (fun _ _ => False) I5 (statq I5 n5) st5 stop
      (refine thnF td fun r s6 ⟨hr, I6⟩ => ?_)
      subst hr
      -- back in the def's context
      have I7 : Inv X pns gs H5 s6 := I3.call' (ch := fq) I6.os I6.base I6.hok I6.bare fun b hb => ⟨(f3 b hb).1.2.2.2.1, (f3 b hb).1.2.1, (f3 b hb).1.2.2.2.2.1, (f3 b hb).1.2.2.2.2.2⟩
      have nCq : H5 s3.heap.objs.size = none := by
        have z : H5 cq.locals = none := I6.free
        rw [cL] at z
        exact z
      obtain ⟨m, hn, _⟩ := I6.loc
      have hn : s6.heap.Ns cq.locals m := hn
      rw [cL] at hn
      exact hRR D s3.heap.objs.size s6 m H5 I7 qq hn (I3.fpOk (Nat.le_refl _) nCq)
    · have ti := T.item (X.blk s3 H3 scp cq fq) rfl rfl rfl hc i [] s5 _ H5 (fun _ _ => False) I5 (statq I5 n5) st5 go
      (refine thnF ti fun r s6 ⟨u, hr, h6⟩ => ?_)
      subst hr
      (refine thnF h6 fun _ s7 ⟨x, H7, I7, r7, y7, st7, n7⟩ => ?_)
      have I7' := I7.pinned (statq I7 n7) (T.obj _ _ st7)
      refine thnF (pg.run _ s7 _ H7 x u _ I7' r7 (stq x H7 y7)) fun _ s8 ⟨g8s, H8, I8, hw8, q8⟩ => ?_
      refine thnF (pt.run _ s8 g8s H8 _ I8 q8) fun b s9 ⟨H9, I9, q9⟩ => ?_
      -- where a turn ends
      have fn : ∀ {g9s : L2.St} {s' : Shared} {H' : Hp}, Inv (X.blk s3 H3 scp cq fq) ([] ++ pinsAt fq s7.heap) g9s H' s' → (wipe gs (ow.map (·.2))).length = g9s.length → (∀ (j : Nat) v, (wipe gs (ow.map (·.2)))[j]? = some (some v) → g9s[j]? = some (some v)) → Nq H' →
          ∃ m, m < n ∧ ∃ i H', Inv (X.blk s3 H3 scp cq fq) [] (wipe gs (ow.map (·.2))) H' s' ∧ tq i s'.heap ∧ (∀ b ∈ fq, H' b = none) ∧ W i m H' := fun {g9s s' H'} I' hl hk nq => by
        obtain ⟨m', hm, w'⟩ := hNx H' nq
        have pin' : ∀ b ∈ fq, ∀ o, s7.heap.get? b = some o → s'.heap.get? b = some o ∧ H' b = none := fun b hb o e =>
          let z := (I'.pin (b, o) (List.mem_append_right _ (List.mem_append_right _ (mem_pinsAt hb e))))
          ⟨z.1, z.2.1⟩
        (refine ⟨m', hm, i + 1, H', (I'.unpinned (pins := [])).weak hl hk, T.keep _ _ _ st7 fun b hb o e => (pin' b hb o e).1, fun b hb => ?_, w'⟩)
        (obtain ⟨o, e, _⟩ := T.obj _ _ st7 b hb)
        exact (pin' b hb o e).2
      have hl8 : (wipe gs (ow.map (·.2))).length = g8s.length := by rw [← hw8, wipe_length]
      have hk8 : ∀ (j : Nat) v, (wipe gs (ow.map (·.2)))[j]? = some (some v) → g8s[j]? = some (some v) := fun j v e => by
        rw [← hw8] at e
        exact (wipe_some e).1
      have hk9 : ∀ (j : Nat) v, (wipe gs (ow.map (·.2)))[j]? = some (some v) → (wipe g8s vs1)[j]? = some (some v) := fun j v e => by
        rw [← hw8] at e
        (obtain ⟨e1, e2⟩ := wipe_some e)
        rw [wipe_out fun z => e2 (hvv j z)]
        exact e1
      cases b with
      | false =>
        (simp only [Bool.false_eq_true, if_false] at q9 ⊢)
        exact fn I9 hl8 hk8 q9
      | true =>
        simp only [if_true] at q9 ⊢
        refine thnF (pi1.run _ s9 g8s H9 _ I9 q9) fun xv s10 hx => thnF hx fun itv s11 h11 => ?_
        obtain ⟨it1, fq1, tq1, J1, H11, e1, I11, T1, st11, f11, W1, ⟨m1, w1⟩, trn1⟩ := h11
        subst e1
        -- the inner lp
        have statq1 : ∀ {H' : Hp}, (∀ b ∈ fq1, H' b = none) → ∀ b ∈ fq1, FpOk (X.blk s3 H3 scp cq fq) ([] ++ pinsAt fq s7.heap) H' b := fun hn b hb => ⟨hn b hb, (f11 b hb).2⟩
        have lp1 : codeAny (model X.prog X.w) X.A (.compLoop (.DictComp kx vx [⟨tg, itr, cs, 0⟩, ⟨tg1, itr1, cs1, 0⟩] scp pos) 1 (.ref it1) (.ref D) cq)
            (fun r s' => match r with
              | .ok _ => ∃ m, m < n ∧ ∃ i H', Inv (X.blk s3 H3 scp cq fq) [] (wipe gs (ow.map (·.2))) H' s' ∧ tq i s'.heap ∧ (∀ b ∈ fq, H' b = none) ∧ W i m H'
              | .error _ => False) s11 := by -- k47
          refine d2l_in (fun k s' => ∃ j H', Inv (X.blk s3 H3 scp cq fq) ([] ++ pinsAt fq s7.heap) (wipe g8s vs1) H' s' ∧ tq1 j s'.heap ∧ (∀ b ∈ fq1, H' b = none) ∧ W1 j k H') ?_ m1 ⟨0, H11, I11.weak (wipe_length _ _) (fun j v e => (wipe_some e).1), st11, fun b hb => (f11 b hb).1, w1⟩
          (rintro k s12 ⟨j, H12, I12, st12, n12, w12⟩)
          rcases trn1 j k H12 w12 with ⟨stop1, nx1⟩ | ⟨go1, Nq1, hNx1, stq1⟩
          · refine thnF (T1.done (X.blk s3 H3 scp cq fq) rfl rfl rfl hc j _ s12 (wipe g8s vs1) H12 (fun _ _ => False) I12 (statq1 n12) st12 stop1) fun r s13 ⟨hr, I13⟩ => ?_
            subst hr
            exact fn I13 (hl8.trans (wipe_length g8s vs1).symm) hk9 nx1
          · refine thnF (T1.item (X.blk s3 H3 scp cq fq) rfl rfl rfl hc j _ s12 (wipe g8s vs1) H12 (fun _ _ => False) I12 (statq1 n12) st12 go1) fun r s13 ⟨u1, hr, h13⟩ => ?_
            subst hr
            (refine thnF h13 fun _ s14 ⟨x1, H14, I14, r14, y14, st14, n14⟩ => ?_)
            have I14' := I14.pinned (statq1 n14) (T1.obj _ _ st14)
            refine thnF (pg1.run _ s14 (wipe g8s vs1) H14 x1 u1 _ I14' r14 (stq1 x1 H14 y14)) fun _ s15 ⟨g15s, H15, I15, hw15, q15⟩ => ?_
            refine thnF (pt1.run _ s15 g15s H15 _ I15 q15) fun b1 s16 ⟨H16, I16, q16⟩ => ?_
            have fn1 : ∀ {s' : Shared} {H' : Hp}, Inv (X.blk s3 H3 scp cq fq) (([] ++ pinsAt fq s7.heap) ++ pinsAt fq1 s14.heap) g15s H' s' → Nq1 H' → ∃ m, m < k ∧ ∃ j H', Inv (X.blk s3 H3 scp cq fq) ([] ++ pinsAt fq s7.heap) (wipe g8s vs1) H' s' ∧ tq1 j s'.heap ∧ (∀ b ∈ fq1, H' b = none) ∧ W1 j m H' := fun {s' H'} I' nq => by
              obtain ⟨m', hm, w'⟩ := hNx1 H' nq
              have pin' : ∀ b ∈ fq1, ∀ o, s14.heap.get? b = some o → s'.heap.get? b = some o ∧ H' b = none := fun b hb o e =>
                let z := (I'.pin (b, o) (List.mem_append_right _ (List.mem_append_right _ (mem_pinsAt hb e))))
                ⟨z.1, z.2.1⟩
              (refine ⟨m', hm, j + 1, H', I'.unpinned.weak (by rw [← hw15, wipe_length]) (fun j v e => by rw [← hw15] at e; exact (wipe_some e).1), T1.keep _ _ _ st14 fun b hb o e => (pin' b hb o e).1, fun b hb => ?_, w'⟩)
              (obtain ⟨o, e, _⟩ := T1.obj _ _ st14 b hb)
              exact (pin' b hb o e).2
            cases b1 with
            | false =>
              (simp only [Bool.false_eq_true, if_false] at q16 ⊢)
              exact fn1 I16 q16
            | true =>
              simp only [if_true] at q16 ⊢
              refine thnF (pk.run _ s16 g15s H16 _ I16 q16) fun z s17 ⟨yk, H17, I17, r17, q17⟩ => ?_
              refine thnF (pe.run _ s17 g15s H17 _ I17 q17) fun z2 s18 ⟨yv, H18, I18, r18, kvs, k0, ek, hD18, hz18, nq⟩ => ?_
              subst ek
              exact d_dictSet (X := X.blk s3 H3 scp cq fq) I18 hD18 hz18 r17 r18 fun s19 I19 => fn1 I19 nq
        exact d2s_ok lp1 (T1.self X.A 0 _ _ _ st11 lp1)
  exact codeAny_compStart_dict lp (T.self X.A 0 _ _ _ st4 lp)
end
section
variable {X : Cx}
/-- a block's core gives it as a value -/
theorem dc_pe {ex tg it0 : Expr} {gn : List Comprehension} {sco : Scope} {po p2 : Pos} {t : TE}
    (hev : eval ex X.env = comprehension ex sco X.env p2 newDict false (eval it0 X.env) none)
    (core : ∀ pn s gs H Q use Qf, L2.Inv X pn gs H s → t gs H Q →
      (∀ D C s' m H', L2.Inv X pn gs H' s' → Q (.ref D) H' → s'.heap.Ns C m → FpOk X pn H' C → compPost (model X.prog X.w) X.A X.xe use Qf (.ref D) C (.ok .next) s') →
      wpAny (model X.prog X.w) X.A (comprehension ex sco X.env p2 newDict false (eval it0 X.env) use) Qf X.xe s) : PE X ex t := by
  refine ⟨fun pn s gs H Q I h => ?_⟩
  rw [hev]
  refine core pn s gs H Q none _ I h fun D C s' m H' I' q hn f => ⟨m, hn, fun h2 sb => ?_⟩
  (obtain ⟨f0, f1, f2, f3, f4, f5⟩ := f)
  (exact ⟨.ref D, H', I'.turned (t' := s'.toks) (fun b o hb e => (sb.2 b hb).trans e) f0 f1 f3 f4 f5, rfl, q⟩)
/-- and stored under a name on its own row -/
theorem dc_ps {ex tg it0 : Expr} {sco : Scope} {po p2 py sp : Pos} {i : Nat} {y : Str} {t : TE} (hN : X.N.Nodup) (hy : X.N[i]? = some y) (hyl : X.env.scope.names.lookup y = some .local)
    (hsw : swapsWith ex (some (.Name y py)) sp.line X.env = pure true)
    (hev : ∀ use, evalThenUse ex X.env use = (do let _ ← comprehension ex sco X.env p2 newDict false (eval it0 X.env) (some use)))
    (core : ∀ pn s gs H Q use Qf, L2.Inv X pn gs H s → t gs H Q →
      (∀ D C s' m H', L2.Inv X pn gs H' s' → Q (.ref D) H' → s'.heap.Ns C m → FpOk X pn H' C → compPost (model X.prog X.w) X.A X.xe use Qf (.ref D) C (.ok .next) s') →
      wpAny (model X.prog X.w) X.A (comprehension ex sco X.env p2 newDict false (eval it0 X.env) use) Qf X.xe s) : PS X (.Assign [.Name y py] ex sp) (tAsg t (gName i)) := by
  refine ⟨fun pn s gs H Dn I h => ?_⟩
  (rw [exec_Assign_Name_used _ _ _ _ hsw])
  (refine wpAny_bind (wpAny_standAt (wpAny_bind ?_)))
  rw [hev]
  have hq : t gs H (fun x H1 => gName i x gs H1 Dn.nx) := h
  refine wpAny_bind (thn (core pn s gs H _ _ (fun _ s' => SP X pn Dn .next s') I hq fun L C s' m H' I' q hn f => ?_) fun _ s' hz => wpAny_pure (wpAny_pure hz))
  (show wpAny _ _ (assign (.Name y py) X.env (.ref L)) _ _ _)
  (refine wpAny_assign_Name (store_ok2 (v := V.ref L) I' hN hy (.inl hyl) rfl (fun s2 I2 ⟨a, sb, ha⟩ => ?_) (.inr hyl)))
  (obtain ⟨f0, f1, f2, f3, f4, f5⟩ := f)
  have hne : C ≠ a := by
    rcases ha with z | z
    · rw [z]; exact f1
    · (exact fun e => f4 y a z e.symm)
  refine ⟨m, hn.sameBut sb hne, fun h3 sb3 => ?_⟩
  (exact ⟨_, H', I2.turned (t' := s2.toks) (fun b o hb e => (sb3.2 b hb).trans e) f0 f1 f3 f4 f5, q⟩)
theorem swd_true {kx vx : Expr} {gn : List Comprehension} {sco : Scope} {po py : Pos} {y : Str} {l : Nat} {en : PySem.Env} (hk : en.scope.kind = .function) (hy : en.scope.names.lookup y = some .local) (hl : (py.line == po.line) = true)
    (ha : (sco.names.any fun (n, k) => n == y && (k == .local || k == .cell)) = false) : swapsWith (.DictComp kx vx gn sco po) (some (.Name y py)) l en = pure true := by
  have ky : en.kindOf y = some .local := hy
  have hb : en.blockKind = .function := by unfold Env.blockKind; rw [hk]; rfl
  unfold swapsWith
  (simp only [hb, ky, ha, Expr.pos, hl])
  rfl
end
end Dx
namespace Dm
open L2 PyProof.Rows PySem.Spec PySem
section
variable {K : PySem.W.Frag} {mu : List Addr} {H : Hp} {m : M}
/-! ## enumerate -/
theorem numb_get : ∀ (xs : List D) (k i : Nat), (numb k xs)[i]? = xs[i]?.map fun x => .tup [.int ((k + i : Nat) : Int), x]
  | [], _, _ => by simp [numb]
  | x :: r, k, 0 => by simp [numb]
  | x :: r, k, i + 1 => by
    rw [numb, List.getElem?_cons_succ, List.getElem?_cons_succ, numb_get r (k + 1) i]
    have : k + 1 + i = k + (i + 1) := by omega
    rw [this]
theorem numb_len : ∀ (xs : List D) (k : Nat), (numb k xs).length = xs.length
  | [], _ => rfl
  | x :: r, k => by rw [numb, List.length_cons, List.length_cons, numb_len r]
theorem it_enum {a : Addr} {gd : Gd} {ds : List D} (hz : ∀ (mu2 : List Addr) (H2 : Hp) (m2 : M), mu <+: mu2 → Keep H H2 → HR K mu2 H2 m2 → gdOk gd m2 = true → ∃ xs, SqL K H2 a xs ∧ RepL K mu2 H2 xs ds) : ItR K (Ite K a) gd (numb 0 ds) mu H := by
  intro i mu2 H2 m2 p2 k2 h2 hg
  obtain ⟨xs, hq, rx⟩ := hz mu2 H2 m2 p2 k2 h2 hg
  refine ⟨fun d hd => ?_, fun hi => ⟨xs, hq, by rw [rx.length, hi, numb_len]; exact Nat.le_refl _⟩⟩
  rw [numb_get] at hd
  cases e : ds[i]? with
  | none => rw [e] at hd; cases hd
  | some d0 =>
    rw [e] at hd
    cases hd
    obtain ⟨v, hv, rv⟩ := rx.get e
    refine ⟨⟨xs, v, hq, hv⟩, fun x H' hy => ?_⟩
    obtain ⟨T, x0, rfl, hT, rfl, hy⟩ := hy
    have e2 : some x0 = some v := (hy xs hq).symm.trans hv
    cases e2
    have s3 : Stp mu2 H2 mu2 (L2.upd H2 T (.tup [.int (i : Nat), v])) := Stp.upd hT
    refine ⟨mu2, s3, h2.upd hT, .tup (SqT.of upd_same) (.cons ?_ (.cons (rv.step s3 h2) .nil)), rfl⟩
    rw [Nat.zero_add]
    exact .int _
end
section
variable {X : Cx} {pos : Pos}
theorem i_enum {e : Expr} {f : ES} {p tpos : Pos} {elts : List Expr} {kk : Nat} (hg : Gl X "enumerate") (hm : X.mg "enumerate" = none) (he : SE X e f) (hs : starEach [e] X.env = [(false, eval e X.env)] := by rfl) :
    SI X (.Tuple elts kk tpos) (.Call (.Name "enumerate" p) [e] [] pos) (iEnumL f) :=
  (pi_enum hg hm (sa_cons he sa_nil hs) hs).imp fun st H R ⟨mu, env, m, ds, gd, m', h, r, e, k⟩ => by
    unfold iEnumL at e
    split at e
    · rename_i d m1 e1
      have ea : aCons f aNil env m = some ([d], m1) := by simp only [aCons, e1, aNil]
      cases d with
      | fl xs =>
        cases e
        refine ⟨mu, env, m, [.fl xs], _, h, r, ea, fun vs H1 mu1 s1 h1 r1 => ?_⟩
        cases r1 with
        | cons z1 z2 =>
          cases z2
          cases z1 with
          | fl q1 q2 => exact ⟨_, _, rfl, q1.sq, k _ H1 mu1 s1 h1 (it_enum fun mu2 H2 m2 p2 k2 h2 _ => ⟨_, (q1.keep k2).sq, RepL.keep p2 k2 _ _ q2⟩)⟩
      | ref l =>
        unfold seqG at e
        dsimp only at e
        split at e
        · rename_i xs ex
          cases e
          refine ⟨mu, env, m, [.ref l], _, h, r, ea, fun vs H1 mu1 s1 h1 r1 => ?_⟩
          cases r1 with
          | cons z1 z2 =>
            cases z2
            cases z1 with
            | ref z =>
              obtain ⟨vs, ev, _⟩ := (show ObR X.K mu1 H1 _ (.lst xs) from h1.ob l _ _ ex z)
              refine ⟨_, _, rfl, SqL.of ev, k _ H1 mu1 s1 h1 (it_enum fun mu2 H2 m2 p2 k2 h2 hgd => ?_)⟩
              have e2 := gd_at hgd (l := l) (o := .lst xs) (by simp)
              obtain ⟨ys, ey, ry⟩ := h2.ob l _ _ e2 (pre_get p2 z)
              exact ⟨ys, SqL.of ey, ry⟩
        · cases e
      | _ => cases e
    · cases e
end

/-! ## dict comprehensions -/
theorem dcGo_nil {gd : Gd} {tg : Tgt} {tt ek ev : ES} {env : Env} {acc : List (D × D)} {m : M} {r : List (D × D) × M} (h : dcGo gd tg tt ek ev env [] acc m = some r) : gdOk gd m = true ∧ r = (acc, m) := by
  unfold dcGo at h
  split at h
  · cases h; exact ⟨by assumption, rfl⟩
  · cases h
theorem keep_butK {H : Hp} {D : Addr} {xs : List (Key × V)} {o : HO} (h : H D = some (.dK xs)) : Keep H (L2.upd H D o) := fun a u e p => by
  rw [upd_ne]; exact e
  intro z; subst z
  rw [h] at e; cases e
  cases p
theorem HR.otherK {K : PySem.W.Frag} {mu : List Addr} {H : Hp} {m : M} {D : Addr} {xs : List (Key × V)} {o : HO} (h : HR K mu H m) (hD : H D = some (.dK xs)) (hn : D ∉ mu) : HR K mu (L2.upd H D o) m := by
  have k : Keep H (L2.upd H D o) := keep_butK hD
  refine ⟨h.len, h.nd, fun l ob a e1 e2 => ?_⟩
  have ne : a ≠ D := fun z => hn (z ▸ List.mem_of_getElem? e2)
  have z := h.ob l ob a e1 e2
  cases ob with
  | lst ds => obtain ⟨xs, e, r⟩ := z; exact ⟨xs, by rw [upd_ne ne]; exact e, RepL.keep (List.prefix_refl _) k _ _ r⟩
  | dct kvs => obtain ⟨xs, e, r⟩ := z; exact ⟨xs, by rw [upd_ne ne]; exact e, r.keep (List.prefix_refl _) k⟩
  | st _ => exact z
theorem KvR.len {K : PySem.W.Frag} {mu : List Addr} {H : Hp} {ks : List (Key × V)} {kvs : List (D × D)} (h : KvR K mu H ks kvs) : ks.length = kvs.length := Paired.length h
/-- one turn's store of a dict comprehension, by meaning -/
theorem dput_turn {K : PySem.W.Frag} {mu : List Addr} {H : Hp} {m : M} {D : Addr} {ks : List (Key × V)} {acc : List (Dm.D × Dm.D)} {y v : V} {k d : Dm.D} (h : HR K mu H m) (hD : H D = some (.dK ks)) (hn : D ∉ mu) (rk : KvR K mu H ks acc) (ry : Rep K mu H y k) (rv : Rep K mu H v d)
    (hz : (acc.length < lineN && keyFor acc k) = true) : ∃ kvs k0, y = kV k0 ∧ H D = some (.dK kvs) ∧ kvs.length < sizeLine ∧ HR K mu (L2.upd H D (.dK (putK kvs k0 v))) m ∧ KvR K mu (L2.upd H D (.dK (putK kvs k0 v))) (putK kvs k0 v) (dput acc k d) := by
  rw [Bool.and_eq_true, decide_eq_true_eq] at hz
  obtain ⟨k0, rfl⟩ := kD_atom hz.2
  have e1 : y = kV k0 := by
    cases k0 with
    | inl i => cases ry; rfl
    | inr x => cases ry; rfl
  exact ⟨ks, k0, e1, hD, by rw [rk.len, ← lineN_eq]; exact hz.1, h.otherK hD hn, (kv_put rv rk).keep (List.prefix_refl _) (keep_butK hD)⟩
/-- the reading of a dict comprehension -/
theorem dc_red {K : PySem.W.Frag} {f : IS} {G : Tgt} {g : L2.TG} {own : List Nat} {tt tk te : ES} {wi : TI} {st : L2.St} {H : Hp} {Q : VK}
    (hwi : wi = tI K f)
    (hok : ∀ mu H m env st x d e1 Q, HR K mu H m → EnvR K mu H env st → Rep K mu H x d → G d env = some e1 → (∀ st', EnvR K mu H e1 st' → Q st' H) → g x st H Q)
    (hwp : ∀ x st H Q, g x st H Q → g x st H (fun st2 H2 => L2.wipe st2 own = L2.wipe st own ∧ Q st2 H2))
    (hmono : ∀ x st H (Q Q' : L2.St → Hp → Prop), (∀ st H, Q st H → Q' st H) → g x st H Q → g x st H Q')
    (q : tE K (eDc own f G tt tk te) st H Q) : tDc wi g (tT K tt) (tE K tk) (tE K te) own st H Q := by
  subst hwi
  obtain ⟨mu, env, m, d, m', h, r, e, k⟩ := q
  unfold eDc at e
  split at e
  · rename_i ds gd m1 e1
    split at e
    · rename_i xs m2 e2
      cases e
      refine ⟨mu, env, m, ds, gd, m1, h, r, e1, fun J H1 mu1 s1 h1 it D hD => ?_⟩
      refine ⟨fun i n H2 => ∃ mu2 m3 acc vs, Stp mu1 H1 mu2 H2 ∧ HR K mu2 H2 m3 ∧ H2 D = some (.dK vs) ∧ D ∉ mu2 ∧ KvR K mu2 H2 vs acc ∧ i ≤ ds.length ∧ n = ds.length - i ∧ dcGo gd G tt tk te (wipeE env own) (ds.drop i) acc m3 = some (xs, m2),
        ⟨_, mu1, m1, [], [], Stp.upd hD, h1.upd hD, upd_same, h1.notnone hD, .nil, Nat.zero_le _, rfl, e2⟩, ?_⟩
      rintro i n H2 ⟨mu2, m3, acc, vs, s2, h2, hD2, hn2, rv2, hi, rfl, e3⟩
      by_cases hlt : i < ds.length
      · right
        have ed : ds.drop i = ds[i] :: ds.drop (i + 1) := List.drop_eq_getElem_cons hlt
        rw [ed] at e3
        unfold dcGo at e3
        split at e3
        · rename_i hgd
          obtain ⟨go, yl⟩ := (it i mu2 H2 m3 s2.pre (s2.keep h1) h2 hgd).1 ds[i] (List.getElem?_eq_getElem hlt)
          refine ⟨go, fun H3 => ∃ mu3 m4 acc vs, Stp mu1 H1 mu3 H3 ∧ HR K mu3 H3 m4 ∧ H3 D = some (.dK vs) ∧ D ∉ mu3 ∧ KvR K mu3 H3 vs acc ∧ i + 1 ≤ ds.length ∧ dcGo gd G tt tk te (wipeE env own) (ds.drop (i + 1)) acc m4 = some (xs, m2),
            fun H3 ⟨mu3, m4, acc, vs, a1, a2, a3, a4, a5, a6, a7⟩ => ⟨_, by omega, mu3, m4, acc, vs, a1, a2, a3, a4, a5, a6, rfl, a7⟩, fun x H3 hy => ?_⟩
          obtain ⟨mu3, s3, h3, rx, _⟩ := yl x H3 hy
          have hD3 : H3 D = some (.dK vs) := s3.old _ _ hD2 hn2
          have hn3 : D ∉ mu3 := Stp.notin (K := K) s3 hD2 hn2
          split at e3
          · rename_i env3 eg
            have rw3 : EnvR K mu3 H3 (wipeE env own) (L2.wipe st own) := ((r.step s1 h).step (s2.trans s3) h1).wipe own
            have gq := hok mu3 H3 m3 (wipeE env own) (L2.wipe st own) x ds[i] env3 (fun st4 H4 => H4 = H3 ∧ EnvR K mu3 H3 env3 st4) h3 rw3 rx eg fun st4 r4 => ⟨rfl, r4⟩
            refine hmono _ _ _ _ _ (fun st4 H4 ⟨hw4, e4, r4⟩ => ⟨?_, ?_⟩) (hwp _ _ _ _ gq)
            · rw [hw4]
              exact wipe_wipe st own
            · subst e4
              split at e3
              · rename_i m5 et
                refine ⟨mu3, env3, m3, true, m5, h3, r4, et, fun H5 mu5 s5 h5 => iteT ?_⟩
                split at e3
                · rename_i y m6 ee
                  refine ⟨mu5, env3, m5, y, m6, h5, r4.step s5 h3, ee, fun vy H6 mu6 s6 h6 r6 => ?_⟩
                  split at e3
                  · rename_i z m7 ez
                    refine ⟨mu6, env3, m6, z, m7, h6, (r4.step s5 h3).step s6 h5, ez, fun vz H7 mu7 s7 h7 r7 => ?_⟩
                    split at e3
                    · rename_i hz
                      have hD5 := s5.old _ _ hD3 hn3
                      have hn5 := Stp.notin (K := K) s5 hD3 hn3
                      have hD6 := s6.old _ _ hD5 hn5
                      have hn6 := Stp.notin (K := K) s6 hD5 hn5
                      have hD7 := s7.old _ _ hD6 hn6
                      have hn7 := Stp.notin (K := K) s7 hD6 hn6
                      have rv7 : KvR K mu7 H7 vs acc := (((rv2.keep s3.pre (s3.keep h2)).keep s5.pre (s5.keep h3)).keep s6.pre (s6.keep h5)).keep s7.pre (s7.keep h6)
                      obtain ⟨kvs, k0, y1, y2, y3, y4, y5⟩ := dput_turn h7 hD7 hn7 rv7 (r6.step s7 h6) r7 hz
                      exact ⟨kvs, k0, y1, y2, y3, mu7, m7, _, _, Stp.other (s2.trans (s3.trans (s5.trans (s6.trans s7)))) hD, y4, upd_same, hn7, y5, hlt, e3⟩
                    · cases e3
                  · cases e3
                · cases e3
              · rename_i m5 et
                refine ⟨mu3, env3, m3, false, m5, h3, r4, et, fun H5 mu5 s5 h5 => iteF ?_⟩
                exact ⟨mu5, m5, acc, vs, s2.trans (s3.trans s5), h5, s5.old _ _ hD3 hn3, Stp.notin (K := K) s5 hD3 hn3, (rv2.keep s3.pre (s3.keep h2)).keep s5.pre (s5.keep h3), hlt, e3⟩
              · cases e3
          · cases e3
        · cases e3
      · left
        have ei : i = ds.length := by omega
        have ed : ds.drop i = [] := List.drop_eq_nil_of_le (by omega)
        rw [ed] at e3
        obtain ⟨hgd, e4⟩ := dcGo_nil e3
        cases e4
        refine ⟨(it i mu2 H2 _ s2.pre (s2.keep h1) h2 hgd).2 ei, k (.ref D) H2 (mu2 ++ [D]) ?_ ?_ (.ref (add_get h2.len D))⟩
        · refine Stp.join (K := K) (m0 := m) (s1.trans s2) (Stp.none_back s1 ?_ hD)
          intro z
          exact h1.notnone hD (s1.pre.subset z)
        · exact h2.join hn2 ⟨vs, hD2, rv2.keep (List.prefix_append _ _) fun _ _ e _ => e⟩
    · cases e
  · cases e
section
variable {X : Cx} {tg : Expr} {pos : Pos}
theorem s_dc {kx vx iter : Expr} {ifs : List Expr} {scope : Scope} {own : List (Str × Nat)} {f : IS} {G : Tgt} {g : L2.TG} {sl : List Nat} {tt tk te : ES} (hc : X.calm = true) (hN : X.N.Nodup) (hi : SI X tg iter f) (ok : BlkOk X.N X.env.scope scope own)
    (tk' : TgK X.K G g sl) (hsl : ∀ i ∈ sl, i ∈ own.map (·.2))
    (hg : ∀ (s : Shared) (H : Hp) (C : Addr) (cl : List (Str × Addr)) (fp : List Addr), PG (X.blk s H scope (compEnvC scope cl C X.env) fp) tg g)
    (ht : ∀ (s : Shared) (H : Hp) (C : Addr) (cl : List (Str × Addr)) (fp : List Addr), PTs (X.blk s H scope (compEnvC scope cl C X.env) fp) ifs (tT X.K tt))
    (hk : ∀ (s : Shared) (H : Hp) (C : Addr) (cl : List (Str × Addr)) (fp : List Addr), SE (X.blk s H scope (compEnvC scope cl C X.env) fp) kx tk)
    (he : ∀ (s : Shared) (H : Hp) (C : Addr) (cl : List (Str × Addr)) (fp : List Addr), SE (X.blk s H scope (compEnvC scope cl C X.env) fp) vx te) (hs : ∀ x, foldedSetIterable iter X.env x = pure x := by intro _; rfl) :
    SE X (.DictComp kx vx [⟨tg, iter, ifs, 0⟩] scope pos) (eDc (own.map (·.2)) f G tt tk te) :=
  (pe_dc hc hN hi ok hg ht hk he hs).imp fun st H Q q => dc_red rfl tk'.ok (fun x st H Q => tk'.wp x st H Q _ hsl) tk'.mono q
theorem s_asgDc {i : Nat} {y : Str} {py : Pos} {kx vx iter : Expr} {ifs : List Expr} {scope : Scope} {own : List (Str × Nat)} {f : IS} {G : Tgt} {g : L2.TG} {sl : List Nat} {tt tk te : ES} {spos : Pos} (hc : X.calm = true) (hN : X.N.Nodup) (hy : X.N[i]? = some y) (hyl : X.env.scope.names.lookup y = some .local)
    (hsw : swapsWith (.DictComp kx vx [⟨tg, iter, ifs, 0⟩] scope pos) (some (.Name y py)) spos.line X.env = pure true) (hi : SI X tg iter f) (ok : BlkOk X.N X.env.scope scope own)
    (tk' : TgK X.K G g sl) (hsl : ∀ i ∈ sl, i ∈ own.map (·.2))
    (hg : ∀ (s : Shared) (H : Hp) (C : Addr) (cl : List (Str × Addr)) (fp : List Addr), PG (X.blk s H scope (compEnvC scope cl C X.env) fp) tg g)
    (ht : ∀ (s : Shared) (H : Hp) (C : Addr) (cl : List (Str × Addr)) (fp : List Addr), PTs (X.blk s H scope (compEnvC scope cl C X.env) fp) ifs (tT X.K tt))
    (hk : ∀ (s : Shared) (H : Hp) (C : Addr) (cl : List (Str × Addr)) (fp : List Addr), SE (X.blk s H scope (compEnvC scope cl C X.env) fp) kx tk)
    (he : ∀ (s : Shared) (H : Hp) (C : Addr) (cl : List (Str × Addr)) (fp : List Addr), SE (X.blk s H scope (compEnvC scope cl C X.env) fp) vx te) (hs : ∀ x, foldedSetIterable iter X.env x = pure x := by intro _; rfl) :
    SStm X (.Assign [.Name y py] (.DictComp kx vx [⟨tg, iter, ifs, 0⟩] scope pos) spos) (sAsg (tName i) (nrm (eDc (own.map (·.2)) f G tt tk te))) :=
  (Dx.dc_ps (tg := tg) (po := pos) hN hy hyl hsw (fun _ => rfl) (fun pn s gs H Q use Qf I q hRR => dc_core hc hN I hi ok hg ht hk he hs q hRR)).imp fun E st H q => by
    have q2 := asg_red' (k_name (K := X.K) (i := i)) q
    exact dc_red rfl tk'.ok (fun x st H Q => tk'.wp x st H Q _ hsl) tk'.mono (nrm_red q2)
end

/-! ## dict comprehensions of two clauses -/
theorem dc2Go_nil {gd : Gd} {tg tg1 : Tgt} {it1 : IS} {own1 : List Nat} {tt tt1 ek ev : ES} {env : Env} {acc : List (D × D)} {m : M} {r : List (D × D) × M} (h : dc2Go gd tg tt it1 own1 tg1 tt1 ek ev env [] acc m = some r) : gdOk gd m = true ∧ r = (acc, m) := by
  unfold dc2Go at h
  split at h
  · cases h; exact ⟨by assumption, rfl⟩
  · cases h
theorem KvR.stp {K : PySem.W.Frag} {mu mu' : List Addr} {H H' : Hp} {m : M} {ks : List (Key × V)} {kvs : List (D × D)} (r : KvR K mu H ks kvs) (s : Stp mu H mu' H') (h : HR K mu H m) : KvR K mu' H' ks kvs := r.keep s.pre (s.keep h)
/-- the reading of a dict comprehension of two clauses -/
theorem dc2_red {K : PySem.W.Frag} {f f1 : IS} {G G1 : Tgt} {g g1 : L2.TG} {own own1 sl sl1 : List Nat} {tt tt1 tk te : ES} {st : L2.St} {H : Hp} {Q : VK}
    (tgk : TgK K G g sl) (hsl : ∀ i ∈ sl, i ∈ own) (tgk1 : TgK K G1 g1 sl1) (hsl1 : ∀ i ∈ sl1, i ∈ own1)
    (q : tE K (eDc2 own own1 f G tt f1 G1 tt1 tk te) st H Q) : Dx.tDc2 (tI K f) g (tT K tt) (tI K f1) g1 (tT K tt1) (tE K tk) (tE K te) own own1 st H Q := by
  obtain ⟨mu, env, m, d, m', h, r, e, k⟩ := q
  unfold eDc2 at e
  split at e
  · rename_i ds gd m1 e1
    split at e
    · rename_i xs m2 e2
      cases e
      refine ⟨mu, env, m, ds, gd, m1, h, r, e1, fun J H1 mu1 s1 h1 it D hD => ?_⟩
      refine ⟨fun i n H2 => ∃ mu2 m3 acc vs, Stp mu1 H1 mu2 H2 ∧ HR K mu2 H2 m3 ∧ H2 D = some (.dK vs) ∧ D ∉ mu2 ∧ KvR K mu2 H2 vs acc ∧ i ≤ ds.length ∧ n = ds.length - i ∧ dc2Go gd G tt f1 own1 G1 tt1 tk te (wipeE env own) (ds.drop i) acc m3 = some (xs, m2),
        ⟨_, mu1, m1, [], [], Stp.upd hD, h1.upd hD, upd_same, h1.notnone hD, .nil, Nat.zero_le _, rfl, e2⟩, ?_⟩
      rintro i n H2 ⟨mu2, m3, acc, vs, s2, h2, hD2, hn2, rv2, hi, rfl, e3⟩
      by_cases hlt : i < ds.length
      · right
        have ed : ds.drop i = ds[i] :: ds.drop (i + 1) := List.drop_eq_getElem_cons hlt
        rw [ed] at e3
        unfold dc2Go at e3
        split at e3
        · rename_i hgd
          obtain ⟨go, yl⟩ := (it i mu2 H2 m3 s2.pre (s2.keep h1) h2 hgd).1 ds[i] (List.getElem?_eq_getElem hlt)
          refine ⟨go, fun H3 => ∃ mu3 m4 acc vs, Stp mu1 H1 mu3 H3 ∧ HR K mu3 H3 m4 ∧ H3 D = some (.dK vs) ∧ D ∉ mu3 ∧ KvR K mu3 H3 vs acc ∧ i + 1 ≤ ds.length ∧ dc2Go gd G tt f1 own1 G1 tt1 tk te (wipeE env own) (ds.drop (i + 1)) acc m4 = some (xs, m2),
            fun H3 ⟨mu3, m4, acc, vs, a1, a2, a3, a4, a5, a6, a7⟩ => ⟨_, by omega, mu3, m4, acc, vs, a1, a2, a3, a4, a5, a6, rfl, a7⟩, fun x H3 hy => ?_⟩
          obtain ⟨mu3, s3, h3, rx, _⟩ := yl x H3 hy
          have hD3 : H3 D = some (.dK vs) := s3.old _ _ hD2 hn2
          have hn3 : D ∉ mu3 := Stp.notin (K := K) s3 hD2 hn2
          split at e3
          · rename_i env3 eg
            have rw3 : EnvR K mu3 H3 (wipeE env own) (L2.wipe st own) := ((r.step s1 h).step (s2.trans s3) h1).wipe own
            have gq := tgk.ok mu3 H3 m3 (wipeE env own) (L2.wipe st own) x ds[i] env3 (fun st4 H4 => H4 = H3 ∧ EnvR K mu3 H3 env3 st4) h3 rw3 rx eg fun st4 r4 => ⟨rfl, r4⟩
            refine tgk.mono _ _ _ _ _ (fun st4 H4 ⟨hw4, e4, r4⟩ => ⟨?_, ?_⟩) (tgk.wp _ _ _ _ _ hsl gq)
            · rw [hw4]
              exact wipe_wipe st own
            · subst e4
              split at e3
              · rename_i m5 et
                refine ⟨mu3, env3, m3, true, m5, h3, r4, et, fun H5 mu5 s5 h5 => iteT ?_⟩
                split at e3
                · rename_i ds1 gd1 m6 ei
                  split at e3
                  · rename_i acc1 m7 ein
                    have r5 : EnvR K mu5 H5 env3 st4 := r4.step s5 h3
                    have hD5 := s5.old _ _ hD3 hn3
                    have hn5 := Stp.notin (K := K) s5 hD3 hn3
                    have rv5 : KvR K mu5 H5 vs acc := (rv2.stp s3 h2).stp s5 h3
                    refine ⟨mu5, env3, m5, ds1, gd1, m6, h5, r5, ei, fun J1 H6 mu6 s6 h6 it1 => ?_⟩
                    have hD6 := s6.old _ _ hD5 hn5
                    have hn6 := Stp.notin (K := K) s6 hD5 hn5
                    refine ⟨fun j n H7 => ∃ mu7 m8 acc7 vs7, Stp mu1 H1 mu7 H7 ∧ mu6 <+: mu7 ∧ Keep H6 H7 ∧ HR K mu7 H7 m8 ∧ H7 D = some (.dK vs7) ∧ D ∉ mu7 ∧ KvR K mu7 H7 vs7 acc7 ∧ j ≤ ds1.length ∧ n = ds1.length - j ∧ dcGo gd1 G1 tt1 tk te (wipeE env3 own1) (ds1.drop j) acc7 m8 = some (acc1, m7),
                      ⟨_, mu6, m6, acc, vs, s2.trans (s3.trans (s5.trans s6)), List.prefix_refl _, fun _ _ e _ => e, h6, hD6, hn6, rv5.stp s6 h5, Nat.zero_le _, rfl, ein⟩, ?_⟩
                    rintro j n H7 ⟨mu7, m8, acc7, vs7, s7, p7, k7, h7, hD7, hn7, rv7, hj, rfl, e7⟩
                    by_cases hlt1 : j < ds1.length
                    · right
                      have ed1 : ds1.drop j = ds1[j] :: ds1.drop (j + 1) := List.drop_eq_getElem_cons hlt1
                      rw [ed1] at e7
                      unfold dcGo at e7
                      split at e7
                      · rename_i hgd1
                        obtain ⟨go1, yl1⟩ := (it1 j mu7 H7 m8 p7 k7 h7 hgd1).1 ds1[j] (List.getElem?_eq_getElem hlt1)
                        refine ⟨go1, fun H8 => ∃ mu8 m9 acc8 vs8, Stp mu1 H1 mu8 H8 ∧ mu6 <+: mu8 ∧ Keep H6 H8 ∧ HR K mu8 H8 m9 ∧ H8 D = some (.dK vs8) ∧ D ∉ mu8 ∧ KvR K mu8 H8 vs8 acc8 ∧ j + 1 ≤ ds1.length ∧ dcGo gd1 G1 tt1 tk te (wipeE env3 own1) (ds1.drop (j + 1)) acc8 m9 = some (acc1, m7),
                          fun H8 ⟨mu8, m9, acc8, vs8, a1, a2, a3, a4, a5, a6, a7, a8, a9⟩ => ⟨_, by omega, mu8, m9, acc8, vs8, a1, a2, a3, a4, a5, a6, a7, a8, rfl, a9⟩, fun x1 H8 hy1 => ?_⟩
                        obtain ⟨mu8, s8, h8, rx8, _⟩ := yl1 x1 H8 hy1
                        have hD8 := s8.old _ _ hD7 hn7
                        have hn8 := Stp.notin (K := K) s8 hD7 hn7
                        have p8 : mu6 <+: mu8 := p7.trans s8.pre
                        have k8 : Keep H6 H8 := fun a o e p => s8.keep h7 a o (k7 a o e p) p
                        have rv8 := rv7.stp s8 h7
                        have r8 : EnvR K mu8 H8 env3 st4 := ⟨(r5.step s6 h5).1, fun i d e => let ⟨v, q, z⟩ := (r5.step s6 h5).2 i d e; ⟨v, q, Rep.keep p8 k8 _ _ z⟩⟩
                        split at e7
                        · rename_i env8 eg1
                          have gq1 := tgk1.ok mu8 H8 m8 (wipeE env3 own1) (L2.wipe st4 own1) x1 ds1[j] env8 (fun st9 H9 => H9 = H8 ∧ EnvR K mu8 H8 env8 st9) h8 (r8.wipe own1) rx8 eg1 fun st9 r9 => ⟨rfl, r9⟩
                          refine tgk1.mono _ _ _ _ _ (fun st9 H9 ⟨hw9, e9, r9⟩ => ⟨?_, ?_⟩) (tgk1.wp _ _ _ _ _ hsl1 gq1)
                          · rw [hw9]
                            exact wipe_wipe st4 own1
                          · subst e9
                            split at e7
                            · rename_i ma et1
                              refine ⟨mu8, env8, m8, true, ma, h8, r9, et1, fun Ha mua sa ha => iteT ?_⟩
                              split at e7
                              · rename_i y mb eb
                                refine ⟨mua, env8, ma, y, mb, ha, r9.step sa h8, eb, fun vy Hb mub sb hb rb => ?_⟩
                                split at e7
                                · rename_i z mc ec
                                  refine ⟨mub, env8, mb, z, mc, hb, (r9.step sa h8).step sb ha, ec, fun vz Hc muc sc hc rc => ?_⟩
                                  split at e7
                                  · rename_i hz
                                    have hDa := sa.old _ _ hD8 hn8
                                    have hna := Stp.notin (K := K) sa hD8 hn8
                                    have hDb := sb.old _ _ hDa hna
                                    have hnb := Stp.notin (K := K) sb hDa hna
                                    have hDc := sc.old _ _ hDb hnb
                                    have hnc := Stp.notin (K := K) sc hDb hnb
                                    have rvc := ((rv8.stp sa h8).stp sb ha).stp sc hb
                                    have kc : Keep H6 Hc := fun a o e p => sc.keep hb a o (sb.keep ha a o (sa.keep h8 a o (k8 a o e p) p) p) p
                                    obtain ⟨kvs, k0, y1, y2, y3, y4, y5⟩ := dput_turn hc hDc hnc rvc (rb.step sc hb) rc hz
                                    exact ⟨kvs, k0, y1, y2, y3, muc, mc, _, _, Stp.other (s7.trans (s8.trans (sa.trans (sb.trans sc)))) hD, p8.trans (sa.pre.trans (sb.pre.trans sc.pre)), fun a o e p => keep_butK hDc a o (kc a o e p) p, y4, upd_same, hnc, y5, hlt1, e7⟩
                                  · cases e7
                                · cases e7
                              · cases e7
                            · rename_i ma et1
                              refine ⟨mu8, env8, m8, false, ma, h8, r9, et1, fun Ha mua sa ha => iteF ?_⟩
                              exact ⟨mua, ma, acc7, vs7, s7.trans (s8.trans sa), p8.trans sa.pre, fun a o e p => sa.keep h8 a o (k8 a o e p) p, ha, sa.old _ _ hD8 hn8, Stp.notin (K := K) sa hD8 hn8, rv8.stp sa h8, hlt1, e7⟩
                            · cases e7
                        · cases e7
                      · cases e7
                    · left
                      have ei1 : j = ds1.length := by omega
                      have ed1 : ds1.drop j = [] := List.drop_eq_nil_of_le (by omega)
                      rw [ed1] at e7
                      obtain ⟨hgd1, e8⟩ := dcGo_nil e7
                      cases e8
                      exact ⟨(it1 j mu7 H7 _ p7 k7 h7 hgd1).2 ei1, mu7, _, _, vs7, s7, h7, hD7, hn7, rv7, hlt, e3⟩
                  · cases e3
                · cases e3
              · rename_i m5 et
                refine ⟨mu3, env3, m3, false, m5, h3, r4, et, fun H5 mu5 s5 h5 => iteF ?_⟩
                exact ⟨mu5, m5, acc, vs, s2.trans (s3.trans s5), h5, s5.old _ _ hD3 hn3, Stp.notin (K := K) s5 hD3 hn3, (rv2.stp s3 h2).stp s5 h3, hlt, e3⟩
              · cases e3
          · cases e3
        · cases e3
      · left
        have ei : i = ds.length := by omega
        have ed : ds.drop i = [] := List.drop_eq_nil_of_le (by omega)
        rw [ed] at e3
        obtain ⟨hgd, e4⟩ := dc2Go_nil e3
        cases e4
        refine ⟨(it i mu2 H2 _ s2.pre (s2.keep h1) h2 hgd).2 ei, k (.ref D) H2 (mu2 ++ [D]) ?_ ?_ (.ref (add_get h2.len D))⟩
        · refine Stp.join (K := K) (m0 := m) (s1.trans s2) (Stp.none_back s1 ?_ hD)
          intro z
          exact h1.notnone hD (s1.pre.subset z)
        · exact h2.join hn2 ⟨vs, hD2, rv2.keep (List.prefix_append _ _) fun _ _ e _ => e⟩
    · cases e
  · cases e
section
variable {X : Cx} {tg : Expr} {pos : Pos}
theorem s_asgDc2 {i : Nat} {y : Str} {py : Pos} {kx vx iter tg1 iter1 : Expr} {ifs ifs1 : List Expr} {scope : Scope} {own : List (Str × Nat)} {f f1 : IS} {G G1 : Tgt} {g g1 : L2.TG} {sl sl1 own1 : List Nat} {tt tt1 tk te : ES} {spos : Pos} (hc : X.calm = true) (hN : X.N.Nodup) (hy : X.N[i]? = some y) (hyl : X.env.scope.names.lookup y = some .local)
    (hsw : swapsWith (.DictComp kx vx [⟨tg, iter, ifs, 0⟩, ⟨tg1, iter1, ifs1, 0⟩] scope pos) (some (.Name y py)) spos.line X.env = pure true) (hi : SI X tg iter f) (ok : BlkOk X.N X.env.scope scope own) (hv : ∀ i ∈ own1, i ∈ own.map (·.2))
    (tgk : TgK X.K G g sl) (hsl : ∀ i ∈ sl, i ∈ own.map (·.2)) (tgk1 : TgK X.K G1 g1 sl1) (hsl1 : ∀ i ∈ sl1, i ∈ own1)
    (hg : ∀ (s : Shared) (H : Hp) (C : Addr) (cl : List (Str × Addr)) (fp : List Addr), PG (X.blk s H scope (compEnvC scope cl C X.env) fp) tg g)
    (ht : ∀ (s : Shared) (H : Hp) (C : Addr) (cl : List (Str × Addr)) (fp : List Addr), PTs (X.blk s H scope (compEnvC scope cl C X.env) fp) ifs (tT X.K tt))
    (hi1 : ∀ (s : Shared) (H : Hp) (C : Addr) (cl : List (Str × Addr)) (fp : List Addr), SI (X.blk s H scope (compEnvC scope cl C X.env) fp) tg1 iter1 f1) (hg1 : ∀ (s : Shared) (H : Hp) (C : Addr) (cl : List (Str × Addr)) (fp : List Addr), PG (X.blk s H scope (compEnvC scope cl C X.env) fp) tg1 g1)
    (ht1 : ∀ (s : Shared) (H : Hp) (C : Addr) (cl : List (Str × Addr)) (fp : List Addr), PTs (X.blk s H scope (compEnvC scope cl C X.env) fp) ifs1 (tT X.K tt1))
    (hk : ∀ (s : Shared) (H : Hp) (C : Addr) (cl : List (Str × Addr)) (fp : List Addr), SE (X.blk s H scope (compEnvC scope cl C X.env) fp) kx tk)
    (he : ∀ (s : Shared) (H : Hp) (C : Addr) (cl : List (Str × Addr)) (fp : List Addr), SE (X.blk s H scope (compEnvC scope cl C X.env) fp) vx te) (hs : ∀ x, foldedSetIterable iter X.env x = pure x := by intro _; rfl) (hs1 : ∀ en x, foldedSetIterable iter1 en x = pure x := by intro _ _; rfl) :
    SStm X (.Assign [.Name y py] (.DictComp kx vx [⟨tg, iter, ifs, 0⟩, ⟨tg1, iter1, ifs1, 0⟩] scope pos) spos) (sAsg (tName i) (nrm (eDc2 (own.map (·.2)) own1 f G tt f1 G1 tt1 tk te))) :=
  (Dx.dc_ps (tg := tg) (po := pos) hN hy hyl hsw (fun _ => rfl) (fun pn s gs H Q use Qf I q hRR => Dx.dc2_core hc hN I hi ok hv hg ht hk he hs hi1 hg1 ht1 hs1 q hRR)).imp fun E st H q => by
    have q2 := asg_red' (k_name (K := X.K) (i := i)) q
    exact dc2_red tgk hsl tgk1 hsl1 (nrm_red q2)
end
end Dm
end

section
set_option Elab.async false
set_option linter.all false
set_option maxRecDepth 100000
set_option maxHeartbeats 1100000
namespace Dx
open L2 PyProof.Rows PySem.Spec PySem
open Sem (wp)
section
variable {prg : Program} {w : World} {A : Around} {R : Result → Shared → Prop} {I : Addr} {fq wr : List Addr} {n : Nat} {P : Nat → Value → Prop} {St : Nat → Heap → Prop}
/-- what the loop of min holds: nothing yet, or its best and the value compared -/
def held : Option Value → Array Value
  | none => #[]
  | some v => #[v, v]
def heldOk (P : Nat → Value → Prop) (bt : Nat → Nat → Bool) (j : Nat) : Option Value → Prop
  | none => j = 0
  | some v => 0 < j ∧ P (argBest bt (j - 1)) v
theorem mind_loop (W : Walks prg w A.in1 I fq wr n P St) (bt : Nat → Nat → Bool) (hcmp : CmpOf prg w A.in1 .Lt P bt) (S : Addr) (hSf : S ∉ fq) (d : Value) :
    ∀ (k j : Nat) (s : Shared) (vb : Option Value) (c : Nat), n - j = k → j ≤ n → St j s.heap → heldOk P bt j vb →
    s.heap.get? S = some { cls := .type "list", dict := none, data := .seq (held vb) c, slots := #[] } →
    (∀ v h' tk, ((n = 0 ∧ v = d) ∨ (0 < n ∧ P (argBest bt (n - 1)) v)) → (∀ b o, b ∉ wr → b ≠ S → s.heap.get? b = some o → h'.get? b = some o) → R (.ok (.ret v)) { s with heap := h', toks := tk }) →
    codeAny (model prg w) A (.builtin "min.loop" ⟨[.ref I, .none, .ref S], [(Str.ofString "default", d)]⟩) R s := by
  (have hSw : S ∉ wr := fun h => hSf (W.sub _ h))
  have hnm : (toString "min" ++ toString ".loop" : String) = "min.loop" := by decide
  intro k
  induction k with
  | zero =>
    intro j s vb c hk hj hst hvb hS hR
    have hjn : j = n := by omega
    (refine codeAny_builtin F.entry_min_loop ?_)
    (rw [Around.under_plainId F.plain_min_loop _])
    (show wpAny _ A.in1 (seqItems? (.ref S) >>= _) _ _ s)
    (refine wpAny_bind (wpAny_seqItems hS rfl ?_))
    (show wpAny _ A.in1 (tryCatch (pyNext (.ref I)) _ >>= _) _ _ s)
    refine wpAny_bind (wpAny_tryCatch (W.done s _ _ (hjn ▸ hst) fun h' tk hkq => ?_))
    have hS2 := hkq S _ hSw hS
    cases vb with
    | none =>
      have h0 : j = 0 := hvb
      (show wpAny _ A.in1 (rule _ >>= _) _ _ _)
      (refine wpAny_bind (wpAny_rule (wpAny_pure ?_)))
      exact hR d _ tk (.inl ⟨by omega, rfl⟩) fun b o hbw hbS e => hkq b o hbw e
    | some vb =>
      (show wpAny _ A.in1 (updateSeq S (fun _ => #[]) >>= _) _ _ _)
      refine wpAny_bind ?_
      refine wpAny_updateSeq hS2 rfl (wpAny_bind (wpAny_letGo (wpAny_pure ?_))) (by show 2 ≤ sizeLine; decide)
      have hv2 : 0 < j ∧ P (argBest bt (j - 1)) vb := hvb
      exact hR vb _ tk (.inr ⟨by omega, hjn ▸ hv2.2⟩) fun b o hbw hbS e => (Heap.get?_update_other _ _ (Ne.symm hbS)).trans (hkq b o hbw e)
  | succ k ih =>
    intro j s vb c hk hj hst hvb hS hR
    have hlt : j < n := by omega
    (refine codeAny_builtin F.entry_min_loop ?_)
    (rw [Around.under_plainId F.plain_min_loop _])
    (show wpAny _ A.in1 (seqItems? (.ref S) >>= _) _ _ s)
    (refine wpAny_bind (wpAny_seqItems hS rfl ?_))
    (show wpAny _ A.in1 (tryCatch (pyNext (.ref I)) _ >>= _) _ _ s)
    refine wpAny_bind (wpAny_tryCatch (W.item j s _ _ hlt hst fun v h' tk hP hst2 hkq => ?_))
    have hS2 := hkq S _ hSw hS
    cases vb with
    | none =>
      have h0 : j = 0 := hvb
      subst h0
      (show wpAny _ A.in1 (updateSeq S (fun _ => #[v, v]) >>= _) _ _ _)
      refine wpAny_bind ?_
      (refine wpAny_updateSeq hS2 rfl ?_)
      rw [hnm]
      refine wpAny_pure ⟨plainId_quiet F.plain_min_loop _, ih 1 _ (some v) _ (by omega) hlt (W.frame _ _ _ hst2 fun b hbf o e => ?_) ⟨Nat.one_pos, hP⟩ (Heap.get?_update_self _ hS2 rfl) fun v2 h2 tk2 hP2 hk2 => ?_⟩
      · (exact (Heap.get?_update_other _ _ (fun h : S = b => hSf (by rw [h]; exact hbf))).trans e)
      · exact hR v2 h2 tk2 hP2 fun b o hbw hbS e => hk2 b o hbw hbS ((Heap.get?_update_other _ _ (Ne.symm hbS)).trans (hkq b o hbw e))
    | some vb =>
      obtain ⟨hj0, hPb⟩ := (show 0 < j ∧ P (argBest bt (j - 1)) vb from hvb)
      have hb1 : argBest bt j = if bt j (argBest bt (j - 1)) then j else argBest bt (j - 1) := by
        obtain ⟨j, rfl⟩ : ∃ i, j = i + 1 := ⟨j - 1, by omega⟩
        rfl
      (show wpAny _ A.in1 (tryCatch (holding [v, v] (richCompare .Lt v vb >>= _)) _ >>= _) _ _ _)
      refine wpAny_bind (wpAny_tryCatch (wpAny_holding (wpAny_bind (hcmp j (argBest bt (j - 1)) v vb _ _ _ hP hPb ?_))))
      (refine wpAny_bind (wpAny_holding (wpAny_truthy_bool ?_)))
      (refine wpAny_bind (wpAny_letGo (wpAny_pure ?_)))
      cases hb : bt j (argBest bt (j - 1)) with
      | true =>
        simp only [if_true]
        refine wpAny_bind ?_
        refine wpAny_updateSeq hS2 rfl (wpAny_bind (wpAny_letGo ?_)) (by show 2 ≤ sizeLine; decide)
        rw [hnm]
        refine wpAny_pure ⟨plainId_quiet F.plain_min_loop _, ih (j + 1) _ (some v) _ (by omega) hlt (W.frame _ _ _ hst2 fun b hbf o e => ?_) ⟨Nat.succ_pos _, by show P (argBest bt j) v; rw [hb1, hb]; exact hP⟩ (Heap.get?_update_self _ hS2 rfl) fun v2 h2 tk2 hP2 hk2 => ?_⟩
        · (exact (Heap.get?_update_other _ _ (fun h : S = b => hSf (by rw [h]; exact hbf))).trans e)
        · exact hR v2 h2 tk2 hP2 fun b o hbw hbS e => hk2 b o hbw hbS ((Heap.get?_update_other _ _ (Ne.symm hbS)).trans (hkq b o hbw e))
      | false =>
        (simp only [Bool.false_eq_true, if_false])
        (refine wpAny_bind (wpAny_letGo ?_))
        rw [hnm]
        refine wpAny_pure ⟨plainId_quiet F.plain_min_loop _, ih (j + 1) _ (some vb) c (by omega) hlt hst2 ⟨Nat.succ_pos _, by show P (argBest bt j) vb; rw [hb1, hb]; exact hPb⟩ hS2 fun v2 h2 tk2 hP2 hk2 => ?_⟩
        exact hR v2 h2 tk2 hP2 fun b o hbw hbS e => hk2 b o hbw hbS (hkq b o hbw e)
end
section
variable {prg : Program} {w : World} {A : Around} {E : Value → Shared → Prop} {s : Shared}
theorem args_mind (a d : Value) : argsOk "min" ⟨[a], [(Str.ofString "default", d)]⟩ := by unfold argsOk; kernel_rfl
theorem call_mind_walk {x d : Value} {Q : Value → Shared → Prop}
    (h : wpAny (model prg w) A.in1 (pyIter x) (fun it sa2 => ∃ I fq wr n P St bt, it = .ref I ∧ Walks prg w A.in1 I fq wr n P St ∧ St 0 sa2.heap ∧ (∀ b ∈ fq, b < sa2.heap.objs.size) ∧ CmpOf prg w A.in1 .Lt P bt ∧
      ∀ v h' tk, ((n = 0 ∧ v = d) ∨ (0 < n ∧ P (argBest bt (n - 1)) v)) → (∀ b o, b ∉ wr → sa2.heap.get? b = some o → h'.get? b = some o) → Q v { sa2 with heap := h', toks := tk }) E s) :
    wpAny (model prg w) A (call (.builtin "min") [x] [(Str.ofString "default", d)]) Q E s := by
  have hnm : (toString "min" ++ toString ".loop" : String) = "min.loop" := by decide
  refine PyProof.Rows.kmk_tree F.kind_min F.plain_min F.entry_min (args_mind _ _) ?_
  (show wpAny _ A.in1 (Builtin.Builtins.bindParams "min" ["key", "default"] 0 ⟨[], [(Str.ofString "default", d)]⟩ >>= _) _ _ s)
  (refine wpAny_bind (wpAny_of_eq (show Builtin.Builtins.bindParams "min" ["key", "default"] 0 ⟨[], [(Str.ofString "default", d)]⟩ = pure [none, some d] from rfl) ?_))
  (refine wpAny_bind (wpAny_pure ?_))
  refine wpAny_bind (wpAny_mono h (fun it sa2 hq2 => ?_) fun _ _ e => e)
  obtain ⟨I, fq, wr, n, P, St, bt, rfl, W, hst, hfp, hcmp, hQ⟩ := hq2
  (refine wpAny_bind (wpAny_newObj_type ?_))
  have hSf : sa2.heap.objs.size ∉ fq := fun hm => Nat.lt_irrefl _ (hfp _ hm)
  rw [hnm]
  refine wpAny_pure ⟨plainId_quiet F.plain_min_loop _, mind_loop W bt hcmp sa2.heap.objs.size hSf d n 0 _ none 0 rfl (Nat.zero_le _) (W.frame _ _ _ hst fun b _ o e => Heap.get?_push_of_some _ e) rfl (Heap.get?_push_size _ rfl) fun v h' tk hP hk => ?_⟩
  (exact hQ v h' tk hP fun b o hbw e => hk b o hbw (Nat.ne_of_lt (Heap.lt_size e)) (Heap.get?_push_of_some _ e))
end

section
variable {X : Cx}
/-- min(xs, default=d), xs a list of ints -/
def rMinD (K : PySem.W.Frag) : List V → List V → Hp → VK → Prop := fun vs zs H Q => ∃ (a : Addr) (ns : List Int) (d : V), vs = [V.ref a] ∧ zs = [d] ∧ SqL K H a (ns.map V.int) ∧ (ns = [] → Q d H) ∧ (ns ≠ [] → ∀ m, m ∈ ns → (∀ y, y ∈ ns → m ≤ y) → Q (.int m) H)
theorem cr_minD (hc : X.calm = true) : CallRK X (.builtin "min") [Str.ofString "default"] (rMinD X.K) := by
  intro pn s gs H vs zs us ws Q I r rz h
  obtain ⟨a, ns, d, rfl, rfl, hs, q0, q1⟩ := h
  (obtain ⟨its, rv, hl, _⟩ := I.list hs)
  rw [Vals.ref1 r]
  obtain ⟨w1, rfl, rw1⟩ := vals1 rz
  have hi := rv.ints
  (obtain ⟨xs, e⟩ := hi.allInts.items)
  (have hn : numsOf (intItems xs).toList = ns := by rw [← e]; exact hi.numsOf)
  rw [nums_intItems] at hn
  subst hn
  have hl2 := hl.isList
  rw [e] at hl2
  show wpAny _ _ (call (.builtin "min") [.ref a] [(Str.ofString "default", w1)]) _ _ s
  refine call_mind_walk (iter_intList hl2 fun sa2 e2 st hfp hlI => ?_)
  subst e2
  refine ⟨_, _, _, _, _, _, _, rfl, Walks.list (A := X.A.in1) (I.ok.hd hc) _ a hlI (intItems xs), st, hfp, CmpOf.ints_lt (numAt xs) (fun _ _ => intItems_at), fun v h' tk hP hk => ?_⟩
  have ko := old_kept hk
  rcases hP with ⟨h0, rfl⟩ | ⟨hpos, hP⟩
  · have h1 : xs.size = 0 := by simpa [intItems] using h0
    exact ⟨d, H, I.kept ko, rw1, q0 (by rw [← List.length_eq_zero_iff, List.length_map, Array.length_toList]; exact h1)⟩
  · have hsz : 0 < xs.size := by simpa [intItems] using hpos
    have hP2 : (intItems xs)[argBest (fun i j => decide (numAt xs i < numAt xs j)) (xs.size - 1)]? = some v := by simpa [intItems] using hP
    obtain ⟨t, rfl⟩ := intItems_at hP2
    (obtain ⟨h1, h2⟩ := argBest_lt (numAt xs) (xs.size - 1))
    refine ⟨.int _, H, I.kept ko, ⟨_, rfl⟩, q1 (fun z => ?_) _ ?_ fun b hb => ?_⟩
    · rw [← List.length_eq_zero_iff, List.length_map, Array.length_toList] at z
      omega
    · (rw [numAt_eq]; exact PySem.getD_mem (by rw [List.length_map, Array.length_toList]; omega))
    · obtain ⟨j, hj, rfl⟩ := mem_getD hb
      (rw [List.length_map, Array.length_toList] at hj)
      (rw [← numAt_eq]; exact h2 j (by omega))
end
end Dx
namespace Dm
open L2 PyProof.Rows PySem.Spec PySem
section
variable {X : Cx}
theorem s_minD {p pos kp : Pos} {e e2 : Expr} {fe f2 : ES} (hc : X.calm = true) (hg0 : Gl X "min") (hm0 : X.mg "min" = none) (he : SE X e fe) (h2 : SE X e2 f2)
    (hs1 : starEach [e] X.env = (false, eval e X.env) :: starEach [] X.env := by rfl) :
    SE X (.Call (.Name "min" p) [e] [⟨some "default", e2, kp⟩] pos) (ePrim pMinD (aCons fe (aCons f2 aNil))) := by
  refine (pe_callBK (Dx.cr_minD hc) hg0 hm0 (by decide +kernel) (sa_cons he sa_nil hs1) (pk_cons h2 pk_nil) (by decide) (by decide) (by first | rfl | (rw [hs1]; rfl)) (by first | rfl | (rw [hs1]; rfl))).imp fun st H Q ⟨mu, env, m, d, m', h, r, e, kk⟩ => ?_
  unfold ePrim aCons aNil at e
  simp only [aCons] at e
  split at e
  · rename_i ds m1 e1
    split at e1
    · rename_i d1 m2 e2
      split at e1
      · rename_i ds2 m3 e3
        split at e3
        · rename_i d2 m4 e4
          cases e3
          cases e1
          refine ⟨mu, env, m, [d1], m2, h, r, by simp only [aCons, e2, aNil], fun v1 H1 mu1 s1 h1 r1 => ⟨mu1, env, m2, d2, _, h1, r.step s1 h, e4, fun v2 H2 mu2 s2 h2 r2 => ?_⟩⟩
          obtain ⟨v, rfl, rv⟩ := repl1 (r1.step s2 h1)
          unfold pMinD at e
          split at e
          · rename_i heq
            cases heq
            cases rv with
            | ref z =>
              split at e
              · rename_i ex
                cases e
                obtain ⟨vs, e1, q1⟩ := h2.lst ex z
                cases q1
                exact ⟨_, [], v2, rfl, rfl, SqL.of e1, fun _ => kk _ H2 mu2 (s1.trans s2) h2 r2, fun z => absurd rfl z⟩
              · rename_i xs hne ex
                cases q : intsOf xs with
                | none => (rw [q] at e; cases e)
                | some ns =>
                  rw [q] at e
                  cases q2 : minL ns with
                  | none => simp [q2] at e
                  | some k0 =>
                    simp only [Option.bind_some, q2, Option.map_some, Option.some.injEq, Prod.mk.injEq] at e
                    obtain ⟨rfl, rfl⟩ := e
                    obtain ⟨vs, e1, q1⟩ := h2.lst ex z
                    obtain ⟨t1, t2⟩ := minL_spec q2
                    exact ⟨_, ns, v2, rfl, rfl, ints_rep q q1 ▸ SqL.of e1, fun z => (by subst z; simp at t1), fun _ mm h1 h3 => by rw [t2 mm h1 h3]; exact kk _ H2 mu2 (s1.trans s2) h2 (.int _)⟩
              · cases e
          · cases e
        · cases e3
      · cases e1
    · cases e1
  · cases e
end
end Dm
namespace Dm
open L2 PyProof.Rows PySem.Spec PySem
section
variable {X : Cx}
/-- sorted(xs, key=len) -/
theorem s_sortLen {p pos p2 kp : Pos} {e : Expr} {fe : ES} (hxe : X.xe = fun _ _ => False) (hu : X.A.units + 64 < cLine) (hg0 : Gl X "sorted") (hm0 : X.mg "sorted" = none) (hg : Gl X "len") (hm : X.mg "len" = none) (he : SE X e fe)
    (hs1 : starEach [e] X.env = (false, eval e X.env) :: starEach [] X.env := by rfl) :
    SE X (.Call (.Name "sorted" p) [e] [⟨some "key", .Name "len" p2, kp⟩] pos) (ePrim (pSortK fun d m => pLen [d] m) (aCons fe aNil)) := by
  refine ⟨fun pn s gs H Q I ⟨mu, env, m, d, m', h, r, e, kk⟩ => ?_⟩
  unfold ePrim at e
  split at e
  · rename_i as m1 e1
    unfold aCons aNil at e1
    dsimp only at e1
    split at e1
    · rename_i d1 m2 e2
      cases e1
      refine wpAny_Call_Name_kw (ld_blt I hg0 hm0 (u := .builtin "sorted") (by decide +kernel) ?_)
      refine PyProof.Rows.callWith_kw (thn ((sa_cons he sa_nil hs1).run pos pn s gs H (fun vs H1 => ∃ mu1, Stp mu H mu1 H1 ∧ HR X.K mu1 H1 m1 ∧ RepL X.K mu1 H1 vs [d1]) I ⟨mu, env, m, [d1], m1, h, r, by simp only [aCons, e2, aNil], fun vs H1 mu1 a1 a2 a3 => ⟨mu1, a1, a2, a3⟩⟩) fun us s1 ⟨vs, H1, I1, r1, mu1, st1, h1, rp1⟩ => ?_)
        (by first | rfl | (rw [hs1]; rfl)) (by first | rfl | (rw [hs1]; rfl))
      show wpAny _ _ (evalAll ((do let v ← eval (.Name "len" p2) X.env; standAt pos; pure v) :: [])) _ _ s1
      refine wpAny_evalAll_cons (wpAny_bind (ld_blt I1 hg hm (u := .builtin "len") (by decide +kernel) (wpAny_bind (wpAny_standAt (wpAny_pure (wpAny_evalAll_nil ?_))))))
      unfold pSortK at e
      dsimp only at e
      split at e
      · rename_i ds ed
        split at e
        · rename_i qs eq'
          split at e
          · rename_i hs
            cases e
            obtain ⟨v, rfl, rv⟩ := repl1 rp1
            obtain ⟨a, xs, rfl, hq, rx⟩ := lst_rep h1 rv ed
            obtain ⟨u1, rfl, ru⟩ := vals1 r1
            cases ru
            obtain ⟨i1, i2⟩ := keysBy_items eq'
            rw [← i1] at rx
            exact sortK_run (g := fun d m => pLen [d] m) hxe hu (keyf_call (X := deep2 X) (f := pLen) c_len k_len) (ksk_s1 _ _) (fun _ => ksk_l1 _ _) (fun x => ksk_t4 "len" x) I1 h1 hq rx i2 hs fun v H' mu' s3 h3 r3 => kk v H' mu' (st1.trans s3) h3 r3
          · cases e
        · cases e
      · cases e
    · cases e1
  · cases e
end
end Dm
end

section
set_option Elab.async false
set_option linter.all false
set_option maxRecDepth 100000
set_option maxHeartbeats 1100000
namespace Dx
open PySem PySem.Spec PySem.W PyProof.Rows
open Builtin Builtin.Int Builtin.Str Builtin.Float
/-- the binary digits of a whole number -/
def binT (n : Nat) : PySem.Str := ⟨((Nat.toDigits 2 n).map Char.toNat).toArray⟩
def fB : FormatSpec := { align := 62, type := some 98 }
theorem hpB (nm : String) : parseFormatSpec (PySem.Str.ofString "b").cps.toList nm 62 = .ok fB := by rfl
theorem field_len (n : Nat) : (intField' fB false [] ((Nat.toDigits 2 n).map fun c => (if (98 : Nat) == 88 then c.toUpper else c).toNat) [] 4) = binT n := by
  unfold intField' binT fB
  have hne : ((Nat.toDigits 2 n).map Char.toNat).isEmpty = false := by
    rw [List.isEmpty_eq_false_iff]
    intro h
    have h2 := congrArg List.length h
    simp only [List.length_map, List.length_nil] at h2
    have := Nat.length_toDigits_pos (b := 2) (n := n)
    omega
  simp [hne]
theorem bin_meets {a : Int} {t : Tok} (h0 : 0 ≤ a) (hz : (binT a.natAbs).length ≤ sizeLine) : ∀ u, Meets («int.__format__» ⟨[.int a t, .str (PySem.Str.ofString "b") u], []⟩) (fun _ R s => ∀ t' k, R (.ok (.ret (.str (binT a.natAbs) t'))) { s with toks := k }) := by
  intro u
  apply KPc.meets_of
  intro pg w A s Q E hR
  have hq := hpB
  have hn1 : ((PySem.Str.ofString "b").length == 0) = false := by decide +kernel
  have hn2 : (((PySem.Str.ofString "b").cps.toList.drop 1).any (· ≥ 128) || ((PySem.Str.ofString "b").cps.getD 0 0 ≥ 128 && !([60, 62, 61, 94] : List Nat).contains ((PySem.Str.ofString "b").cps.getD 1 0))) = false := by decide +kernel
  generalize PySem.Str.ofString "b" = sp at hq hn1 hn2 ⊢
  obtain ⟨f, hf⟩ : ∃ f, f = fB := ⟨_, rfl⟩
  rw [← hf] at hq
  (unfold Builtin.«int.__format__»)
  simp only [selfAndOne, noKeywords, Int.intOfSelf, asInt?, asStr?, List.isEmpty_nil, if_true, pure_bind, bind_pure, bind_assoc, hn1, hn2, Bool.false_eq_true, if_false, show (Value.str sp u == Value.none) = false from rfl]
  (refine wpAny_bind (wpAny_typeNameOf (T := "str") (typeIs_str _ _ _) (by decide) fun _ => ?_))
  (refine wpAny_bind (wpAny_typeNameOfCut_int ?_))
  simp only [hq]
  rw [show f.type.getD (if (sp.cps.back? == some 0) = true then 0 else 100) = 98 from by rw [hf]; rfl]
  refine wpAny_ite (KPc.ite_yes (by decide +kernel) ?_)
  (show wpAny _ _ (if _ then _ else _) _ _ _)
  rw [if_neg (by rw [hf]; decide)]
  (show wpAny _ _ (if _ then _ else _) _ _ _)
  rw [if_neg (by rw [hf]; decide)]
  (show wpAny _ _ (if _ then _ else _) _ _ _)
  rw [if_neg (by decide)]
  (show wpAny _ _ (if _ then _ else _) _ _ _)
  rw [if_neg (by decide)]
  (show wpAny _ _ (if _ then _ else _) _ _ _)
  rw [if_neg (by rw [hf]; decide)]
  have hneg : decide (a < 0) = false := decide_eq_false (by omega)
  refine KXf.ret_text (T := binT a.natAbs) ?_ ?_ hR
  · rw [← field_len, hneg, hf]
    rfl
  · have e : ∀ X : PySem.Str, X = binT a.natAbs → X.length ≤ sizeLine := fun X e => by rw [e]; exact hz
    apply e
    rw [← field_len, hneg, hf]
    rfl
end Dx
namespace Dm
open L2 PyProof.Rows PySem.Spec PySem
section
variable {X : Cx}
theorem bin_len {n : Nat} (h : n.log2 < 1000000) : (Dx.binT n).length ≤ sizeLine := by
  have e : (Dx.binT n).length = (Nat.toDigits 2 n).length := by
    show (((Nat.toDigits 2 n).map Char.toNat).toArray).size = _
    (rw [List.size_toArray, List.length_map])
  rw [e]
  have h2 : n < 2 ^ 1000000 := Nat.lt_of_lt_of_le Nat.lt_log2_self (Nat.pow_le_pow_right (by decide) (by omega))
  have h3 := (Nat.length_toDigits_le_iff (b := 2) (k := 1000000) (n := n) (by decide) (by decide)).mpr h2
  rw [sizeLine_eq]
  omega
theorem s_fmtB {e : Expr} {fe : ES} {p1 p2 p3 p4 : Pos} (he : SE X e fe) : SE X (.JoinedStr [.FormattedValue e (-1) (some (.JoinedStr [.Constant (.str (PySem.Str.ofString "b")) 0 p1] p2)) p3] p4) (eUn oFmtB fe) := by
  refine pe_joined1 ⟨fun pn s gs H Q I ⟨mu, env, m, d, m', h, r, e, kk⟩ => ?_⟩
  unfold eUn at e
  split at e
  · rename_i d1 m1 e1
    unfold oFmtB at e
    split at e
    · rename_i n
      split at e
      · rename_i hl
        cases e
        refine PySem.wpAny_FormattedValue_spec (thn (he.run pn s gs H (fun v H1 => ∃ mu1, Stp mu H mu1 H1 ∧ HR X.K mu1 H1 m' ∧ v = .int n) I ⟨mu, env, m, _, _, h, r, e1, fun v H1 mu1 s1 h1 r1 => ⟨mu1, s1, h1, by cases r1; rfl⟩⟩) fun u s1 ⟨v, H1, I1, ru, mu1, st1, h1, hv⟩ => ?_)
        subst hv
        obtain ⟨t, rfl⟩ := (show ∃ t, u = Value.int n t from ru)
        refine thn ((pe_joined1 (pe_str (x := PySem.Str.ofString "b") (pos := p1))).run pn s1 gs H1 (fun v H2 => v = .str (PySem.Str.ofString "b") ∧ H2 = H1) I1 ⟨rfl, rfl⟩) fun u2 s2 ⟨v2, H2, I2, r2, hv2, hH⟩ => ?_
        subst hv2 hH
        obtain ⟨t2, rfl⟩ := (show ∃ t, u2 = Value.str _ t from r2)
        refine ⟨_, t2, rfl, PySem.W.KXf.field_int (y := Dx.binT n) rfl (by decide +kernel) (by decide +kernel) (Dx.bin_meets (a := (n : Int)) (Int.natCast_nonneg n) (bin_len hl)) fun t3 k3 => ?_⟩
        exact ⟨.str (Dx.binT n), H2, I2.kept (t' := k3) fun _ _ e => e, ⟨t3, rfl⟩, kk _ H2 mu1 st1 h1 (.str _)⟩
      · cases e
    · cases e
  · cases e
theorem cnt_count (c : Nat) : ∀ l : List Nat, PyProof.Rows.cnt c l = ((l.count c : Nat) : Int) := by
  intro l
  induction l with
  | nil => rfl
  | cons x r ih =>
    rw [PyProof.Rows.cnt_cons, ih, List.count_cons]
    by_cases h : x = c
    · subst h; simp; omega
    · have h2 : ¬ c = x := fun z => h z.symm
      simp [h, h2]
theorem k_count {K : PySem.W.Frag} : MtK K (fun x xs H Q => ∃ a b, x = .str a ∧ xs = [.str b] ∧ Q (.int (Txt.count a b)) H) mCount := by
  intro mu H m x a xs as d m' Q h r1 r2 e k
  unfold mCount at e
  split at e
  · split at e
    · rename_i c hc
      cases e
      obtain ⟨v, rfl, rv⟩ := repl1 r2
      cases r1
      cases rv
      refine ⟨_, _, rfl, rfl, ?_⟩
      have e2 : ∀ y0 : PySem.Str, y0.cps.toList = [c] → y0 = ⟨#[c]⟩ := by
        rintro ⟨⟨l⟩⟩ hc
        simp at hc
        subst hc
        rfl
      rw [e2 _ hc, PyProof.Rows.count_cnt, cnt_count]
      exact k _ H mu (Stp.refl _ _) h (.int _)
    · cases e
  · cases e
end
end Dm
end

section
set_option Elab.async false
set_option linter.all false
set_option maxRecDepth 100000
set_option maxHeartbeats 1100000
namespace Dx
open PySem PySem.Spec PySem.W PyProof.Rows
section
variable {prg : Program} {w : World} {A : Around} {E : Value → Shared → Prop} {s : Shared}
theorem collect_tup {l : Addr} {vs : List Value} {Q : List Value → Shared → Prop} (hl : s.heap.IsTuple l vs.toArray)
    (h : Q vs { s with heap := (s.heap.push (seqObj "list" #[] 0)).update s.heap.objs.size (Obj.mapSeq (· ++ vs.toArray)) }) (hsz : vs.length ≤ sizeLine) : wpAny (model prg w) A (collect (.ref l)) Q E s := by
  (obtain ⟨o, ho, hc, n, hd⟩ := id hl)
  unfold collect
  (refine wpAny_bind (wpAny_runValue (codeAny_builtin entry_proto_collect' ?_)))
  (show wpAny _ _ (do again (.builtin "list.__iadd__" ⟨[← newList [], .ref l], []⟩)) _ _ s)
  (refine wpAny_bind (wpAny_newList (wpAny_pure ⟨Code.quiet_builtin _ (by decide +kernel), codeAny_builtin entry_list_iadd' ?_⟩)))
  (show wpAny _ _ (Builtin.List.listExtendWith (.ref s.heap.objs.size) (.ref l) (.ref s.heap.objs.size)) _ _ { s with heap := s.heap.push (seqObj "list" #[] 0) })
  (unfold Builtin.List.listExtendWith)
  have hoq : (s.heap.push (seqObj "list" #[] 0)).get? l = some o := Heap.get?_push_of_some _ ho
  refine wpAny_bind (wpAny_typeOf (T := "tuple") ⟨o, hoq, hc⟩ ?_)
  have htq : (Value.type "tuple" == Value.type "tuple") = true := by rfl
  rw [if_pos (by rw [htq]; simp)]
  refine wpAny_bind (listItems_at hoq hd ?_)
  (refine wpAny_bind (listItems_at (xs := #[]) (n := 0) (Heap.get?_push_size _ rfl) rfl ?_))
  rw [if_neg (by simp)]
  (refine wpAny_bind (listUpdate_at (xs := #[]) (n := 0) (Heap.get?_push_size _ rfl) rfl ?_ (Nat.zero_le _) (by show (#[] ++ vs.toArray).size ≤ sizeLine + 1; simp only [Array.size_append, List.size_toArray, List.length_nil]; omega)))
  refine wpAny_pure ?_
  show wpAny (model prg w) A (do
      let o ← load s.heap.objs.size
      match o.data with
      | .seq xs _ => pure xs.toList
      | _ => unsupported "internal:collect") Q E { s with heap := (s.heap.push (seqObj "list" #[] 0)).update s.heap.objs.size (Obj.mapSeq (· ++ vs.toArray)) } -- k47
  (refine wpAny_bind (wpAny_load (get?_update_seq (Heap.get?_push_size _ rfl) _) ?_))
  (show wpAny _ _ (pure ((#[] : Array Value) ++ vs.toArray).toList) Q E _)
  (rw [show ((#[] : Array Value) ++ vs.toArray).toList = vs by simp])
  exact wpAny_pure h
theorem sortT_of {l : Addr} {vs : List Value} {kw : List (Str × Value)} {Q : Value → Shared → Prop} (hl : s.heap.IsTuple l vs.toArray) (hL : vs.length ≤ sizeLine) (ha1 : argsOk "sorted" ⟨[.ref l], kw⟩) (ha2 : ∀ x, argsOk "list.sort" ⟨[.ref x], kw⟩)
    (body : ∀ E' : Value → Shared → Prop, wpAny (model prg w) A.in1.in1 (Builtin.«list.sort» ⟨[.ref (s.heap.objs.size + 1)], kw⟩) (fun f s' => f = .done (.ret .none) ∧ Q (.ref (s.heap.objs.size + 1)) s') E' { s with heap := copyHeap s.heap vs }) :
    wpAny (model prg w) A (call (.builtin "sorted") [.ref l] kw) Q E s := by
  (refine call_function_entry_kw kind_sorted plain_sorted entry_sorted ha1 ?_)
  unfold Builtin.«sorted»
  (refine wpAny_bind (m := checkCount "sorted" 1 1 _) (wpAny_pure ?_))
  refine wpAny_bind (collect_tup hl ?_ hL)
  (refine wpAny_bind (wpAny_newList ?_ hL))
  have hszq : ((s.heap.push (seqObj "list" #[] 0)).update s.heap.objs.size (Obj.mapSeq (· ++ vs.toArray))).objs.size = s.heap.objs.size + 1 := by
    (rw [Heap.size_update, size_push'])
  (show wpAny _ _ _ _ _ { s with heap := copyHeap s.heap vs })
  rw [hszq]
  (refine wpAny_bind (wpAny_holding (wpAny_call_entry_kw slot_list_sort ⟨_, copyHeap_at s.heap vs, rfl⟩ entry_list_sort ?body (ha2 _))))
  case body =>
    show wpAny (model prg w) A.in1.in1 (Builtin.«list.sort» ⟨[.ref (s.heap.objs.size + 1)], kw⟩) _ _ _
    (refine wpAny_mono (body _) (fun f s' hf => ?_) fun _ _ e => e)
    obtain ⟨rfl, hq⟩ := hf
    (exact ⟨_, rfl, wpAny_pure ⟨_, rfl, hq⟩⟩)
variable {β : Type} {vs : List Value} {bs : List β} {enc : β → PyData} {R : Value → β → Prop}
theorem sortedT_data {l : Addr} {Q : Value → Shared → Prop} (hl : s.heap.IsTuple l vs.toArray) (e : EachIs R vs bs) (er : EachIs (fun v b => ∃ as, Reads s.heap v (enc b) as) vs bs) (hal : AllAlike (bs.map enc)) (hk : Sortable (bs.map enc)) (hL : bs.length ≤ sizeLine) (hu : ∀ b, b ∈ bs → A.units + 2 + (enc b).depth < cLine) (h : ∀ out, out.length = bs.length → EachIs R out (bs.mergeSort (dataLe false enc)) → Q (.ref (s.heap.objs.size + 1)) { s with heap := sortedAll s.heap vs (List.toArray out) }) :
    wpAny (model prg w) A (call (.builtin "sorted") [.ref l]) Q E s := by
  have erq : EachIs (fun v b => ∃ as, Reads (sortingHeap (copyHeap s.heap vs) (s.heap.objs.size + 1) vs) v (enc b) as) vs bs := er.mono fun _ _ ⟨as, r⟩ => ⟨as, PyProof.Rows.Reads.keeps (fun _ _ => sorting_copy_old) r⟩
  have hLq : vs.length ≤ sizeLine := by rw [e.length]; exact hL
  refine sortT_of hl hLq (args_sorted1 _) (fun _ => args_list_sort _) fun _ => list_sort_vals (s := { s with heap := copyHeap s.heap vs }) (copyHeap_at s.heap vs)
    (SortsAt.data (s := { s with heap := sortingHeap (copyHeap s.heap vs) (s.heap.objs.size + 1) vs }) (each_map (R := fun v d => ∃ as, Reads (sortingHeap (copyHeap s.heap vs) (s.heap.objs.size + 1) vs) v d as) enc erq) hal hk (bound_map hu)) hLq ⟨rfl, ?_⟩
  exact h _ (by rw [sortVals_length false rfl]; exact e.length) (sortVals_data false e erq hal)
end
end Dx
namespace Dm
open L2 PyProof.Rows PySem.Spec PySem
def rSortT (K : PySem.W.Frag) : List V → Hp → VK → Prop := fun xs H Q => ∃ (a : Addr) (T : List VP), xs = [.ref a] ∧ SqT K H a (T.map (·.1)) ∧
  (DpAll K H (T.map (·.1)) (T.map (·.2)) ∧ PySem.W.AllAlike (T.map (·.2)) ∧ PySem.W.Sortable (T.map (·.2)) ∧ ∀ t, t ∈ T → t.2.depth ≤ 60) ∧
  ∀ p, H p = none → Q (.ref p) (L2.upd H p (.lst ((T.mergeSort vle).map (·.1))))
def rSortA (K : PySem.W.Frag) : List V → Hp → VK → Prop := fun xs H Q => rSortD K xs H Q ∨ rSortT K xs H Q
section
variable {X : Cx} {K : PySem.W.Frag}
theorem c_sortedT (hu : X.A.units + 64 < cLine) : CallR X (.builtin "sorted") (rSortT X.K) := by
  intro pn s gs H xs us Q I r h
  obtain ⟨a, T, rfl, hq, ⟨hd, hal, hk, hdep⟩, q⟩ := h
  obtain ⟨u1, rfl, ru1⟩ := vals1 r
  cases ru1
  (obtain ⟨its, rv, p, hz⟩ := I.tuple hq)
  have hz' : T.length ≤ sizeLine := by rwa [List.length_map] at hz
  refine Dx.sortedT_data (R := fun (u : Value) (b : VP) => RelV b.1 u) (enc := fun z : VP => z.2) p (vals_each rv) (reads_each I rv hd) hal hk hz' (fun b hb => ?_) fun out hl he => ?_
  · have := hdep b hb; omega
  · obtain ⟨ep, he'⟩ := PyProof.Rows.sortedAll_at s.heap its (List.toArray out)
    refine ⟨.ref _, L2.upd H (s.heap.objs.size + 1) (.lst ((T.mergeSort vle).map (·.1))), I.laid (t' := s.toks) (fun _ _ => PyProof.Rows.sortedAll_old) (Nat.le_succ _) ⟨by rw [List.length_map, List.length_mergeSort]; exact hz', _, ep, each_vals he, he'⟩, rfl, q _ (I.hok.fresh (Nat.le_succ _))⟩
theorem c_sortedA (hu : X.A.units + 64 < cLine) : CallR X (.builtin "sorted") (rSortA X.K) := (c_sorted hu).or (c_sortedT hu)
theorem k_sortedA : CaK K (rSortA K) pSortedA := by
  intro mu H m xs as d m' Q h r e k
  unfold pSortedA at e
  split at e
  · rename_i ds
    split at e
    · rename_i ps ep
      split at e
      · rename_i hs
        cases e
        obtain ⟨v, rfl, rv⟩ := repl1 r
        cases rv with
        | tup hq rl =>
          rename_i a vs
          right
          obtain ⟨i1, i2⟩ := keysBy_items ep
          rw [← i1] at rl
          obtain ⟨Z, e1, e2, e3⟩ := zip_rep rl
          have ek : Z.map (fun z => z.2.2) = ps.map (·.2) := by rw [← e2, List.map_map]; rfl
          have hsz : sortable (Z.map fun z => z.2.2) = true := by rw [ek]; exact hs
          have eT1 : (Z.map fun z => ((z.1, z.2.2.py) : VP)).map (·.1) = vs := by rw [List.map_map, ← e1]; rfl
          have hdp : ∀ z ∈ Z, Dp K H z.1 z.2.2.py := fun z hz => by
            have hm : z.2 ∈ ps := by rw [← e2]; exact List.mem_map.mpr ⟨z, hz, rfl⟩
            have q := i2 _ hm
            cases qq : rd m z.2.1 with
            | none => rw [qq] at q; cases q
            | some kk =>
              rw [qq] at q
              have : kk = z.2.2 := by simpa using q
              subst this
              exact rd_dp h (e3 z hz) qq
          obtain ⟨s1, s2, s3⟩ := sortable_py hsz
          have eT2 : (Z.map fun z => ((z.1, z.2.2.py) : VP)).map (·.2) = (Z.map fun z => z.2.2).map D.py := by rw [List.map_map, List.map_map]; rfl
          refine ⟨a, Z.map fun z => ((z.1, z.2.2.py) : VP), rfl, by rw [eT1]; exact hq, ⟨dpall_of hdp, by rw [eT2]; exact s1, by rw [eT2]; exact s2, fun t ht => ?_⟩, fun p hp => ?_⟩
          · obtain ⟨z, hz, rfl⟩ := List.mem_map.mp ht
            exact (s3 z.2.2 (List.mem_map.mpr ⟨z, hz, rfl⟩)).2
          · have rr := sort_rep (K := K) (m := m) Z e3 (by rw [hsz]; rfl)
            rw [e2] at rr
            exact k _ _ _ (Stp.add hp) (h.add hp fun mu' pr => ⟨_, upd_same, RepL.keep pr ((Stp.upd hp).keep h) _ _ rr⟩) (.ref (add_get h.len p))
      · cases e
    · cases e
  · exact .inl (k_sorted mu H m xs _ d m' Q h r e k)
end
end Dm
end

section
set_option Elab.async false
set_option linter.all false
set_option maxRecDepth 100000
namespace Dm
open L2 PyProof.Rows PySem.Spec PySem

/-! ## words for the derivations -/
section
variable {X : Cx} {pos : Pos}
/-- the name that stands in the i-th slot -/
theorem sv (i : Nat) {x : Str} (hN : X.N[i]? = some x := by rfl) (hv : Vis X.env.scope x := by first | exact Or.inl rfl | exact Or.inr (Or.inl rfl) | exact Or.inr (Or.inr rfl))
    (hd : (x == ("__debug__" : Str)) = false := by decide) (hcd : (x == ("__classdict__" : Str)) = false := by decide) : SE X (.Name x pos) (eVar i) := s_var hN hv hd hcd
/-- a constant of the module -/
theorem s_glob {x : Str} {d : D} (h : ∃ a : Addr, X.mg x = some (.ref a) ∧ ∀ mu H, Rep X.K mu H (.ref a) d) (hg : Gl X x := by rfl) (hdb : (x == ("__debug__" : Str)) = false := by decide) : SE X (.Name x pos) (eC d) := by
  obtain ⟨a, h1, h2⟩ := h
  exact s_c (pe_glob (v := .ref a) hg h1 rfl hdb) h2
/-- the lengths of argument lists -/
def AL (g : LS) (n : Nat) : Prop := ∀ env m ds m', g env m = some (ds, m') → ds.length = n
theorem al_nil : AL aNil 0 := fun env m ds m' h => by cases h; rfl
theorem al_cons {f : ES} {g : LS} {n : Nat} (h : AL g n) : AL (aCons f g) (n + 1) := fun env m ds m' e => by
  unfold aCons at e
  split at e
  · split at e
    · rename_i ds1 m2 e2
      cases e
      rw [List.length_cons, h _ _ _ _ e2]
    · cases e
  · cases e
theorem tn {x : Str} {t : Ty} (mg : X.mg x = none) (gl : Gl X x := by rfl) (bv : bootBuiltins x = some (.type t.nm) := by decide +kernel) (n1 : x ≠ "__name__" := by decide) (n2 : (x == ("__debug__" : Str)) = false := by decide) : TyN X x t := ⟨gl, mg, bv, n1, n2⟩
end

/-! ## the defs of a text, by levels -/
abbrev SemT := FT → Nat → List D → M → Option (D × M)
/-- the names and the numbers of parameters -/
abbrev Sig := List (Str × Nat)
section
variable {w : World} {P : Program} {K : PySem.W.Frag} {mg : Str → Option Value} {base : Heap}
def Good (P : Program) (w : World) (K : PySem.W.Frag) (mg : Str → Option Value) (base : Heap) (sig : Sig) (k : Nat) (F : FT) : Prop := ∀ (j : Nat) (x : Str) (n : Nat), sig[j]? = some (x, n) → Fx P w K mg base (3 * k) n (F j) x
/-- a def as the top has written it -/
structure Dn (K : PySem.W.Frag) (mg : Str → Option Value) (st : Stmt) (x : Str) (ps : List Str) : Prop where
  ex : ∃ (fa : Addr) (fd : FuncData), Fun K x x st fa fd ∧ mg x = some (.ref fa) ∧ Binds K fd ps []
theorem fx_none {st : Stmt} {x : Str} {ps : List Str} {n k : Nat} (h : Dn K mg st x ps) (hn : ps.length = n) : Fx P w K mg base k n (fun _ _ => none) x := by
  obtain ⟨fa, fd, F, hm, hb⟩ := h.ex
  refine ⟨fa, fd, ps, ⟨fun vs H Q E h => by rw [h.1, hn], fun A outer s H args us vs Q E hr he hb' hv hsp => ?_⟩, hm, F.kp, hb⟩
  obtain ⟨_, mu, m, ds, d, m', _, _, e, _⟩ := hsp
  cases e
theorem fx_ok {x : Str} {st : Stmt} {N ps : List Str} {k n j : Nat} {b : SS} (h : Dn K mg st x ps) (S : FnScope N ps (defScope st)) (hn : ps.length = n) (hj : N.length - n = j)
    (hbody : ∀ (fa : Addr) (cdv : Value) (A : Around) (outer : List PySem.Env) (s : Shared) (H : Hp) (E : XK), Room (3 * k + 2) (A.deeper (envOfC x (defScope st) s.heap.objs.size fa cdv)) →
      SBlk (cxOf CX0 P w K mg base N x (defScope st) fa cdv A outer s H E).nox (defBody st) b) : Fx P w K mg base (3 * (k + 1)) n (fnS n j b) x := by
  obtain ⟨fa, fd, F, hm, hb⟩ := h.ex
  exact ⟨fa, fd, ps, f_ok F S hn hj fun cdv A outer s H E hr => hbody fa cdv A outer s H E hr, hm, F.kp, hb⟩
theorem _root_.L2.Room.low {k : Nat} {A : Around} (r : Room (3 * k + 2) A) : Room (3 * k) A := r.mono (by omega)
theorem _root_.L2.Room.u65 {k : Nat} {A : Around} (r : Room k A) : A.units + 65 < cLine := by have := r.un; omega
theorem _root_.L2.Room.u64 {k : Nat} {A : Around} (r : Room k A) : A.units + 64 < cLine := by have := r.un; omega
theorem _root_.L2.Room.u1 {k : Nat} {A : Around} (r : Room k A) : A.units + 1 < cLine := by have := r.un; omega
end
end Dm
namespace Dm
open L2 PyProof.Rows PySem.Spec PySem
theorem dn_mk {K : PySem.W.Frag} {h : Heap} {mg : Str → Option Value} {st : Stmt} {x : Str} {ps : List Str} {f : Addr} {od an : Option Addr} {sl : Array (Option Value)} {oc kV dc pm cd ct : Value} (X : K.In h) (G : h.Ns mainGlobals mg)
    (a : PySem.W.nsIn K mainGlobals x = some (some (.ref f))) (l : K.lookup f = some ⟨oc, od, .func (PySem.W.fnOf x x (defArgs st) (defBody st) (defScope st) .none kV dc pm an cd ct), sl⟩) (c : PySem.W.codeIn K cd x = true) (k : PySem.W.keepIn K (.ref f) = true)
    (b : ∀ (kV doc pm : Value) (an : Option Addr) (cdv ct : Value) (us : List Value), us.length = ps.length → bindArgs (PySem.W.fnOf x x (defArgs st) (defBody st) (defScope st) .none kV doc pm an cdv ct) ⟨us, []⟩ = pure (ps.zip us)) : Dn K mg st x ps := by
  have F := fun_mk (st := st) l c k
  exact ⟨f, _, F, PySem.W.mg_of X G a, F.binds b⟩
/-- the law's own def -/
theorem law_mk {l : PySem.W.OpenLaw} {w : World} {K : PySem.W.Frag} {h : Heap} {mg : Str → Option Value} {st : Stmt} {x : Str} {fa f : Addr} {od an : Option Addr} {sl : Array (Option Value)} {oc kV dc pm cd ct : Value} {n k : Nat} {g : List D → M → Option (D × M)} (X : K.In h) (G : h.Ns mainGlobals mg) (hfa : mg "law" = some (.ref fa))
    (a : PySem.W.nsIn K mainGlobals "law" = some (some (.ref f))) (lk : K.lookup f = some ⟨oc, od, .func (PySem.W.fnOf "law" "law" (defArgs st) (defBody st) (defScope st) .none kV dc pm an cd ct), sl⟩) (c : PySem.W.codeIn K cd "law" = true) (kp : PySem.W.keepIn K (.ref f) = true)
    (b : ∀ (kV doc pm : Value) (an : Option Addr) (cdv ct : Value) (us : List Value), us.length = 1 → bindArgs (PySem.W.fnOf "law" "law" (defArgs st) (defBody st) (defScope st) .none kV doc pm an cdv ct) ⟨us, []⟩ = pure ([x].zip us))
    (ok : ∀ (base : Heap) (fd : FuncData), Fun K "law" "law" st f fd → FnOk l.prog w K mg base CX0 k f fd [x] (spF K 1 g)) (hp : ∀ ns : List Int, ns.length ≤ n → ∃ m', g [.fl (ns.map .int)] [] = some (.bl true, m')) :
    ∃ fd : FuncData, (∀ (s : Shared) (u : Value), BindsTo s fd ⟨[u], []⟩ [(x, u)]) ∧ ∀ base : Heap, K.In base → base.Ns mainGlobals mg → FnOk l.prog w K mg base CX0 k fa fd [x] (fun vs H Q _ => ∃ a ns, vs = [.ref a] ∧ List.length ns ≤ n ∧ FzL K H a (ns.map V.int) ∧ ∀ H', Q (.bl true) H') := by
  have e := hfa.symm.trans (PySem.W.mg_of X G a)
  cases e
  have F := fun_mk (st := st) lk c kp
  refine ⟨_, fun s u => .of_eq (b kV dc pm an cd ct [u] rfl), fun base _ _ => (ok base _ F).imp fun vs H Q E h => ?_⟩
  obtain ⟨a, ns, rfl, hl, hz, q⟩ := h
  obtain ⟨m', e⟩ := hp ns hl
  have rl : ∀ ns : List Int, RepL K [] H (ns.map V.int) (ns.map D.int) := by
    intro ns
    induction ns with
    | nil => exact .nil
    | cons i r ih => exact .cons (.int i) ih
  exact ⟨rfl, [], [], [.fl (ns.map .int)], .bl true, m', ⟨rfl, .nil, fun l o a h => by simp at h⟩, .cons (.fl hz (rl ns)) .nil, e, fun v H' mu' _ _ r => by cases r; exact q H'⟩
theorem only_fz {K : PySem.W.Frag} {H : Hp} {a : Addr} {xs : List V} (hO : Only H) (h : SqL K H a xs) : FzL K H a xs := by
  rcases h with (h | h) | h
  · rcases hO a with z | ⟨o, ys, z⟩
    · rw [z] at h; cases h
    · rw [z] at h; cases h
  · exact .inl h
  · exact .inr h
/-- a constant tuple of texts, or of ints -/
theorem const_mk {K : PySem.W.Frag} {h : Heap} {mg : Str → Option Value} {x : Str} {f : Addr} {its : Array Value} {n : Nat} {d : D} {ds : List D} {vs : List V} (X : K.In h) (G : h.Ns mainGlobals mg) (a : PySem.W.nsIn K mainGlobals x = some (some (.ref f)))
    {sl : Array (Option Value)} (l : K.lookup f = some ⟨.type "tuple", none, .seq its n, sl⟩) (hd : d = .tup ds) (hz : its.size ≤ sizeLine) (hv : Vals vs its.toList) (hr : ∀ mu H, RepL K mu H vs ds) : ∃ a : Addr, mg x = some (.ref a) ∧ ∀ mu H, Rep K mu H (.ref a) d := by
  refine ⟨f, PySem.W.mg_of X G a, fun mu H => ?_⟩
  subst hd
  exact .tup (.inr ⟨_, its, n, l, rfl, rfl, hz, hv⟩) (hr mu H)
end Dm
namespace Dm
/-- said of the fragment that a heap keeps -/
abbrev atK {K : PySem.W.Frag} {h : PySem.Heap} (_ : K.In h) (p : PySem.W.Frag → Prop) : Prop := p K
end Dm
end

section
set_option linter.all false
namespace K47
open PySem Dm
/-! ## the meaning of the defs -/
def c_WHYS : D := (.tup [(.str (Str.ofString "whys"))])
/-- value_key(value); slots: value -/
def m_value_key (F : FT) : List D → M → Option (D × M) := fnS 1 0 (
    (sSeq (sIf (nrm (eUn (oIsi [.str]) (eVar 0))) (sRet (eTup (aCons (eC (.int 1)) (aCons (eC (.int 0)) (aCons (eVar 0) aNil))))) sNil)
    (sRet (eTup (aCons (eC (.int 0)) (aCons (eVar 0) (aCons (eC (.str (Str.ofString ""))) aNil)))))))
/-- row_key(row); slots: row, value -/
def m_row_key (F : FT) : List D → M → Option (D × M) := fnS 1 1 (
    (sRet (ePrim pTuple (aCons (eLc [1] (iSeq (eVar 0)) (tName 1) (eC (.bl true)) (nrm (ePrim (F 0) (aCons (eVar 1) aNil)))) aNil))))
/-- mark_key(mark); slots: mark -/
def m_mark_key (F : FT) : List D → M → Option (D × M) := fnS 1 0 (
    (sSeq (sIf (nrm (eOp (oEq false) (eVar 0) (eTup aNil))) (sRet (eTup aNil)) sNil)
    (sRet (eTup (aCons (eOp oIx (eVar 0) (eC (.int 0))) (aCons (ePrim (F 1) (aCons (eOp oIx (eVar 0) (eC (.int 1))) aNil)) (aCons (eOp oIx (eVar 0) (eC (.int 2))) aNil)))))))
/-- pair_key(pair); slots: pair -/
def m_pair_key (F : FT) : List D → M → Option (D × M) := fnS 1 0 (
    (sRet (eTup (aCons (ePrim (F 2) (aCons (eOp oIx (eVar 0) (eC (.int 0))) aNil)) (aCons (ePrim (F 1) (aCons (eOp oIx (eVar 0) (eC (.int 1))) aNil)) aNil)))))
/-- mask_size(mask); slots: mask, text -/
def m_mask_size (F : FT) : List D → M → Option (D × M) := fnS 1 1 (
    (sSeq (sAsg (tName 1) (nrm (eUn oFmtB (eVar 0))))
    (sRet (eMeth .str mCount (eVar 1) (aCons (eC (.str (Str.ofString "1"))) aNil)))))
/-- places_of(mask); slots: mask, places, lowest -/
def m_places_of (F : FT) : List D → M → Option (D × M) := fnS 1 2 (
    (sSeq (sAsg (tName 1) (nrm (eLst aNil)))
    (sSeq (sWhile (nrm (eOp (oCmp fun i j => decide (j < i)) (eVar 0) (eC (.int 0)))) (sSeq (sAsg (tName 2) (nrm (eOp (oBit iand) (eVar 0) (eUn oNeg (eVar 0)))))
    (sSeq (sExpr (eMeth .list mAppend (eVar 1) (aCons (eOp oSub (eMeth .int mBits (eVar 2) aNil) (eC (.int 1))) aNil)))
    (sAsg (tName 0) (nrm (eOp (oBit ixor) (eVar 0) (eVar 2)))))))
    (sRet (eVar 1)))))
/-- ordered_parts(house, members); slots: house, members, found, member, part -/
def m_ordered_parts (F : FT) : List D → M → Option (D × M) := fnS 2 3 (
    (sSeq (sAsg (tName 2) (nrm (eDc2 [3, 4] [4] (iSeq (eVar 1)) (tName 3) (eC (.bl true)) (iSeq (eVar 3)) (tName 4) (eC (.bl true)) (nrm (eVar 4)) (nrm (eC (.bl true))))))
    (sSeq (sIf (nrm (eOp (oEq false) (eOp oIx (eVar 0) (eC (.int 0))) (eC (.str (Str.ofString "reasons"))))) (sRet (ePrim (pSortK fun d m => F 3 [d] m) (aCons (ePrim pList (aCons (eVar 2) aNil)) aNil))) sNil)
    (sRet (ePrim pSortedA (aCons (ePrim pList (aCons (eVar 2) aNil)) aNil))))))
/-- masks_of(members, parts); slots: members, parts, bits, place, part, member -/
def m_masks_of (F : FT) : List D → M → Option (D × M) := fnS 2 4 (
    (sSeq (sAsg (tName 2) (nrm (eDc [3, 4] (iEnumL (eVar 1)) (tTup ((tName 3) :: ((tName 4) :: []))) (eC (.bl true)) (nrm (eVar 4)) (nrm (eOp oShl (eC (.int 1)) (eVar 3))))))
    (sRet (eLc [5] (iSeq (eVar 0)) (tName 5) (eC (.bl true)) (nrm (ePrim pSum (aCons (eLc [4] (iSeq (eVar 5)) (tName 4) (eC (.bl true)) (nrm (eOp oIx (eVar 2) (eVar 4)))) aNil)))))))
/-- members_of(masks, parts); slots: masks, parts, found, mask, places, place -/
def m_members_of (F : FT) : List D → M → Option (D × M) := fnS 2 4 (
    (sSeq (sAsg (tName 2) (nrm (ePrim pSortedA (aCons (eLc [3] (iSeq (eVar 0)) (tName 3) (eC (.bl true)) (nrm (ePrim (F 5) (aCons (eVar 3) aNil)))) aNil))))
    (sRet (ePrim pTuple (aCons (eLc [4] (iSeq (eVar 2)) (tName 4) (eC (.bl true)) (nrm (ePrim pTuple (aCons (eLc [5] (iSeq (eVar 4)) (tName 5) (eC (.bl true)) (nrm (eOp oIx (eVar 1) (eVar 5)))) aNil)))) aNil)))))
/-- missed(supports, chosen, allowed); slots: supports, chosen, allowed, best, fewest, support, many -/
def m_missed (F : FT) : List D → M → Option (D × M) := fnS 3 4 (
    (sSeq (sAsg (tName 3) (nrm (eC .non)))
    (sSeq (sAsg (tName 4) (nrm (eC (.int 0))))
    (sSeq (sFor (iSeq (eVar 0)) (tName 5) (sIf (nrm (eOp (oEq false) (eOp (oBit iand) (eVar 5) (eVar 1)) (eC (.int 0)))) (sSeq (sAsg (tName 6) (nrm (ePrim (F 4) (aCons (eOp (oBit iand) (eVar 5) (eVar 2)) aNil))))
    (sIf (nrm (eOr (eUn (oIsN false) (eVar 3)) (eOp (oCmp fun i j => decide (i < j)) (eVar 6) (eVar 4)))) (sSeq (sAsg (tName 3) (nrm (eOp (oBit iand) (eVar 5) (eVar 2))))
    (sAsg (tName 4) (nrm (eVar 6)))) sNil)) sNil))
    (sRet (eVar 3))))))
/-- has_idle(supports, chosen); slots: supports, chosen, alone, support, hit -/
def m_has_idle (F : FT) : List D → M → Option (D × M) := fnS 2 3 (
    (sSeq (sAsg (tName 2) (nrm (eC (.int 0))))
    (sSeq (sFor (iSeq (eVar 0)) (tName 3) (sSeq (sAsg (tName 4) (nrm (eOp (oBit iand) (eVar 3) (eVar 1))))
    (sIf (nrm (eOp (oEq false) (eOp (oBit iand) (eVar 4) (eOp oSub (eVar 4) (eC (.int 1)))) (eC (.int 0)))) (sAsg (tName 2) (nrm (eOp (oBit ior) (eVar 2) (eVar 4)))) sNil)))
    (sRet (eOp (oEq true) (eVar 2) (eVar 1))))))
/-- cut_masks(supports); slots: supports, every, support, choices, found, chosen, allowed, place -/
def m_cut_masks (F : FT) : List D → M → Option (D × M) := fnS 1 7 (
    (sSeq (sAsg (tName 1) (nrm (eC (.int 0))))
    (sSeq (sFor (iSeq (eVar 0)) (tName 2) (sAsg (tName 1) (nrm (eOp (oBit ior) (eVar 1) (eVar 2)))))
    (sSeq (sAsg (tName 3) (nrm (eLst (aCons (eTup (aCons (eC (.int 0)) (aCons (eVar 1) aNil))) aNil))))
    (sSeq (sAsg (tName 4) (nrm (eLst aNil)))
    (sSeq (sWhile (nrm (eOp (oCmp fun i j => decide (j < i)) (ePrim pLen (aCons (eVar 3) aNil)) (eC (.int 0)))) (sSeq (sAsg (tTup ((tName 5) :: ((tName 6) :: []))) (nrm (eMeth .list mPop (eVar 3) aNil)))
    (sSeq (sIf (nrm (ePrim (F 10) (aCons (eVar 0) (aCons (eVar 5) aNil)))) sCnt sNil)
    (sSeq (sAsg (tName 2) (nrm (ePrim (F 9) (aCons (eVar 0) (aCons (eVar 5) (aCons (eVar 6) aNil))))))
    (sIf (nrm (eUn (oIsN false) (eVar 2))) (sExpr (eMeth .list mAppend (eVar 4) (aCons (eVar 5) aNil))) (sFor (iSeq (ePrim (F 5) (aCons (eVar 2) aNil))) (tName 7) (sSeq (sAsg (tName 6) (nrm (eOp (oBit ixor) (eVar 6) (eOp oShl (eC (.int 1)) (eVar 7)))))
    (sExpr (eMeth .list mAppend (eVar 3) (aCons (eTup (aCons (eOp (oBit ior) (eVar 5) (eOp oShl (eC (.int 1)) (eVar 7))) (aCons (eVar 6) aNil))) aNil))))))))))
    (sRet (eVar 4))))))))
/-- cuts(why); slots: why, parts -/
def m_cuts (F : FT) : List D → M → Option (D × M) := fnS 1 1 (
    (sSeq (sAsg (tName 1) (nrm (ePrim (F 6) (aCons (eC c_WHYS) (aCons (eVar 0) aNil)))))
    (sRet (ePrim (F 8) (aCons (ePrim (F 11) (aCons (ePrim (F 7) (aCons (eVar 0) (aCons (eVar 1) aNil))) aNil)) (aCons (eVar 1) aNil))))))
/-- least_cut(why); slots: why, best, cut -/
def m_least_cut (F : FT) : List D → M → Option (D × M) := fnS 1 2 (
    (sSeq (sAsg (tName 1) (nrm (eC .non)))
    (sSeq (sFor (iSeq (ePrim (F 12) (aCons (eVar 0) aNil))) (tName 2) (sIf (nrm (eOr (eUn (oIsN false) (eVar 1)) (eOp (oCmp fun i j => decide (i < j)) (ePrim pLen (aCons (eVar 2) aNil)) (ePrim pLen (aCons (eVar 1) aNil))))) (sAsg (tName 1) (nrm (eVar 2))) sNil))
    (sRet (eVar 1)))))
/-- _law_draws(script, many); slots: script, many, cells, left, draws, k, place, mixed, cell -/
def m__law_draws (F : FT) : List D → M → Option (D × M) := fnS 2 7 (
    (sSeq (sAsg (tName 2) (nrm (eLc [8] (iSeq (eVar 0)) (tName 8) (eC (.bl true)) (nrm (ePrim pInt (aCons (eVar 8) aNil))))))
    (sSeq (sIf (nrm (eOp (oEq false) (ePrim pLen (aCons (eVar 2) aNil)) (eC (.int 0)))) (sExpr (eMeth .list mAppend (eVar 2) (aCons (eC (.int 0)) aNil))) sNil)
    (sSeq (sAsg (tName 3) (nrm (ePrim pList (aCons (eVar 2) aNil))))
    (sSeq (sAsg (tName 4) (nrm (eLst aNil)))
    (sSeq (sFor (iRng1 (eVar 1)) (tName 5) (sSeq (sAsg (tName 6) (nrm (eOp oMod (eVar 5) (ePrim pLen (aCons (eVar 2) aNil)))))
    (sIf (nrm (eOp (oCmp fun i j => decide (j ≤ i)) (eOp oIx (eVar 2) (eVar 6)) (eOp oPow (eC (.int 10)) (eC (.int 18))))) (sSeq (sExpr (eMeth .list mAppend (eVar 4) (aCons (eOp oMod (ePrim pInt (aCons (eOp oIx (eVar 3) (eVar 6)) aNil)) (eC (.int 1000))) aNil)))
    (sSub (eVar 3) (eVar 6) (nrm (eOp oFdiv (eOp oIx (eVar 3) (eVar 6)) (eC (.int 1000)))))) (sSeq (sAsg (tName 7) (nrm (eOp oMod (ePrim pInt (aCons (eOp oAdd (eOp oAdd (eOp oMul (eOp oIx (eVar 2) (eVar 6)) (eC (.int 48271))) (eOp oMul (eVar 5) (eC (.int 69621)))) (eC (.int 11))) aNil)) (eC (.int 2147483647)))))
    (sExpr (eMeth .list mAppend (eVar 4) (aCons (eOp oMod (ePrim pInt (aCons (eOp oAdd (eOp oAdd (eOp oMul (eVar 7) (eVar 7)) (eOp oMul (eC (.int 3)) (eVar 7))) (eVar 5)) aNil)) (eC (.int 1000003))) aNil)))))))
    (sSeq (sExpr (eMeth .list mReverse (eVar 4) aNil))
    (sRet (eVar 4)))))))))
/-- _law_take(draws, many); slots: draws, many -/
def m__law_take (F : FT) : List D → M → Option (D × M) := fnS 2 0 (
    (sSeq (sIf (nrm (eOp (oEq false) (ePrim pLen (aCons (eVar 0) aNil)) (eC (.int 0)))) (sRet (eC (.int 0))) sNil)
    (sRet (eOp oMod (ePrim pInt (aCons (eMeth .list mPop (eVar 0) aNil) aNil)) (eVar 1)))))
/-- _law_same(actual, due); slots: actual, due, k -/
def m__law_same (F : FT) : List D → M → Option (D × M) := fnS 2 1 (
    (sSeq (sIf (nrm (eUn (oIsi [.tuple, .list]) (eVar 1))) (sSeq (sIf (nrm (eOr (eOp (oEq true) (eUn (oIsi [.tuple]) (eVar 0)) (eUn (oIsi [.tuple]) (eVar 1))) (eOp (oEq true) (eUn (oIsi [.list]) (eVar 0)) (eUn (oIsi [.list]) (eVar 1))))) (sRet (eC (.bl false))) sNil)
    (sSeq (sIf (nrm (eOp (oEq true) (ePrim pLen (aCons (eVar 0) aNil)) (ePrim pLen (aCons (eVar 1) aNil)))) (sRet (eC (.bl false))) sNil)
    (sRet (eOp (oIn true) (eC (.bl false)) (eLc [2] (iRng1 (ePrim pLen (aCons (eVar 1) aNil))) (tName 2) (eC (.bl true)) (nrm (ePrim (F 16) (aCons (eOp oIx (eVar 0) (eVar 2)) (aCons (eOp oIx (eVar 1) (eVar 2)) aNil))))))))) sNil)
    (sSeq (sIf (nrm (eOr (eOp (oEq true) (eUn (oIsi [.bool]) (eVar 0)) (eUn (oIsi [.bool]) (eVar 1))) (eOp (oEq true) (eUn (oIsi [.int]) (eVar 0)) (eUn (oIsi [.int]) (eVar 1))))) (sRet (eC (.bl false))) sNil)
    (sSeq (sIf (nrm (eOr (eOp (oEq true) (eUn (oIsi [.str]) (eVar 0)) (eUn (oIsi [.str]) (eVar 1))) (eOp (oEq true) (eUn (oIsN false) (eVar 0)) (eUn (oIsN false) (eVar 1))))) (sRet (eC (.bl false))) sNil)
    (sRet (eOp (oEq false) (eVar 0) (eVar 1)))))))
/-- _law_value_key(value); slots: value -/
def m__law_value_key (F : FT) : List D → M → Option (D × M) := fnS 1 0 (
    (sSeq (sIf (nrm (eUn (oIsi [.str]) (eVar 0))) (sRet (eTup (aCons (eC (.int 1)) (aCons (eC (.int 0)) (aCons (eVar 0) aNil))))) sNil)
    (sRet (eTup (aCons (eC (.int 0)) (aCons (eVar 0) (aCons (eC (.str (Str.ofString ""))) aNil)))))))
/-- _law_row_key(row); slots: row, value -/
def m__law_row_key (F : FT) : List D → M → Option (D × M) := fnS 1 1 (
    (sRet (ePrim pTuple (aCons (eLc [1] (iSeq (eVar 0)) (tName 1) (eC (.bl true)) (nrm (ePrim (F 17) (aCons (eVar 1) aNil)))) aNil))))
/-- _law_mark_key(mark); slots: mark -/
def m__law_mark_key (F : FT) : List D → M → Option (D × M) := fnS 1 0 (
    (sRet (eTup (aCons (eOp oIx (eVar 0) (eC (.int 0))) (aCons (ePrim (F 18) (aCons (eOp oIx (eVar 0) (eC (.int 1))) aNil)) (aCons (eOp oIx (eVar 0) (eC (.int 2))) aNil))))))
/-- _law_is_part(small, large); slots: small, large, part -/
def m__law_is_part (F : FT) : List D → M → Option (D × M) := fnS 2 1 (
    (sRet (eOp (oIn true) (eC (.bl false)) (eLc [2] (iSeq (eVar 0)) (tName 2) (eC (.bl true)) (nrm (eOp (oIn false) (eVar 2) (eVar 1)))))))
/-- _law_pair_key(pair); slots: pair -/
def m__law_pair_key (F : FT) : List D → M → Option (D × M) := fnS 1 0 (
    (sRet (eTup (aCons (ePrim (F 19) (aCons (eOp oIx (eVar 0) (eC (.int 0))) aNil)) (aCons (ePrim (F 18) (aCons (eOp oIx (eVar 0) (eC (.int 1))) aNil)) aNil)))))
/-- _law_reason_key(reason); slots: reason, pair -/
def m__law_reason_key (F : FT) : List D → M → Option (D × M) := fnS 1 1 (
    (sRet (ePrim pTuple (aCons (eLc [1] (iSeq (eVar 0)) (tName 1) (eC (.bl true)) (nrm (ePrim (F 21) (aCons (eVar 1) aNil)))) aNil))))
/-- _law_member_key(member); slots: member -/
def m__law_member_key (F : FT) : List D → M → Option (D × M) := fnS 1 0 (
    (sSeq (sIf (nrm (eAnd (eOp (oCmp fun i j => decide (j < i)) (ePrim pLen (aCons (eVar 0) aNil)) (eC (.int 0))) (eUn (oIsi [.tuple]) (eOp oIx (eVar 0) (eC (.int 0)))))) (sRet (ePrim (F 22) (aCons (eVar 0) aNil))) sNil)
    (sRet (eVar 0))))
/-- _law_thin(members); slots: members, found, member, other -/
def m__law_thin (F : FT) : List D → M → Option (D × M) := fnS 1 3 (
    (sSeq (sAsg (tName 1) (nrm (eLst aNil)))
    (sSeq (sFor (iSeq (ePrim (pSortK fun d m => pLen [d] m) (aCons (eVar 0) aNil))) (tName 2) (sIf (nrm (eOp (oIn true) (eC (.bl true)) (eLc [3] (iSeq (eVar 1)) (tName 3) (eC (.bl true)) (nrm (ePrim (F 20) (aCons (eVar 3) (aCons (eVar 2) aNil))))))) (sExpr (eMeth .list mAppend (eVar 1) (aCons (eVar 2) aNil))) sNil))
    (sRet (ePrim pTuple (aCons (ePrim (pSortK fun d m => F 23 [d] m) (aCons (eVar 1) aNil)) aNil))))))
/-- _law_drawn_why(draws, numbers); slots: draws, numbers, kind, supports, k, number, support -/
def m__law_drawn_why (F : FT) : List D → M → Option (D × M) := fnS 2 5 (
    (sSeq (sAsg (tName 2) (nrm (ePrim (F 15) (aCons (eVar 0) (aCons (eC (.int 12)) aNil)))))
    (sSeq (sIf (nrm (eOp (oEq false) (eVar 2) (eC (.int 1)))) (sRet (eTup aNil)) sNil)
    (sSeq (sIf (nrm (eOp (oEq false) (eVar 2) (eC (.int 2)))) (sRet (eTup (aCons (eTup aNil) aNil))) sNil)
    (sSeq (sAsg (tName 3) (nrm (eLst aNil)))
    (sSeq (sFor (iRng1 (eOp oAdd (eC (.int 1)) (ePrim (F 15) (aCons (eVar 0) (aCons (eC (.int 10)) aNil))))) (tName 4) (sExpr (eMeth .list mAppend (eVar 3) (aCons (ePrim pTuple (aCons (eLc [5] (iSeq (eVar 1)) (tName 5) (nrm (eOp (oCmp fun i j => decide (i < j)) (ePrim (F 15) (aCons (eVar 0) (aCons (eC (.int 5)) aNil))) (eC (.int 2)))) (nrm (eVar 5))) aNil)) aNil))))
    (sRet (ePrim (F 24) (aCons (eLc [6] (iSeq (eVar 3)) (tName 6) (nrm (eOp (oCmp fun i j => decide (j < i)) (ePrim pLen (aCons (eVar 6) aNil)) (eC (.int 0)))) (nrm (eVar 6))) aNil)))))))))
/-- _law_some_numbers(draws); slots: draws, numbers, k -/
def m__law_some_numbers (F : FT) : List D → M → Option (D × M) := fnS 1 2 (
    (sSeq (sAsg (tName 1) (nrm (eLst (aCons (eOp oAdd (eC (.int 1)) (ePrim (F 15) (aCons (eVar 0) (aCons (eC (.int 3)) aNil)))) aNil))))
    (sSeq (sFor (iRng1 (eC (.int 6))) (tName 2) (sExpr (eMeth .list mAppend (eVar 1) (aCons (eOp oAdd (eOp oAdd (eOp oAdd (eOp oIx (eVar 1) (eUn oNeg (eC (.int 1)))) (eC (.int 1))) (ePrim (F 15) (aCons (eVar 0) (aCons (eC (.int 4)) aNil)))) (eOp oMul (ePrim pInt (aCons (eOp (oEq false) (ePrim (F 15) (aCons (eVar 0) (aCons (eC (.int 12)) aNil))) (eC (.int 1))) aNil)) (eOp oPow (eC (.int 10)) (eC (.int 19))))) aNil))))
    (sRet (eVar 1)))))
/-- _law_cuts(why, numbers); slots: why, numbers, masks, k, mine, found, j, other, support, number -/
def m__law_cuts (F : FT) : List D → M → Option (D × M) := fnS 2 8 (
    (sSeq (sAsg (tName 2) (nrm (eLst aNil)))
    (sSeq (sFor (iRng1 (eOp oShl (eC (.int 1)) (ePrim pLen (aCons (eVar 1) aNil)))) (tName 3) (sSeq (sAsg (tName 4) (nrm (eLc [6] (iRng1 (ePrim pLen (aCons (eVar 1) aNil))) (tName 6) (nrm (eOp (oEq false) (eOp (oBit iand) (eOp oShr (eVar 3) (eVar 6)) (eC (.int 1))) (eC (.int 1)))) (nrm (eOp oIx (eVar 1) (eVar 6))))))
    (sIf (nrm (eOp (oIn true) (eC (.bl true)) (eLc [7] (iSeq (eVar 2)) (tName 7) (eC (.bl true)) (nrm (eOp (oEq false) (eOp (oBit iand) (eVar 3) (eVar 7)) (eVar 7)))))) (sIf (nrm (eOp (oIn true) (eC (.bl false)) (eLc [8] (iSeq (eVar 0)) (tName 8) (eC (.bl true)) (nrm (eOp (oIn false) (eC (.bl true)) (eLc [9] (iSeq (eVar 4)) (tName 9) (eC (.bl true)) (nrm (eOp (oIn false) (eVar 9) (eVar 8))))))))) (sExpr (eMeth .list mAppend (eVar 2) (aCons (eVar 3) aNil))) sNil) sNil)))
    (sSeq (sAsg (tName 5) (nrm (eLst aNil)))
    (sSeq (sFor (iSeq (eVar 2)) (tName 3) (sExpr (eMeth .list mAppend (eVar 5) (aCons (ePrim pTuple (aCons (eLc [6] (iRng1 (ePrim pLen (aCons (eVar 1) aNil))) (tName 6) (nrm (eOp (oEq false) (eOp (oBit iand) (eOp oShr (eVar 3) (eVar 6)) (eC (.int 1))) (eC (.int 1)))) (nrm (eOp oIx (eVar 1) (eVar 6)))) aNil)) aNil))))
    (sRet (ePrim pTuple (aCons (ePrim pSortedA (aCons (eVar 5) aNil)) aNil))))))))
/-- _law_least(due); slots: due, least, cut -/
def m__law_least (F : FT) : List D → M → Option (D × M) := fnS 1 2 (
    (sSeq (sAsg (tName 1) (nrm (ePrim pMinD (aCons (eLc [2] (iSeq (eVar 0)) (tName 2) (eC (.bl true)) (nrm (ePrim pLen (aCons (eVar 2) aNil)))) (aCons (eC (.int 0)) aNil)))))
    (sSeq (sFor (iSeq (eVar 0)) (tName 2) (sIf (nrm (eOp (oEq false) (ePrim pLen (aCons (eVar 2) aNil)) (eVar 1))) (sRet (eVar 2)) sNil))
    (sRet (eC .non)))))
/-- _law_pairs(draws); slots: draws, left, pairs, found, k, pair, grown, cut, number -/
def m__law_pairs (F : FT) : List D → M → Option (D × M) := fnS 1 8 (
    (sSeq (sAsg (tName 1) (nrm (eLc [4] (iRng1 (eC (.int 16))) (tName 4) (eC (.bl true)) (nrm (eOp oAdd (eVar 4) (eC (.int 1)))))))
    (sSeq (sAsg (tName 2) (nrm (eLst aNil)))
    (sSeq (sAsg (tName 3) (nrm (eLst (aCons (eTup aNil) aNil))))
    (sSeq (sFor (iRng1 (eOp oAdd (eC (.int 2)) (ePrim (F 15) (aCons (eVar 0) (aCons (eC (.int 7)) aNil))))) (tName 4) (sSeq (sAsg (tName 5) (nrm (ePrim pSortedA (aCons (eLst (aCons (eMeth .list mPop (eVar 1) (aCons (ePrim (F 15) (aCons (eVar 0) (aCons (ePrim pLen (aCons (eVar 1) aNil)) aNil))) aNil)) (aCons (eMeth .list mPop (eVar 1) (aCons (ePrim (F 15) (aCons (eVar 0) (aCons (ePrim pLen (aCons (eVar 1) aNil)) aNil))) aNil)) aNil))) aNil))))
    (sSeq (sExpr (eMeth .list mAppend (eVar 2) (aCons (ePrim pTuple (aCons (eVar 5) aNil)) aNil)))
    (sSeq (sAsg (tName 6) (nrm (eLst aNil)))
    (sSeq (sFor (iSeq (eVar 3)) (tName 7) (sAsg (tName 6) (nrm (eOp oAdd (eVar 6) (eLc [8] (iSeq (eVar 5)) (tName 8) (eC (.bl true)) (nrm (ePrim pTuple (aCons (ePrim pSortedA (aCons (eOp oAdd (eVar 7) (eTup (aCons (eVar 8) aNil))) aNil)) aNil))))))))
    (sAsg (tName 3) (nrm (eVar 6))))))))
    (sRet (eLst (aCons (ePrim pTuple (aCons (ePrim pSortedA (aCons (eVar 2) aNil)) aNil)) (aCons (ePrim pTuple (aCons (ePrim pSortedA (aCons (eVar 3) aNil)) aNil)) aNil)))))))))
def mb_law (F : FT) : SS := (
    (sSeq (sAsg (tName 1) (nrm (ePrim (F 14) (aCons (eVar 0) (aCons (eC (.int 320)) aNil)))))
    (sSeq (sAsg (tName 2) (nrm (eLst aNil)))
    (sSeq (sFor (iRng1 (eC (.int 2))) (tName 3) (sSeq (sAsg (tName 4) (nrm (ePrim (F 26) (aCons (eVar 1) aNil))))
    (sSeq (sAsg (tName 5) (nrm (ePrim (F 25) (aCons (eVar 1) (aCons (eVar 4) aNil)))))
    (sExpr (eMeth .list mAppend (eVar 2) (aCons (eLst (aCons (eVar 5) (aCons (ePrim (F 27) (aCons (eVar 5) (aCons (eVar 4) aNil))) aNil))) aNil))))))
    (sSeq (sAsg (tName 6) (nrm (ePrim (F 29) (aCons (eVar 1) aNil))))
    (sSeq (sFor (iSeq (eLst (aCons (eOp oIx (eVar 2) (eC (.int 0))) (aCons (eOp oIx (eVar 2) (eC (.int 1))) (aCons (eVar 6) (aCons (eOp oIx (eVar 2) (eC (.int 0))) aNil)))))) (tName 7) (sIf (nrm (eOr (eNot (ePrim (F 16) (aCons (ePrim (F 12) (aCons (eOp oIx (eVar 7) (eC (.int 0))) aNil)) (aCons (eOp oIx (eVar 7) (eC (.int 1))) aNil)))) (eNot (ePrim (F 16) (aCons (ePrim (F 13) (aCons (eOp oIx (eVar 7) (eC (.int 0))) aNil)) (aCons (ePrim (F 28) (aCons (eOp oIx (eVar 7) (eC (.int 1))) aNil)) aNil)))))) (sRet (eC (.bl false))) sNil))
    (sSeq (sFor (iSeq (eVar 2)) (tName 7) (sIf (nrm (eNot (ePrim (F 16) (aCons (ePrim (F 12) (aCons (eOp oIx (eVar 7) (eC (.int 1))) aNil)) (aCons (eOp oIx (eVar 7) (eC (.int 0))) aNil))))) (sRet (eC (.bl false))) sNil))
    (sRet (eC (.bl true))))))))))
/-- law(script); slots: script, draws, scenes, k, numbers, why, pairs, scene -/
def m_law (F : FT) : List D → M → Option (D × M) := fnS 1 7 (
    mb_law F)
def tab (F : FT) : FT := fun j => match j with
  | 0 => m_value_key F
  | 1 => m_row_key F
  | 2 => m_mark_key F
  | 3 => m_pair_key F
  | 4 => m_mask_size F
  | 5 => m_places_of F
  | 6 => m_ordered_parts F
  | 7 => m_masks_of F
  | 8 => m_members_of F
  | 9 => m_missed F
  | 10 => m_has_idle F
  | 11 => m_cut_masks F
  | 12 => m_cuts F
  | 13 => m_least_cut F
  | 14 => m__law_draws F
  | 15 => m__law_take F
  | 16 => m__law_same F
  | 17 => m__law_value_key F
  | 18 => m__law_row_key F
  | 19 => m__law_mark_key F
  | 20 => m__law_is_part F
  | 21 => m__law_pair_key F
  | 22 => m__law_reason_key F
  | 23 => m__law_member_key F
  | 24 => m__law_thin F
  | 25 => m__law_drawn_why F
  | 26 => m__law_some_numbers F
  | 27 => m__law_cuts F
  | 28 => m__law_least F
  | 29 => m__law_pairs F
  | 30 => m_law F
  | _ => fun _ _ => none
def sig : List (Str × Nat) := [((Str.ofString "value_key"), 1), ((Str.ofString "row_key"), 1), ((Str.ofString "mark_key"), 1), ((Str.ofString "pair_key"), 1), ((Str.ofString "mask_size"), 1), ((Str.ofString "places_of"), 1), ((Str.ofString "ordered_parts"), 2), ((Str.ofString "masks_of"), 2), ((Str.ofString "members_of"), 2), ((Str.ofString "missed"), 3), ((Str.ofString "has_idle"), 2), ((Str.ofString "cut_masks"), 1), ((Str.ofString "cuts"), 1), ((Str.ofString "least_cut"), 1), ((Str.ofString "_law_draws"), 2), ((Str.ofString "_law_take"), 2), ((Str.ofString "_law_same"), 2), ((Str.ofString "_law_value_key"), 1), ((Str.ofString "_law_row_key"), 1), ((Str.ofString "_law_mark_key"), 1), ((Str.ofString "_law_is_part"), 2), ((Str.ofString "_law_pair_key"), 1), ((Str.ofString "_law_reason_key"), 1), ((Str.ofString "_law_member_key"), 1), ((Str.ofString "_law_thin"), 1), ((Str.ofString "_law_drawn_why"), 2), ((Str.ofString "_law_some_numbers"), 1), ((Str.ofString "_law_cuts"), 2), ((Str.ofString "_law_least"), 1), ((Str.ofString "_law_pairs"), 1), ((Str.ofString "law"), 1)]
end K47
end

section
set_option Elab.async false
set_option linter.all false
set_option maxRecDepth 100000
namespace K47
open PySem PySem.Spec PyProof.Rows L2 Dm
/-! ## the text -/
def topS (i : Nat) : Stmt := PySem.Challenge.pw_doubtbook_k47_cuts.main.body.getD i (.Pass ⟨0, 0, 0, 0⟩)
section
variable {w : World} {P : Program} {K : PySem.W.Frag} {mg : Str → Option Value} {base : Heap}
/-- the built-ins aren't shadowed; the constants -/
structure Bi (K : PySem.W.Frag) (mg : Str → Option Value) : Prop where
  b_bool : mg (Str.ofString "bool") = none
  b_enumerate : mg (Str.ofString "enumerate") = none
  b_int : mg (Str.ofString "int") = none
  b_isinstance : mg (Str.ofString "isinstance") = none
  b_len : mg (Str.ofString "len") = none
  b_list : mg (Str.ofString "list") = none
  b_min : mg (Str.ofString "min") = none
  b_range : mg (Str.ofString "range") = none
  b_sorted : mg (Str.ofString "sorted") = none
  b_str : mg (Str.ofString "str") = none
  b_sum : mg (Str.ofString "sum") = none
  b_tuple : mg (Str.ofString "tuple") = none
  c_WHYS : ∃ a : Addr, mg (Str.ofString "WHYS") = some (.ref a) ∧ ∀ mu H, Rep K mu H (.ref a) c_WHYS
abbrev t_value_key : Stmt := topS 1
theorem sc_value_key : FnScope [(Str.ofString "value")] [(Str.ofString "value")] (defScope t_value_key) := ⟨rfl, rfl, rfl, by decide +kernel, rfl, by decide +kernel, by decide +kernel⟩
set_option maxHeartbeats 3900000 in
theorem g_value_key {k : Nat} {F : FT} (B : Bi K mg) (G : Good P w K mg base sig k F) (h : Dn K mg t_value_key (Str.ofString "value_key") [(Str.ofString "value")]) : Fx P w K mg base (3 * (k + 1)) 1 (m_value_key F) (Str.ofString "value_key") := by
  have S := sc_value_key
  refine fx_ok h S rfl rfl fun fa cdv A outer s H E hr => ?_
  exact (b_cons (s_ifS (t_nrm (t_val (s_isi1 rfl B.b_isinstance (by decide +kernel) (tn (t := .str) B.b_str) (sv 0)))) (b_one (s_ret (s_tup (sa_cons s_int (sa_cons s_int (sa_cons (sv 0) sa_nil)))))) b_nil)
      (b_one (s_ret (s_tup (sa_cons s_int (sa_cons (sv 0) (sa_cons s_str sa_nil)))))))
abbrev t_row_key : Stmt := topS 2
theorem sc_row_key : FnScope [(Str.ofString "row"), (Str.ofString "value")] [(Str.ofString "row")] (defScope t_row_key) := ⟨rfl, rfl, rfl, by decide +kernel, rfl, by decide +kernel, by decide +kernel⟩
set_option maxHeartbeats 3900000 in
theorem g_row_key {k : Nat} {F : FT} (B : Bi K mg) (G : Good P w K mg base sig k F) (h : Dn K mg t_row_key (Str.ofString "row_key") [(Str.ofString "row")]) : Fx P w K mg base (3 * (k + 1)) 1 (m_row_key F) (Str.ofString "row_key") := by
  have S := sc_row_key
  refine fx_ok h S rfl rfl fun fa cdv A outer s H E hr => ?_
  exact (b_one (s_ret (s_callT call_tuple_of k_tuple rfl B.b_tuple (by decide +kernel) (sa_cons (s_lc rfl S.nd (i_seq (sv 0)) (own := [((Str.ofString "value"), 1)]) (blkOk_by (by kernel_rfl)) k_name (by decide) (fun s H C cl fp => (pg_name (i := 1) S.nd rfl (by first | exact .inl rfl | exact .inr rfl))) (fun s H C cl fp => ts_nil) (fun s H C cl fp => s_nrm (s_call (G 0 _ _ rfl) (Room.low hr) rfl rfl (sa_cons (sv 1) sa_nil) (hgl := (al_cons al_nil))))) sa_nil))))
abbrev t_mark_key : Stmt := topS 4
theorem sc_mark_key : FnScope [(Str.ofString "mark")] [(Str.ofString "mark")] (defScope t_mark_key) := ⟨rfl, rfl, rfl, by decide +kernel, rfl, by decide +kernel, by decide +kernel⟩
set_option maxHeartbeats 3900000 in
theorem g_mark_key {k : Nat} {F : FT} (B : Bi K mg) (G : Good P w K mg base sig k F) (h : Dn K mg t_mark_key (Str.ofString "mark_key") [(Str.ofString "mark")]) : Fx P w K mg base (3 * (k + 1)) 1 (m_mark_key F) (Str.ofString "mark_key") := by
  have S := sc_mark_key
  refine fx_ok h S rfl rfl fun fa cdv A outer s H E hr => ?_
  exact (b_cons (s_ifS (t_nrm (t_cmp (op_eqD hr.u64) k_eq (sv 0) (s_tup sa_nil))) (b_one (s_ret (s_tup sa_nil))) b_nil)
      (b_one (s_ret (s_tup (sa_cons (s_ix (o_ix hr.u1) k_ix (sv 0) s_int) (sa_cons (s_call (G 1 _ _ rfl) (Room.low hr) rfl rfl (sa_cons (s_ix (o_ix hr.u1) k_ix (sv 0) s_int) sa_nil) (hgl := (al_cons al_nil))) (sa_cons (s_ix (o_ix hr.u1) k_ix (sv 0) s_int) sa_nil)))))))
abbrev t_pair_key : Stmt := topS 5
theorem sc_pair_key : FnScope [(Str.ofString "pair")] [(Str.ofString "pair")] (defScope t_pair_key) := ⟨rfl, rfl, rfl, by decide +kernel, rfl, by decide +kernel, by decide +kernel⟩
set_option maxHeartbeats 3900000 in
theorem g_pair_key {k : Nat} {F : FT} (B : Bi K mg) (G : Good P w K mg base sig k F) (h : Dn K mg t_pair_key (Str.ofString "pair_key") [(Str.ofString "pair")]) : Fx P w K mg base (3 * (k + 1)) 1 (m_pair_key F) (Str.ofString "pair_key") := by
  have S := sc_pair_key
  refine fx_ok h S rfl rfl fun fa cdv A outer s H E hr => ?_
  exact (b_one (s_ret (s_tup (sa_cons (s_call (G 2 _ _ rfl) (Room.low hr) rfl rfl (sa_cons (s_ix (o_ix hr.u1) k_ix (sv 0) s_int) sa_nil) (hgl := (al_cons al_nil))) (sa_cons (s_call (G 1 _ _ rfl) (Room.low hr) rfl rfl (sa_cons (s_ix (o_ix hr.u1) k_ix (sv 0) s_int) sa_nil) (hgl := (al_cons al_nil))) sa_nil)))))
abbrev t_mask_size : Stmt := topS 7
theorem sc_mask_size : FnScope [(Str.ofString "mask"), (Str.ofString "text")] [(Str.ofString "mask")] (defScope t_mask_size) := ⟨rfl, rfl, rfl, by decide +kernel, rfl, by decide +kernel, by decide +kernel⟩
set_option maxHeartbeats 3900000 in
theorem g_mask_size {k : Nat} {F : FT} (B : Bi K mg) (G : Good P w K mg base sig k F) (h : Dn K mg t_mask_size (Str.ofString "mask_size") [(Str.ofString "mask")]) : Fx P w K mg base (3 * (k + 1)) 1 (m_mask_size F) (Str.ofString "mask_size") := by
  have S := sc_mask_size
  refine fx_ok h S rfl rfl fun fa cdv A outer s H E hr => ?_
  exact (b_cons (s_asg (s_nrm (s_fmtB (sv 0))) k_name (pg_name (i := 1) S.nd rfl (by first | exact .inl rfl | exact .inr rfl)))
      (b_one (s_ret (s_m .str PySem.F.plainAttrs_str PySem.F.slot_str_count PySem.F.type_str_count mt_count (sv 1) (sa_cons s_str sa_nil) k_count))))
abbrev t_places_of : Stmt := topS 8
theorem sc_places_of : FnScope [(Str.ofString "mask"), (Str.ofString "places"), (Str.ofString "lowest")] [(Str.ofString "mask")] (defScope t_places_of) := ⟨rfl, rfl, rfl, by decide +kernel, rfl, by decide +kernel, by decide +kernel⟩
set_option maxHeartbeats 3900000 in
theorem g_places_of {k : Nat} {F : FT} (B : Bi K mg) (G : Good P w K mg base sig k F) (h : Dn K mg t_places_of (Str.ofString "places_of") [(Str.ofString "mask")]) : Fx P w K mg base (3 * (k + 1)) 1 (m_places_of F) (Str.ofString "places_of") := by
  have S := sc_places_of
  refine fx_ok h S rfl rfl fun fa cdv A outer s H E hr => ?_
  exact (b_cons (s_asg (s_nrm (s_lst sa_nil)) k_name (pg_name (i := 1) S.nd rfl (by first | exact .inl rfl | exact .inr rfl)))
      (b_cons (s_while PassesOwn.never (t_nrm (t_cmp op_gt k_cmp (sv 0) s_int)) (b_cons (s_asg (s_nrm (s_op op_and k_and (sv 0) (s_un un_neg k_neg (sv 0)))) k_name (pg_name (i := 2) S.nd rfl (by first | exact .inl rfl | exact .inr rfl)))
      (b_cons (s_expr (s_m .list PySem.F.plainAttrs_list PySem.F.slot_list_append PySem.F.type_list_append mt_append (sv 1) (sa_cons (s_op op_sub k_sub (s_bits (sv 2)) s_int) sa_nil) k_append))
      (b_one (s_asg (s_nrm (s_op op_xor k_xor (sv 0) (sv 2))) k_name (pg_name (i := 0) S.nd rfl (by first | exact .inl rfl | exact .inr rfl)))))))
      (b_one (s_ret (sv 1)))))
abbrev t_ordered_parts : Stmt := topS 10
theorem sc_ordered_parts : FnScope [(Str.ofString "house"), (Str.ofString "members"), (Str.ofString "found"), (Str.ofString "member"), (Str.ofString "part")] [(Str.ofString "house"), (Str.ofString "members")] (defScope t_ordered_parts) := ⟨rfl, rfl, rfl, by decide +kernel, rfl, by decide +kernel, by decide +kernel⟩
set_option maxHeartbeats 3900000 in
theorem g_ordered_parts {k : Nat} {F : FT} (B : Bi K mg) (G : Good P w K mg base sig k F) (h : Dn K mg t_ordered_parts (Str.ofString "ordered_parts") [(Str.ofString "house"), (Str.ofString "members")]) : Fx P w K mg base (3 * (k + 1)) 2 (m_ordered_parts F) (Str.ofString "ordered_parts") := by
  have S := sc_ordered_parts
  refine fx_ok h S rfl rfl fun fa cdv A outer s H E hr => ?_
  exact (b_cons (s_asgDc2 (i := 2) (own1 := [4]) rfl S.nd rfl rfl (Dx.swd_true rfl rfl rfl rfl) (i_seq (sv 1)) (own := [((Str.ofString "member"), 3), ((Str.ofString "part"), 4)]) (blkOk_by (by kernel_rfl)) (by decide) k_name (by decide) k_name (by decide) (fun s H C cl fp => (pg_name (i := 3) S.nd rfl (by first | exact .inl rfl | exact .inr rfl))) (fun s H C cl fp => ts_nil) (fun s H C cl fp => (i_seq (sv 3))) (fun s H C cl fp => (pg_name (i := 4) S.nd rfl (by first | exact .inl rfl | exact .inr rfl))) (fun s H C cl fp => ts_nil) (fun s H C cl fp => s_nrm (sv 4)) (fun s H C cl fp => s_nrm s_bl))
      (b_cons (s_ifS (t_nrm (t_cmp (op_eqD hr.u64) k_eq (s_ix (o_ix hr.u1) k_ix (sv 0) s_int) s_str)) (b_one (s_ret (s_sortKd rfl (G 3 _ _ rfl) hr rfl B.b_sorted rfl (s_callT (c_list rfl) k_list rfl B.b_list (by decide +kernel) (sa_cons (sv 2) sa_nil))))) b_nil)
      (b_one (s_ret (s_callB (c_sortedA hr.u64) k_sortedA rfl B.b_sorted (by decide +kernel) (sa_cons (s_callT (c_list rfl) k_list rfl B.b_list (by decide +kernel) (sa_cons (sv 2) sa_nil)) sa_nil))))))
abbrev t_masks_of : Stmt := topS 11
theorem sc_masks_of : FnScope [(Str.ofString "members"), (Str.ofString "parts"), (Str.ofString "bits"), (Str.ofString "place"), (Str.ofString "part"), (Str.ofString "member")] [(Str.ofString "members"), (Str.ofString "parts")] (defScope t_masks_of) := ⟨rfl, rfl, rfl, by decide +kernel, rfl, by decide +kernel, by decide +kernel⟩
set_option maxHeartbeats 3900000 in
theorem g_masks_of {k : Nat} {F : FT} (B : Bi K mg) (G : Good P w K mg base sig k F) (h : Dn K mg t_masks_of (Str.ofString "masks_of") [(Str.ofString "members"), (Str.ofString "parts")]) : Fx P w K mg base (3 * (k + 1)) 2 (m_masks_of F) (Str.ofString "masks_of") := by
  have S := sc_masks_of
  refine fx_ok h S rfl rfl fun fa cdv A outer s H E hr => ?_
  exact (b_cons (s_asg (s_nrm (s_dc rfl S.nd (i_enum rfl B.b_enumerate (sv 1)) (own := [((Str.ofString "place"), 3), ((Str.ofString "part"), 4)]) (blkOk_by (by kernel_rfl)) (k_tup (ks_cons k_name (ks_cons k_name ks_nil)) rfl) (by decide) (fun s H C cl fp => (pg_tup rfl (pgs_cons (pg_name (i := 3) S.nd rfl (by first | exact .inl rfl | exact .inr rfl)) (pgs_cons (pg_name (i := 4) S.nd rfl (by first | exact .inl rfl | exact .inr rfl)) pgs_nil)))) (fun s H C cl fp => ts_nil) (fun s H C cl fp => s_nrm (sv 4)) (fun s H C cl fp => s_nrm (s_op op_shl k_shl s_int (sv 3))))) k_name (pg_name (i := 2) S.nd rfl (by first | exact .inl rfl | exact .inr rfl)))
      (b_one (s_ret (s_lc rfl S.nd (i_seq (sv 0)) (own := [((Str.ofString "member"), 5)]) (blkOk_by (by kernel_rfl)) k_name (by decide) (fun s H C cl fp => (pg_name (i := 5) S.nd rfl (by first | exact .inl rfl | exact .inr rfl))) (fun s H C cl fp => ts_nil) (fun s H C cl fp => s_nrm (s_callB (cr_sum rfl) k_sum rfl B.b_sum (by decide +kernel) (sa_cons (s_lc rfl S.nd (i_seq (sv 5)) (own := [((Str.ofString "part"), 4)]) (blkOk_by (by kernel_rfl)) k_name (by decide) (fun s H C cl fp => (pg_name (i := 4) S.nd rfl (by first | exact .inl rfl | exact .inr rfl))) (fun s H C cl fp => ts_nil) (fun s H C cl fp => s_nrm (s_ix (o_ix hr.u1) k_ix (sv 2) (sv 4)))) sa_nil)))))))
abbrev t_members_of : Stmt := topS 12
theorem sc_members_of : FnScope [(Str.ofString "masks"), (Str.ofString "parts"), (Str.ofString "found"), (Str.ofString "mask"), (Str.ofString "places"), (Str.ofString "place")] [(Str.ofString "masks"), (Str.ofString "parts")] (defScope t_members_of) := ⟨rfl, rfl, rfl, by decide +kernel, rfl, by decide +kernel, by decide +kernel⟩
set_option maxHeartbeats 3900000 in
theorem g_members_of {k : Nat} {F : FT} (B : Bi K mg) (G : Good P w K mg base sig k F) (h : Dn K mg t_members_of (Str.ofString "members_of") [(Str.ofString "masks"), (Str.ofString "parts")]) : Fx P w K mg base (3 * (k + 1)) 2 (m_members_of F) (Str.ofString "members_of") := by
  have S := sc_members_of
  refine fx_ok h S rfl rfl fun fa cdv A outer s H E hr => ?_
  exact (b_cons (s_asg (s_nrm (s_callB (c_sortedA hr.u64) k_sortedA rfl B.b_sorted (by decide +kernel) (sa_cons (s_lc rfl S.nd (i_seq (sv 0)) (own := [((Str.ofString "mask"), 3)]) (blkOk_by (by kernel_rfl)) k_name (by decide) (fun s H C cl fp => (pg_name (i := 3) S.nd rfl (by first | exact .inl rfl | exact .inr rfl))) (fun s H C cl fp => ts_nil) (fun s H C cl fp => s_nrm (s_call (G 5 _ _ rfl) (Room.low hr) rfl rfl (sa_cons (sv 3) sa_nil) (hgl := (al_cons al_nil))))) sa_nil))) k_name (pg_name (i := 2) S.nd rfl (by first | exact .inl rfl | exact .inr rfl)))
      (b_one (s_ret (s_callT call_tuple_of k_tuple rfl B.b_tuple (by decide +kernel) (sa_cons (s_lc rfl S.nd (i_seq (sv 2)) (own := [((Str.ofString "places"), 4)]) (blkOk_by (by kernel_rfl)) k_name (by decide) (fun s H C cl fp => (pg_name (i := 4) S.nd rfl (by first | exact .inl rfl | exact .inr rfl))) (fun s H C cl fp => ts_nil) (fun s H C cl fp => s_nrm (s_callT call_tuple_of k_tuple rfl B.b_tuple (by decide +kernel) (sa_cons (s_lc rfl S.nd (i_seq (sv 4)) (own := [((Str.ofString "place"), 5)]) (blkOk_by (by kernel_rfl)) k_name (by decide) (fun s H C cl fp => (pg_name (i := 5) S.nd rfl (by first | exact .inl rfl | exact .inr rfl))) (fun s H C cl fp => ts_nil) (fun s H C cl fp => s_nrm (s_ix (o_ix hr.u1) k_ix (sv 1) (sv 5)))) sa_nil)))) sa_nil)))))
abbrev t_missed : Stmt := topS 15
theorem sc_missed : FnScope [(Str.ofString "supports"), (Str.ofString "chosen"), (Str.ofString "allowed"), (Str.ofString "best"), (Str.ofString "fewest"), (Str.ofString "support"), (Str.ofString "many")] [(Str.ofString "supports"), (Str.ofString "chosen"), (Str.ofString "allowed")] (defScope t_missed) := ⟨rfl, rfl, rfl, by decide +kernel, rfl, by decide +kernel, by decide +kernel⟩
set_option maxHeartbeats 3900000 in
theorem g_missed {k : Nat} {F : FT} (B : Bi K mg) (G : Good P w K mg base sig k F) (h : Dn K mg t_missed (Str.ofString "missed") [(Str.ofString "supports"), (Str.ofString "chosen"), (Str.ofString "allowed")]) : Fx P w K mg base (3 * (k + 1)) 3 (m_missed F) (Str.ofString "missed") := by
  have S := sc_missed
  refine fx_ok h S rfl rfl fun fa cdv A outer s H E hr => ?_
  exact (b_cons (s_asg (s_nrm s_non) k_name (pg_name (i := 3) S.nd rfl (by first | exact .inl rfl | exact .inr rfl)))
      (b_cons (s_asg (s_nrm s_int) k_name (pg_name (i := 4) S.nd rfl (by first | exact .inl rfl | exact .inr rfl)))
      (b_cons (s_for PassesOwn.never rfl (i_seq (sv 0)) k_name (pg_name (i := 5) S.nd rfl (by first | exact .inl rfl | exact .inr rfl)) (b_one (s_ifS (t_nrm (t_cmp (op_eqD hr.u64) k_eq (s_op op_and k_and (sv 5) (sv 1)) s_int)) (b_cons (s_asg (s_nrm (s_call (G 4 _ _ rfl) (Room.low hr) rfl rfl (sa_cons (s_op op_and k_and (sv 5) (sv 2)) sa_nil) (hgl := (al_cons al_nil)))) k_name (pg_name (i := 6) S.nd rfl (by first | exact .inl rfl | exact .inr rfl)))
      (b_one (s_ifS (t_nrm (t_w (w_or (t_isN (sv 3)) (w_or1 (t_cmp op_lt k_cmp (sv 6) (sv 4)))))) (b_cons (s_asg (s_nrm (s_op op_and k_and (sv 5) (sv 2))) k_name (pg_name (i := 3) S.nd rfl (by first | exact .inl rfl | exact .inr rfl)))
      (b_one (s_asg (s_nrm (sv 6)) k_name (pg_name (i := 4) S.nd rfl (by first | exact .inl rfl | exact .inr rfl))))) b_nil))) b_nil)))
      (b_one (s_ret (sv 3))))))
abbrev t_has_idle : Stmt := topS 16
theorem sc_has_idle : FnScope [(Str.ofString "supports"), (Str.ofString "chosen"), (Str.ofString "alone"), (Str.ofString "support"), (Str.ofString "hit")] [(Str.ofString "supports"), (Str.ofString "chosen")] (defScope t_has_idle) := ⟨rfl, rfl, rfl, by decide +kernel, rfl, by decide +kernel, by decide +kernel⟩
set_option maxHeartbeats 3900000 in
theorem g_has_idle {k : Nat} {F : FT} (B : Bi K mg) (G : Good P w K mg base sig k F) (h : Dn K mg t_has_idle (Str.ofString "has_idle") [(Str.ofString "supports"), (Str.ofString "chosen")]) : Fx P w K mg base (3 * (k + 1)) 2 (m_has_idle F) (Str.ofString "has_idle") := by
  have S := sc_has_idle
  refine fx_ok h S rfl rfl fun fa cdv A outer s H E hr => ?_
  exact (b_cons (s_asg (s_nrm s_int) k_name (pg_name (i := 2) S.nd rfl (by first | exact .inl rfl | exact .inr rfl)))
      (b_cons (s_for PassesOwn.never rfl (i_seq (sv 0)) k_name (pg_name (i := 3) S.nd rfl (by first | exact .inl rfl | exact .inr rfl)) (b_cons (s_asg (s_nrm (s_op op_and k_and (sv 3) (sv 1))) k_name (pg_name (i := 4) S.nd rfl (by first | exact .inl rfl | exact .inr rfl)))
      (b_one (s_ifS (t_nrm (t_cmp (op_eqD hr.u64) k_eq (s_op op_and k_and (sv 4) (s_op op_sub k_sub (sv 4) s_int)) s_int)) (b_one (s_asg (s_nrm (s_op op_or k_or (sv 2) (sv 4))) k_name (pg_name (i := 2) S.nd rfl (by first | exact .inl rfl | exact .inr rfl)))) b_nil))))
      (b_one (s_ret (s_cmp (op_neD hr.u64) k_ne (sv 2) (sv 1))))))
abbrev t_cut_masks : Stmt := topS 17
theorem sc_cut_masks : FnScope [(Str.ofString "supports"), (Str.ofString "every"), (Str.ofString "support"), (Str.ofString "choices"), (Str.ofString "found"), (Str.ofString "chosen"), (Str.ofString "allowed"), (Str.ofString "place")] [(Str.ofString "supports")] (defScope t_cut_masks) := ⟨rfl, rfl, rfl, by decide +kernel, rfl, by decide +kernel, by decide +kernel⟩
set_option maxHeartbeats 3900000 in
theorem g_cut_masks {k : Nat} {F : FT} (B : Bi K mg) (G : Good P w K mg base sig k F) (h : Dn K mg t_cut_masks (Str.ofString "cut_masks") [(Str.ofString "supports")]) : Fx P w K mg base (3 * (k + 1)) 1 (m_cut_masks F) (Str.ofString "cut_masks") := by
  have S := sc_cut_masks
  refine fx_ok h S rfl rfl fun fa cdv A outer s H E hr => ?_
  exact (b_cons (s_asg (s_nrm s_int) k_name (pg_name (i := 1) S.nd rfl (by first | exact .inl rfl | exact .inr rfl)))
      (b_cons (s_for PassesOwn.never rfl (i_seq (sv 0)) k_name (pg_name (i := 2) S.nd rfl (by first | exact .inl rfl | exact .inr rfl)) (b_one (s_asg (s_nrm (s_op op_or k_or (sv 1) (sv 2))) k_name (pg_name (i := 1) S.nd rfl (by first | exact .inl rfl | exact .inr rfl)))))
      (b_cons (s_asg (s_nrm (s_lst (sa_cons (s_tup (sa_cons s_int (sa_cons (sv 1) sa_nil))) sa_nil))) k_name (pg_name (i := 3) S.nd rfl (by first | exact .inl rfl | exact .inr rfl)))
      (b_cons (s_asg (s_nrm (s_lst sa_nil)) k_name (pg_name (i := 4) S.nd rfl (by first | exact .inl rfl | exact .inr rfl)))
      (b_cons (s_while PassesOwn.never (t_nrm (t_cmp op_gt k_cmp (s_callB c_len k_len rfl B.b_len (by decide +kernel) (sa_cons (sv 3) sa_nil)) s_int)) (b_cons (s_asg (s_nrm (s_m0 .list PySem.F.plainAttrs_list PySem.F.slot_list_pop PySem.F.type_list_pop m_pop (sv 3) k_pop)) (k_tup (ks_cons k_name (ks_cons k_name ks_nil)) rfl) (pg_tup rfl (pgs_cons (pg_name (i := 5) S.nd rfl (by first | exact .inl rfl | exact .inr rfl)) (pgs_cons (pg_name (i := 6) S.nd rfl (by first | exact .inl rfl | exact .inr rfl)) pgs_nil))))
      (b_cons (s_ifS (t_nrm (t_val (s_call (G 10 _ _ rfl) (Room.low hr) rfl rfl (sa_cons (sv 0) (sa_cons (sv 5) sa_nil)) (hgl := (al_cons (al_cons al_nil)))))) (b_one s_cnt) b_nil)
      (b_cons (s_asg (s_nrm (s_call (G 9 _ _ rfl) (Room.low hr) rfl rfl (sa_cons (sv 0) (sa_cons (sv 5) (sa_cons (sv 6) sa_nil))) (hgl := (al_cons (al_cons (al_cons al_nil)))))) k_name (pg_name (i := 2) S.nd rfl (by first | exact .inl rfl | exact .inr rfl)))
      (b_one (s_ifS (t_nrm (t_isN (sv 2))) (b_one (s_expr (s_m .list PySem.F.plainAttrs_list PySem.F.slot_list_append PySem.F.type_list_append mt_append (sv 4) (sa_cons (sv 5) sa_nil) k_append))) (b_one (s_for PassesOwn.never rfl (i_seq (s_call (G 5 _ _ rfl) (Room.low hr) rfl rfl (sa_cons (sv 2) sa_nil) (hgl := (al_cons al_nil)))) k_name (pg_name (i := 7) S.nd rfl (by first | exact .inl rfl | exact .inr rfl)) (b_cons (s_asg (s_nrm (s_op op_xor k_xor (sv 6) (s_op op_shl k_shl s_int (sv 7)))) k_name (pg_name (i := 6) S.nd rfl (by first | exact .inl rfl | exact .inr rfl)))
      (b_one (s_expr (s_m .list PySem.F.plainAttrs_list PySem.F.slot_list_append PySem.F.type_list_append mt_append (sv 3) (sa_cons (s_tup (sa_cons (s_op op_or k_or (sv 5) (s_op op_shl k_shl s_int (sv 7))) (sa_cons (sv 6) sa_nil))) sa_nil) k_append))))))))))))
      (b_one (s_ret (sv 4))))))))
abbrev t_cuts : Stmt := topS 18
theorem sc_cuts : FnScope [(Str.ofString "why"), (Str.ofString "parts")] [(Str.ofString "why")] (defScope t_cuts) := ⟨rfl, rfl, rfl, by decide +kernel, rfl, by decide +kernel, by decide +kernel⟩
set_option maxHeartbeats 3900000 in
theorem g_cuts {k : Nat} {F : FT} (B : Bi K mg) (G : Good P w K mg base sig k F) (h : Dn K mg t_cuts (Str.ofString "cuts") [(Str.ofString "why")]) : Fx P w K mg base (3 * (k + 1)) 1 (m_cuts F) (Str.ofString "cuts") := by
  have S := sc_cuts
  refine fx_ok h S rfl rfl fun fa cdv A outer s H E hr => ?_
  exact (b_cons (s_asg (s_nrm (s_call (G 6 _ _ rfl) (Room.low hr) rfl rfl (sa_cons (s_glob B.c_WHYS) (sa_cons (sv 0) sa_nil)) (hgl := (al_cons (al_cons al_nil))))) k_name (pg_name (i := 1) S.nd rfl (by first | exact .inl rfl | exact .inr rfl)))
      (b_one (s_ret (s_call (G 8 _ _ rfl) (Room.low hr) rfl rfl (sa_cons (s_call (G 11 _ _ rfl) (Room.low hr) rfl rfl (sa_cons (s_call (G 7 _ _ rfl) (Room.low hr) rfl rfl (sa_cons (sv 0) (sa_cons (sv 1) sa_nil)) (hgl := (al_cons (al_cons al_nil)))) sa_nil) (hgl := (al_cons al_nil))) (sa_cons (sv 1) sa_nil)) (hgl := (al_cons (al_cons al_nil)))))))
abbrev t_least_cut : Stmt := topS 19
theorem sc_least_cut : FnScope [(Str.ofString "why"), (Str.ofString "best"), (Str.ofString "cut")] [(Str.ofString "why")] (defScope t_least_cut) := ⟨rfl, rfl, rfl, by decide +kernel, rfl, by decide +kernel, by decide +kernel⟩
set_option maxHeartbeats 3900000 in
theorem g_least_cut {k : Nat} {F : FT} (B : Bi K mg) (G : Good P w K mg base sig k F) (h : Dn K mg t_least_cut (Str.ofString "least_cut") [(Str.ofString "why")]) : Fx P w K mg base (3 * (k + 1)) 1 (m_least_cut F) (Str.ofString "least_cut") := by
  have S := sc_least_cut
  refine fx_ok h S rfl rfl fun fa cdv A outer s H E hr => ?_
  exact (b_cons (s_asg (s_nrm s_non) k_name (pg_name (i := 1) S.nd rfl (by first | exact .inl rfl | exact .inr rfl)))
      (b_cons (s_for PassesOwn.never rfl (i_seq (s_call (G 12 _ _ rfl) (Room.low hr) rfl rfl (sa_cons (sv 0) sa_nil) (hgl := (al_cons al_nil)))) k_name (pg_name (i := 2) S.nd rfl (by first | exact .inl rfl | exact .inr rfl)) (b_one (s_ifS (t_nrm (t_w (w_or (t_isN (sv 1)) (w_or1 (t_cmp op_lt k_cmp (s_callB c_len k_len rfl B.b_len (by decide +kernel) (sa_cons (sv 2) sa_nil)) (s_callB c_len k_len rfl B.b_len (by decide +kernel) (sa_cons (sv 1) sa_nil))))))) (b_one (s_asg (s_nrm (sv 2)) k_name (pg_name (i := 1) S.nd rfl (by first | exact .inl rfl | exact .inr rfl)))) b_nil)))
      (b_one (s_ret (sv 1)))))
abbrev t__law_draws : Stmt := topS 21
theorem sc__law_draws : FnScope [(Str.ofString "script"), (Str.ofString "many"), (Str.ofString "cells"), (Str.ofString "left"), (Str.ofString "draws"), (Str.ofString "k"), (Str.ofString "place"), (Str.ofString "mixed"), (Str.ofString "cell")] [(Str.ofString "script"), (Str.ofString "many")] (defScope t__law_draws) := ⟨rfl, rfl, rfl, by decide +kernel, rfl, by decide +kernel, by decide +kernel⟩
set_option maxHeartbeats 3900000 in
theorem g__law_draws {k : Nat} {F : FT} (B : Bi K mg) (G : Good P w K mg base sig k F) (h : Dn K mg t__law_draws (Str.ofString "_law_draws") [(Str.ofString "script"), (Str.ofString "many")]) : Fx P w K mg base (3 * (k + 1)) 2 (m__law_draws F) (Str.ofString "_law_draws") := by
  have S := sc__law_draws
  refine fx_ok h S rfl rfl fun fa cdv A outer s H E hr => ?_
  exact (b_cons (s_asgLc (i := 2) rfl S.nd rfl rfl (sw_true rfl rfl rfl rfl) (i_seq (sv 0)) (own := [((Str.ofString "cell"), 8)]) (blkOk_by (by kernel_rfl)) k_name (by decide) (fun s H C cl fp => (pg_name (i := 8) S.nd rfl (by first | exact .inl rfl | exact .inr rfl))) (fun s H C cl fp => ts_nil) (fun s H C cl fp => s_nrm (s_callT call_int1 k_int rfl B.b_int (by decide +kernel) (sa_cons (sv 8) sa_nil))))
      (b_cons (s_ifS (t_nrm (t_cmp (op_eqD hr.u64) k_eq (s_callB c_len k_len rfl B.b_len (by decide +kernel) (sa_cons (sv 2) sa_nil)) s_int)) (b_one (s_expr (s_m .list PySem.F.plainAttrs_list PySem.F.slot_list_append PySem.F.type_list_append mt_append (sv 2) (sa_cons s_int sa_nil) k_append))) b_nil)
      (b_cons (s_asg (s_nrm (s_callT (c_list rfl) k_list rfl B.b_list (by decide +kernel) (sa_cons (sv 2) sa_nil))) k_name (pg_name (i := 3) S.nd rfl (by first | exact .inl rfl | exact .inr rfl)))
      (b_cons (s_asg (s_nrm (s_lst sa_nil)) k_name (pg_name (i := 4) S.nd rfl (by first | exact .inl rfl | exact .inr rfl)))
      (b_cons (s_for PassesOwn.never rfl (i_rng1 rfl B.b_range (sv 1)) k_name (pg_name (i := 5) S.nd rfl (by first | exact .inl rfl | exact .inr rfl)) (b_cons (s_asg (s_nrm (s_op op_mod k_mod (sv 5) (s_callB c_len k_len rfl B.b_len (by decide +kernel) (sa_cons (sv 2) sa_nil)))) k_name (pg_name (i := 6) S.nd rfl (by first | exact .inl rfl | exact .inr rfl)))
      (b_one (s_ifS (t_nrm (t_cmp op_ge k_cmp (s_ix (o_ix hr.u1) k_ix (sv 2) (sv 6)) (s_op op_pow k_pow s_int s_int))) (b_cons (s_expr (s_m .list PySem.F.plainAttrs_list PySem.F.slot_list_append PySem.F.type_list_append mt_append (sv 4) (sa_cons (s_op op_mod k_mod (s_callT call_int1 k_int rfl B.b_int (by decide +kernel) (sa_cons (s_ix (o_ix hr.u1) k_ix (sv 3) (sv 6)) sa_nil)) s_int) sa_nil) k_append))
      (b_one (s_sub (s_nrm (s_op op_fdivW k_fdiv (s_ix (o_ix hr.u1) k_ix (sv 3) (sv 6)) s_int)) (sv 3) (sv 6) (o_set hr.u1) k_set))) (b_cons (s_asg (s_nrm (s_op op_mod k_mod (s_callT call_int1 k_int rfl B.b_int (by decide +kernel) (sa_cons (s_op o_add k_add (s_op o_add k_add (s_op o_mul k_mul (s_ix (o_ix hr.u1) k_ix (sv 2) (sv 6)) s_int) (s_op o_mul k_mul (sv 5) s_int)) s_int) sa_nil)) s_int)) k_name (pg_name (i := 7) S.nd rfl (by first | exact .inl rfl | exact .inr rfl)))
      (b_one (s_expr (s_m .list PySem.F.plainAttrs_list PySem.F.slot_list_append PySem.F.type_list_append mt_append (sv 4) (sa_cons (s_op op_mod k_mod (s_callT call_int1 k_int rfl B.b_int (by decide +kernel) (sa_cons (s_op o_add k_add (s_op o_add k_add (s_op o_mul k_mul (sv 7) (sv 7)) (s_op o_mul k_mul s_int (sv 7))) (sv 5)) sa_nil)) s_int) sa_nil) k_append))))))))
      (b_cons (s_expr (s_m0 .list PySem.F.plainAttrs_list PySem.F.slot_list_reverse PySem.F.type_list_reverse mt_reverse (sv 4) k_reverse))
      (b_one (s_ret (sv 4)))))))))
abbrev t__law_take : Stmt := topS 22
theorem sc__law_take : FnScope [(Str.ofString "draws"), (Str.ofString "many")] [(Str.ofString "draws"), (Str.ofString "many")] (defScope t__law_take) := ⟨rfl, rfl, rfl, by decide +kernel, rfl, by decide +kernel, by decide +kernel⟩
set_option maxHeartbeats 3900000 in
theorem g__law_take {k : Nat} {F : FT} (B : Bi K mg) (G : Good P w K mg base sig k F) (h : Dn K mg t__law_take (Str.ofString "_law_take") [(Str.ofString "draws"), (Str.ofString "many")]) : Fx P w K mg base (3 * (k + 1)) 2 (m__law_take F) (Str.ofString "_law_take") := by
  have S := sc__law_take
  refine fx_ok h S rfl rfl fun fa cdv A outer s H E hr => ?_
  exact (b_cons (s_ifS (t_nrm (t_cmp (op_eqD hr.u64) k_eq (s_callB c_len k_len rfl B.b_len (by decide +kernel) (sa_cons (sv 0) sa_nil)) s_int)) (b_one (s_ret s_int)) b_nil)
      (b_one (s_ret (s_op op_mod k_mod (s_callT call_int1 k_int rfl B.b_int (by decide +kernel) (sa_cons (s_m0 .list PySem.F.plainAttrs_list PySem.F.slot_list_pop PySem.F.type_list_pop m_pop (sv 0) k_pop) sa_nil)) (sv 1)))))
abbrev t__law_same : Stmt := topS 23
theorem sc__law_same : FnScope [(Str.ofString "actual"), (Str.ofString "due"), (Str.ofString "k")] [(Str.ofString "actual"), (Str.ofString "due")] (defScope t__law_same) := ⟨rfl, rfl, rfl, by decide +kernel, rfl, by decide +kernel, by decide +kernel⟩
set_option maxHeartbeats 3900000 in
theorem g__law_same {k : Nat} {F : FT} (B : Bi K mg) (G : Good P w K mg base sig k F) (h : Dn K mg t__law_same (Str.ofString "_law_same") [(Str.ofString "actual"), (Str.ofString "due")]) : Fx P w K mg base (3 * (k + 1)) 2 (m__law_same F) (Str.ofString "_law_same") := by
  have S := sc__law_same
  refine fx_ok h S rfl rfl fun fa cdv A outer s H E hr => ?_
  exact (b_cons (s_ifS (t_nrm (t_val (s_isi2 rfl B.b_isinstance (by decide +kernel) (tn (t := .tuple) B.b_tuple) (tn (t := .list) B.b_list) (sv 1)))) (b_cons (s_ifS (t_nrm (t_w (w_or (t_cmp (op_neD hr.u64) k_ne (s_isi1 rfl B.b_isinstance (by decide +kernel) (tn (t := .tuple) B.b_tuple) (sv 0)) (s_isi1 rfl B.b_isinstance (by decide +kernel) (tn (t := .tuple) B.b_tuple) (sv 1))) (w_or1 (t_cmp (op_neD hr.u64) k_ne (s_isi1 rfl B.b_isinstance (by decide +kernel) (tn (t := .list) B.b_list) (sv 0)) (s_isi1 rfl B.b_isinstance (by decide +kernel) (tn (t := .list) B.b_list) (sv 1))))))) (b_one (s_ret s_bl)) b_nil)
      (b_cons (s_ifS (t_nrm (t_cmp (op_neD hr.u64) k_ne (s_callB c_len k_len rfl B.b_len (by decide +kernel) (sa_cons (sv 0) sa_nil)) (s_callB c_len k_len rfl B.b_len (by decide +kernel) (sa_cons (sv 1) sa_nil)))) (b_one (s_ret s_bl)) b_nil)
      (b_one (s_ret (s_cmp (o_notIn hr.u65) k_notIn s_bl (s_lc rfl S.nd (i_rng1 rfl B.b_range (s_callB c_len k_len rfl B.b_len (by decide +kernel) (sa_cons (sv 1) sa_nil))) (own := [((Str.ofString "k"), 2)]) (blkOk_by (by kernel_rfl)) k_name (by decide) (fun s H C cl fp => (pg_name (i := 2) S.nd rfl (by first | exact .inl rfl | exact .inr rfl))) (fun s H C cl fp => ts_nil) (fun s H C cl fp => s_nrm (s_call (G 16 _ _ rfl) (Room.low hr) rfl rfl (sa_cons (s_ix (o_ix hr.u1) k_ix (sv 0) (sv 2)) (sa_cons (s_ix (o_ix hr.u1) k_ix (sv 1) (sv 2)) sa_nil)) (hgl := (al_cons (al_cons al_nil))))))))))) b_nil)
      (b_cons (s_ifS (t_nrm (t_w (w_or (t_cmp (op_neD hr.u64) k_ne (s_isi1 rfl B.b_isinstance (by decide +kernel) (tn (t := .bool) B.b_bool) (sv 0)) (s_isi1 rfl B.b_isinstance (by decide +kernel) (tn (t := .bool) B.b_bool) (sv 1))) (w_or1 (t_cmp (op_neD hr.u64) k_ne (s_isi1 rfl B.b_isinstance (by decide +kernel) (tn (t := .int) B.b_int) (sv 0)) (s_isi1 rfl B.b_isinstance (by decide +kernel) (tn (t := .int) B.b_int) (sv 1))))))) (b_one (s_ret s_bl)) b_nil)
      (b_cons (s_ifS (t_nrm (t_w (w_or (t_cmp (op_neD hr.u64) k_ne (s_isi1 rfl B.b_isinstance (by decide +kernel) (tn (t := .str) B.b_str) (sv 0)) (s_isi1 rfl B.b_isinstance (by decide +kernel) (tn (t := .str) B.b_str) (sv 1))) (w_or1 (t_cmp (op_neD hr.u64) k_ne (s_isN (sv 0)) (s_isN (sv 1))))))) (b_one (s_ret s_bl)) b_nil)
      (b_one (s_ret (s_cmp (op_eqD hr.u64) k_eq (sv 0) (sv 1)))))))
abbrev t__law_value_key : Stmt := topS 24
theorem sc__law_value_key : FnScope [(Str.ofString "value")] [(Str.ofString "value")] (defScope t__law_value_key) := ⟨rfl, rfl, rfl, by decide +kernel, rfl, by decide +kernel, by decide +kernel⟩
set_option maxHeartbeats 3900000 in
theorem g__law_value_key {k : Nat} {F : FT} (B : Bi K mg) (G : Good P w K mg base sig k F) (h : Dn K mg t__law_value_key (Str.ofString "_law_value_key") [(Str.ofString "value")]) : Fx P w K mg base (3 * (k + 1)) 1 (m__law_value_key F) (Str.ofString "_law_value_key") := by
  have S := sc__law_value_key
  refine fx_ok h S rfl rfl fun fa cdv A outer s H E hr => ?_
  exact (b_cons (s_ifS (t_nrm (t_val (s_isi1 rfl B.b_isinstance (by decide +kernel) (tn (t := .str) B.b_str) (sv 0)))) (b_one (s_ret (s_tup (sa_cons s_int (sa_cons s_int (sa_cons (sv 0) sa_nil)))))) b_nil)
      (b_one (s_ret (s_tup (sa_cons s_int (sa_cons (sv 0) (sa_cons s_str sa_nil)))))))
abbrev t__law_row_key : Stmt := topS 25
theorem sc__law_row_key : FnScope [(Str.ofString "row"), (Str.ofString "value")] [(Str.ofString "row")] (defScope t__law_row_key) := ⟨rfl, rfl, rfl, by decide +kernel, rfl, by decide +kernel, by decide +kernel⟩
set_option maxHeartbeats 3900000 in
theorem g__law_row_key {k : Nat} {F : FT} (B : Bi K mg) (G : Good P w K mg base sig k F) (h : Dn K mg t__law_row_key (Str.ofString "_law_row_key") [(Str.ofString "row")]) : Fx P w K mg base (3 * (k + 1)) 1 (m__law_row_key F) (Str.ofString "_law_row_key") := by
  have S := sc__law_row_key
  refine fx_ok h S rfl rfl fun fa cdv A outer s H E hr => ?_
  exact (b_one (s_ret (s_callT call_tuple_of k_tuple rfl B.b_tuple (by decide +kernel) (sa_cons (s_lc rfl S.nd (i_seq (sv 0)) (own := [((Str.ofString "value"), 1)]) (blkOk_by (by kernel_rfl)) k_name (by decide) (fun s H C cl fp => (pg_name (i := 1) S.nd rfl (by first | exact .inl rfl | exact .inr rfl))) (fun s H C cl fp => ts_nil) (fun s H C cl fp => s_nrm (s_call (G 17 _ _ rfl) (Room.low hr) rfl rfl (sa_cons (sv 1) sa_nil) (hgl := (al_cons al_nil))))) sa_nil))))
abbrev t__law_mark_key : Stmt := topS 26
theorem sc__law_mark_key : FnScope [(Str.ofString "mark")] [(Str.ofString "mark")] (defScope t__law_mark_key) := ⟨rfl, rfl, rfl, by decide +kernel, rfl, by decide +kernel, by decide +kernel⟩
set_option maxHeartbeats 3900000 in
theorem g__law_mark_key {k : Nat} {F : FT} (B : Bi K mg) (G : Good P w K mg base sig k F) (h : Dn K mg t__law_mark_key (Str.ofString "_law_mark_key") [(Str.ofString "mark")]) : Fx P w K mg base (3 * (k + 1)) 1 (m__law_mark_key F) (Str.ofString "_law_mark_key") := by
  have S := sc__law_mark_key
  refine fx_ok h S rfl rfl fun fa cdv A outer s H E hr => ?_
  exact (b_one (s_ret (s_tup (sa_cons (s_ix (o_ix hr.u1) k_ix (sv 0) s_int) (sa_cons (s_call (G 18 _ _ rfl) (Room.low hr) rfl rfl (sa_cons (s_ix (o_ix hr.u1) k_ix (sv 0) s_int) sa_nil) (hgl := (al_cons al_nil))) (sa_cons (s_ix (o_ix hr.u1) k_ix (sv 0) s_int) sa_nil))))))
abbrev t__law_is_part : Stmt := topS 27
theorem sc__law_is_part : FnScope [(Str.ofString "small"), (Str.ofString "large"), (Str.ofString "part")] [(Str.ofString "small"), (Str.ofString "large")] (defScope t__law_is_part) := ⟨rfl, rfl, rfl, by decide +kernel, rfl, by decide +kernel, by decide +kernel⟩
set_option maxHeartbeats 3900000 in
theorem g__law_is_part {k : Nat} {F : FT} (B : Bi K mg) (G : Good P w K mg base sig k F) (h : Dn K mg t__law_is_part (Str.ofString "_law_is_part") [(Str.ofString "small"), (Str.ofString "large")]) : Fx P w K mg base (3 * (k + 1)) 2 (m__law_is_part F) (Str.ofString "_law_is_part") := by
  have S := sc__law_is_part
  refine fx_ok h S rfl rfl fun fa cdv A outer s H E hr => ?_
  exact (b_one (s_ret (s_cmp (o_notIn hr.u65) k_notIn s_bl (s_lc rfl S.nd (i_seq (sv 0)) (own := [((Str.ofString "part"), 2)]) (blkOk_by (by kernel_rfl)) k_name (by decide) (fun s H C cl fp => (pg_name (i := 2) S.nd rfl (by first | exact .inl rfl | exact .inr rfl))) (fun s H C cl fp => ts_nil) (fun s H C cl fp => s_nrm (s_cmp (o_in hr.u65) k_in (sv 2) (sv 1)))))))
abbrev t__law_pair_key : Stmt := topS 28
theorem sc__law_pair_key : FnScope [(Str.ofString "pair")] [(Str.ofString "pair")] (defScope t__law_pair_key) := ⟨rfl, rfl, rfl, by decide +kernel, rfl, by decide +kernel, by decide +kernel⟩
set_option maxHeartbeats 3900000 in
theorem g__law_pair_key {k : Nat} {F : FT} (B : Bi K mg) (G : Good P w K mg base sig k F) (h : Dn K mg t__law_pair_key (Str.ofString "_law_pair_key") [(Str.ofString "pair")]) : Fx P w K mg base (3 * (k + 1)) 1 (m__law_pair_key F) (Str.ofString "_law_pair_key") := by
  have S := sc__law_pair_key
  refine fx_ok h S rfl rfl fun fa cdv A outer s H E hr => ?_
  exact (b_one (s_ret (s_tup (sa_cons (s_call (G 19 _ _ rfl) (Room.low hr) rfl rfl (sa_cons (s_ix (o_ix hr.u1) k_ix (sv 0) s_int) sa_nil) (hgl := (al_cons al_nil))) (sa_cons (s_call (G 18 _ _ rfl) (Room.low hr) rfl rfl (sa_cons (s_ix (o_ix hr.u1) k_ix (sv 0) s_int) sa_nil) (hgl := (al_cons al_nil))) sa_nil)))))
abbrev t__law_reason_key : Stmt := topS 29
theorem sc__law_reason_key : FnScope [(Str.ofString "reason"), (Str.ofString "pair")] [(Str.ofString "reason")] (defScope t__law_reason_key) := ⟨rfl, rfl, rfl, by decide +kernel, rfl, by decide +kernel, by decide +kernel⟩
set_option maxHeartbeats 3900000 in
theorem g__law_reason_key {k : Nat} {F : FT} (B : Bi K mg) (G : Good P w K mg base sig k F) (h : Dn K mg t__law_reason_key (Str.ofString "_law_reason_key") [(Str.ofString "reason")]) : Fx P w K mg base (3 * (k + 1)) 1 (m__law_reason_key F) (Str.ofString "_law_reason_key") := by
  have S := sc__law_reason_key
  refine fx_ok h S rfl rfl fun fa cdv A outer s H E hr => ?_
  exact (b_one (s_ret (s_callT call_tuple_of k_tuple rfl B.b_tuple (by decide +kernel) (sa_cons (s_lc rfl S.nd (i_seq (sv 0)) (own := [((Str.ofString "pair"), 1)]) (blkOk_by (by kernel_rfl)) k_name (by decide) (fun s H C cl fp => (pg_name (i := 1) S.nd rfl (by first | exact .inl rfl | exact .inr rfl))) (fun s H C cl fp => ts_nil) (fun s H C cl fp => s_nrm (s_call (G 21 _ _ rfl) (Room.low hr) rfl rfl (sa_cons (sv 1) sa_nil) (hgl := (al_cons al_nil))))) sa_nil))))
abbrev t__law_member_key : Stmt := topS 30
theorem sc__law_member_key : FnScope [(Str.ofString "member")] [(Str.ofString "member")] (defScope t__law_member_key) := ⟨rfl, rfl, rfl, by decide +kernel, rfl, by decide +kernel, by decide +kernel⟩
set_option maxHeartbeats 3900000 in
theorem g__law_member_key {k : Nat} {F : FT} (B : Bi K mg) (G : Good P w K mg base sig k F) (h : Dn K mg t__law_member_key (Str.ofString "_law_member_key") [(Str.ofString "member")]) : Fx P w K mg base (3 * (k + 1)) 1 (m__law_member_key F) (Str.ofString "_law_member_key") := by
  have S := sc__law_member_key
  refine fx_ok h S rfl rfl fun fa cdv A outer s H E hr => ?_
  exact (b_cons (s_ifS (t_nrm (t_w (w_and (t_cmp op_gt k_cmp (s_callB c_len k_len rfl B.b_len (by decide +kernel) (sa_cons (sv 0) sa_nil)) s_int) (w_and1 (t_val (s_isi1 rfl B.b_isinstance (by decide +kernel) (tn (t := .tuple) B.b_tuple) (s_ix (o_ix hr.u1) k_ix (sv 0) s_int))))))) (b_one (s_ret (s_call (G 22 _ _ rfl) (Room.low hr) rfl rfl (sa_cons (sv 0) sa_nil) (hgl := (al_cons al_nil))))) b_nil)
      (b_one (s_ret (sv 0))))
abbrev t__law_thin : Stmt := topS 31
theorem sc__law_thin : FnScope [(Str.ofString "members"), (Str.ofString "found"), (Str.ofString "member"), (Str.ofString "other")] [(Str.ofString "members")] (defScope t__law_thin) := ⟨rfl, rfl, rfl, by decide +kernel, rfl, by decide +kernel, by decide +kernel⟩
set_option maxHeartbeats 3900000 in
theorem g__law_thin {k : Nat} {F : FT} (B : Bi K mg) (G : Good P w K mg base sig k F) (h : Dn K mg t__law_thin (Str.ofString "_law_thin") [(Str.ofString "members")]) : Fx P w K mg base (3 * (k + 1)) 1 (m__law_thin F) (Str.ofString "_law_thin") := by
  have S := sc__law_thin
  refine fx_ok h S rfl rfl fun fa cdv A outer s H E hr => ?_
  exact (b_cons (s_asg (s_nrm (s_lst sa_nil)) k_name (pg_name (i := 1) S.nd rfl (by first | exact .inl rfl | exact .inr rfl)))
      (b_cons (s_for PassesOwn.never rfl (i_seq (s_sortLen rfl hr.u64 rfl B.b_sorted rfl B.b_len (sv 0))) k_name (pg_name (i := 2) S.nd rfl (by first | exact .inl rfl | exact .inr rfl)) (b_one (s_ifS (t_nrm (t_cmp (o_notIn hr.u65) k_notIn s_bl (s_lc rfl S.nd (i_seq (sv 1)) (own := [((Str.ofString "other"), 3)]) (blkOk_by (by kernel_rfl)) k_name (by decide) (fun s H C cl fp => (pg_name (i := 3) S.nd rfl (by first | exact .inl rfl | exact .inr rfl))) (fun s H C cl fp => ts_nil) (fun s H C cl fp => s_nrm (s_call (G 20 _ _ rfl) (Room.low hr) rfl rfl (sa_cons (sv 3) (sa_cons (sv 2) sa_nil)) (hgl := (al_cons (al_cons al_nil)))))))) (b_one (s_expr (s_m .list PySem.F.plainAttrs_list PySem.F.slot_list_append PySem.F.type_list_append mt_append (sv 1) (sa_cons (sv 2) sa_nil) k_append))) b_nil)))
      (b_one (s_ret (s_callT call_tuple_of k_tuple rfl B.b_tuple (by decide +kernel) (sa_cons (s_sortKd rfl (G 23 _ _ rfl) hr rfl B.b_sorted rfl (sv 1)) sa_nil))))))
abbrev t__law_drawn_why : Stmt := topS 32
theorem sc__law_drawn_why : FnScope [(Str.ofString "draws"), (Str.ofString "numbers"), (Str.ofString "kind"), (Str.ofString "supports"), (Str.ofString "k"), (Str.ofString "number"), (Str.ofString "support")] [(Str.ofString "draws"), (Str.ofString "numbers")] (defScope t__law_drawn_why) := ⟨rfl, rfl, rfl, by decide +kernel, rfl, by decide +kernel, by decide +kernel⟩
set_option maxHeartbeats 3900000 in
theorem g__law_drawn_why {k : Nat} {F : FT} (B : Bi K mg) (G : Good P w K mg base sig k F) (h : Dn K mg t__law_drawn_why (Str.ofString "_law_drawn_why") [(Str.ofString "draws"), (Str.ofString "numbers")]) : Fx P w K mg base (3 * (k + 1)) 2 (m__law_drawn_why F) (Str.ofString "_law_drawn_why") := by
  have S := sc__law_drawn_why
  refine fx_ok h S rfl rfl fun fa cdv A outer s H E hr => ?_
  exact (b_cons (s_asg (s_nrm (s_call (G 15 _ _ rfl) (Room.low hr) rfl rfl (sa_cons (sv 0) (sa_cons s_int sa_nil)) (hgl := (al_cons (al_cons al_nil))))) k_name (pg_name (i := 2) S.nd rfl (by first | exact .inl rfl | exact .inr rfl)))
      (b_cons (s_ifS (t_nrm (t_cmp (op_eqD hr.u64) k_eq (sv 2) s_int)) (b_one (s_ret (s_tup sa_nil))) b_nil)
      (b_cons (s_ifS (t_nrm (t_cmp (op_eqD hr.u64) k_eq (sv 2) s_int)) (b_one (s_ret (s_tup (sa_cons (s_tup sa_nil) sa_nil)))) b_nil)
      (b_cons (s_asg (s_nrm (s_lst sa_nil)) k_name (pg_name (i := 3) S.nd rfl (by first | exact .inl rfl | exact .inr rfl)))
      (b_cons (s_for PassesOwn.never rfl (i_rng1 rfl B.b_range (s_op o_add k_add s_int (s_call (G 15 _ _ rfl) (Room.low hr) rfl rfl (sa_cons (sv 0) (sa_cons s_int sa_nil)) (hgl := (al_cons (al_cons al_nil)))))) k_name (pg_name (i := 4) S.nd rfl (by first | exact .inl rfl | exact .inr rfl)) (b_one (s_expr (s_m .list PySem.F.plainAttrs_list PySem.F.slot_list_append PySem.F.type_list_append mt_append (sv 3) (sa_cons (s_callT call_tuple_of k_tuple rfl B.b_tuple (by decide +kernel) (sa_cons (s_lc rfl S.nd (i_seq (sv 1)) (own := [((Str.ofString "number"), 5)]) (blkOk_by (by kernel_rfl)) k_name (by decide) (fun s H C cl fp => (pg_name (i := 5) S.nd rfl (by first | exact .inl rfl | exact .inr rfl))) (fun s H C cl fp => (ts_one (t_nrm (t_cmp op_lt k_cmp (s_call (G 15 _ _ rfl) (Room.low hr) rfl rfl (sa_cons (sv 0) (sa_cons s_int sa_nil)) (hgl := (al_cons (al_cons al_nil)))) s_int)))) (fun s H C cl fp => s_nrm (sv 5))) sa_nil)) sa_nil) k_append))))
      (b_one (s_ret (s_call (G 24 _ _ rfl) (Room.low hr) rfl rfl (sa_cons (s_lc rfl S.nd (i_seq (sv 3)) (own := [((Str.ofString "support"), 6)]) (blkOk_by (by kernel_rfl)) k_name (by decide) (fun s H C cl fp => (pg_name (i := 6) S.nd rfl (by first | exact .inl rfl | exact .inr rfl))) (fun s H C cl fp => (ts_one (t_nrm (t_cmp op_gt k_cmp (s_callB c_len k_len rfl B.b_len (by decide +kernel) (sa_cons (sv 6) sa_nil)) s_int)))) (fun s H C cl fp => s_nrm (sv 6))) sa_nil) (hgl := (al_cons al_nil))))))))))
abbrev t__law_some_numbers : Stmt := topS 33
theorem sc__law_some_numbers : FnScope [(Str.ofString "draws"), (Str.ofString "numbers"), (Str.ofString "k")] [(Str.ofString "draws")] (defScope t__law_some_numbers) := ⟨rfl, rfl, rfl, by decide +kernel, rfl, by decide +kernel, by decide +kernel⟩
set_option maxHeartbeats 3900000 in
theorem g__law_some_numbers {k : Nat} {F : FT} (B : Bi K mg) (G : Good P w K mg base sig k F) (h : Dn K mg t__law_some_numbers (Str.ofString "_law_some_numbers") [(Str.ofString "draws")]) : Fx P w K mg base (3 * (k + 1)) 1 (m__law_some_numbers F) (Str.ofString "_law_some_numbers") := by
  have S := sc__law_some_numbers
  refine fx_ok h S rfl rfl fun fa cdv A outer s H E hr => ?_
  exact (b_cons (s_asg (s_nrm (s_lst (sa_cons (s_op o_add k_add s_int (s_call (G 15 _ _ rfl) (Room.low hr) rfl rfl (sa_cons (sv 0) (sa_cons s_int sa_nil)) (hgl := (al_cons (al_cons al_nil))))) sa_nil))) k_name (pg_name (i := 1) S.nd rfl (by first | exact .inl rfl | exact .inr rfl)))
      (b_cons (s_for PassesOwn.never rfl (i_rng1 rfl B.b_range s_int) k_name (pg_name (i := 2) S.nd rfl (by first | exact .inl rfl | exact .inr rfl)) (b_one (s_expr (s_m .list PySem.F.plainAttrs_list PySem.F.slot_list_append PySem.F.type_list_append mt_append (sv 1) (sa_cons (s_op o_add k_add (s_op o_add k_add (s_op o_add k_add (s_ix (o_ix hr.u1) k_ix (sv 1) (s_un un_neg k_neg s_int)) s_int) (s_call (G 15 _ _ rfl) (Room.low hr) rfl rfl (sa_cons (sv 0) (sa_cons s_int sa_nil)) (hgl := (al_cons (al_cons al_nil))))) (s_op o_mul k_mul (s_callT call_int1 k_int rfl B.b_int (by decide +kernel) (sa_cons (s_cmp (op_eqD hr.u64) k_eq (s_call (G 15 _ _ rfl) (Room.low hr) rfl rfl (sa_cons (sv 0) (sa_cons s_int sa_nil)) (hgl := (al_cons (al_cons al_nil)))) s_int) sa_nil)) (s_op op_pow k_pow s_int s_int))) sa_nil) k_append))))
      (b_one (s_ret (sv 1)))))
abbrev t__law_cuts : Stmt := topS 34
theorem sc__law_cuts : FnScope [(Str.ofString "why"), (Str.ofString "numbers"), (Str.ofString "masks"), (Str.ofString "k"), (Str.ofString "mine"), (Str.ofString "found"), (Str.ofString "j"), (Str.ofString "other"), (Str.ofString "support"), (Str.ofString "number")] [(Str.ofString "why"), (Str.ofString "numbers")] (defScope t__law_cuts) := ⟨rfl, rfl, rfl, by decide +kernel, rfl, by decide +kernel, by decide +kernel⟩
set_option maxHeartbeats 3900000 in
theorem g__law_cuts {k : Nat} {F : FT} (B : Bi K mg) (G : Good P w K mg base sig k F) (h : Dn K mg t__law_cuts (Str.ofString "_law_cuts") [(Str.ofString "why"), (Str.ofString "numbers")]) : Fx P w K mg base (3 * (k + 1)) 2 (m__law_cuts F) (Str.ofString "_law_cuts") := by
  have S := sc__law_cuts
  refine fx_ok h S rfl rfl fun fa cdv A outer s H E hr => ?_
  exact (b_cons (s_asg (s_nrm (s_lst sa_nil)) k_name (pg_name (i := 2) S.nd rfl (by first | exact .inl rfl | exact .inr rfl)))
      (b_cons (s_for PassesOwn.never rfl (i_rng1 rfl B.b_range (s_op op_shl k_shl s_int (s_callB c_len k_len rfl B.b_len (by decide +kernel) (sa_cons (sv 1) sa_nil)))) k_name (pg_name (i := 3) S.nd rfl (by first | exact .inl rfl | exact .inr rfl)) (b_cons (s_asg (s_nrm (s_lc rfl S.nd (i_rng1 rfl B.b_range (s_callB c_len k_len rfl B.b_len (by decide +kernel) (sa_cons (sv 1) sa_nil))) (own := [((Str.ofString "j"), 6)]) (blkOk_by (by kernel_rfl)) k_name (by decide) (fun s H C cl fp => (pg_name (i := 6) S.nd rfl (by first | exact .inl rfl | exact .inr rfl))) (fun s H C cl fp => (ts_one (t_nrm (t_cmp (op_eqD hr.u64) k_eq (s_op op_and k_and (s_op op_shr k_shr (sv 3) (sv 6)) s_int) s_int)))) (fun s H C cl fp => s_nrm (s_ix (o_ix hr.u1) k_ix (sv 1) (sv 6))))) k_name (pg_name (i := 4) S.nd rfl (by first | exact .inl rfl | exact .inr rfl)))
      (b_one (s_ifS (t_nrm (t_cmp (o_notIn hr.u65) k_notIn s_bl (s_lc rfl S.nd (i_seq (sv 2)) (own := [((Str.ofString "other"), 7)]) (blkOk_by (by kernel_rfl)) k_name (by decide) (fun s H C cl fp => (pg_name (i := 7) S.nd rfl (by first | exact .inl rfl | exact .inr rfl))) (fun s H C cl fp => ts_nil) (fun s H C cl fp => s_nrm (s_cmp (op_eqD hr.u64) k_eq (s_op op_and k_and (sv 3) (sv 7)) (sv 7)))))) (b_one (s_ifS (t_nrm (t_cmp (o_notIn hr.u65) k_notIn s_bl (s_lc rfl S.nd (i_seq (sv 0)) (own := [((Str.ofString "support"), 8)]) (blkOk_by (by kernel_rfl)) k_name (by decide) (fun s H C cl fp => (pg_name (i := 8) S.nd rfl (by first | exact .inl rfl | exact .inr rfl))) (fun s H C cl fp => ts_nil) (fun s H C cl fp => s_nrm (s_cmp (o_in hr.u65) k_in s_bl (s_lc rfl S.nd (i_seq (sv 4)) (own := [((Str.ofString "number"), 9)]) (blkOk_by (by kernel_rfl)) k_name (by decide) (fun s H C cl fp => (pg_name (i := 9) S.nd rfl (by first | exact .inl rfl | exact .inr rfl))) (fun s H C cl fp => ts_nil) (fun s H C cl fp => s_nrm (s_cmp (o_in hr.u65) k_in (sv 9) (sv 8))))))))) (b_one (s_expr (s_m .list PySem.F.plainAttrs_list PySem.F.slot_list_append PySem.F.type_list_append mt_append (sv 2) (sa_cons (sv 3) sa_nil) k_append))) b_nil)) b_nil))))
      (b_cons (s_asg (s_nrm (s_lst sa_nil)) k_name (pg_name (i := 5) S.nd rfl (by first | exact .inl rfl | exact .inr rfl)))
      (b_cons (s_for PassesOwn.never rfl (i_seq (sv 2)) k_name (pg_name (i := 3) S.nd rfl (by first | exact .inl rfl | exact .inr rfl)) (b_one (s_expr (s_m .list PySem.F.plainAttrs_list PySem.F.slot_list_append PySem.F.type_list_append mt_append (sv 5) (sa_cons (s_callT call_tuple_of k_tuple rfl B.b_tuple (by decide +kernel) (sa_cons (s_lc rfl S.nd (i_rng1 rfl B.b_range (s_callB c_len k_len rfl B.b_len (by decide +kernel) (sa_cons (sv 1) sa_nil))) (own := [((Str.ofString "j"), 6)]) (blkOk_by (by kernel_rfl)) k_name (by decide) (fun s H C cl fp => (pg_name (i := 6) S.nd rfl (by first | exact .inl rfl | exact .inr rfl))) (fun s H C cl fp => (ts_one (t_nrm (t_cmp (op_eqD hr.u64) k_eq (s_op op_and k_and (s_op op_shr k_shr (sv 3) (sv 6)) s_int) s_int)))) (fun s H C cl fp => s_nrm (s_ix (o_ix hr.u1) k_ix (sv 1) (sv 6)))) sa_nil)) sa_nil) k_append))))
      (b_one (s_ret (s_callT call_tuple_of k_tuple rfl B.b_tuple (by decide +kernel) (sa_cons (s_callB (c_sortedA hr.u64) k_sortedA rfl B.b_sorted (by decide +kernel) (sa_cons (sv 5) sa_nil)) sa_nil))))))))
abbrev t__law_least : Stmt := topS 35
theorem sc__law_least : FnScope [(Str.ofString "due"), (Str.ofString "least"), (Str.ofString "cut")] [(Str.ofString "due")] (defScope t__law_least) := ⟨rfl, rfl, rfl, by decide +kernel, rfl, by decide +kernel, by decide +kernel⟩
set_option maxHeartbeats 3900000 in
theorem g__law_least {k : Nat} {F : FT} (B : Bi K mg) (G : Good P w K mg base sig k F) (h : Dn K mg t__law_least (Str.ofString "_law_least") [(Str.ofString "due")]) : Fx P w K mg base (3 * (k + 1)) 1 (m__law_least F) (Str.ofString "_law_least") := by
  have S := sc__law_least
  refine fx_ok h S rfl rfl fun fa cdv A outer s H E hr => ?_
  exact (b_cons (s_asg (s_nrm (s_minD rfl rfl B.b_min (s_lc rfl S.nd (i_seq (sv 0)) (own := [((Str.ofString "cut"), 2)]) (blkOk_by (by kernel_rfl)) k_name (by decide) (fun s H C cl fp => (pg_name (i := 2) S.nd rfl (by first | exact .inl rfl | exact .inr rfl))) (fun s H C cl fp => ts_nil) (fun s H C cl fp => s_nrm (s_callB c_len k_len rfl B.b_len (by decide +kernel) (sa_cons (sv 2) sa_nil)))) s_int)) k_name (pg_name (i := 1) S.nd rfl (by first | exact .inl rfl | exact .inr rfl)))
      (b_cons (s_for PassesOwn.never rfl (i_seq (sv 0)) k_name (pg_name (i := 2) S.nd rfl (by first | exact .inl rfl | exact .inr rfl)) (b_one (s_ifS (t_nrm (t_cmp (op_eqD hr.u64) k_eq (s_callB c_len k_len rfl B.b_len (by decide +kernel) (sa_cons (sv 2) sa_nil)) (sv 1))) (b_one (s_ret (sv 2))) b_nil)))
      (b_one (s_ret s_non))))
abbrev t__law_pairs : Stmt := topS 36
theorem sc__law_pairs : FnScope [(Str.ofString "draws"), (Str.ofString "left"), (Str.ofString "pairs"), (Str.ofString "found"), (Str.ofString "k"), (Str.ofString "pair"), (Str.ofString "grown"), (Str.ofString "cut"), (Str.ofString "number")] [(Str.ofString "draws")] (defScope t__law_pairs) := ⟨rfl, rfl, rfl, by decide +kernel, rfl, by decide +kernel, by decide +kernel⟩
set_option maxHeartbeats 3900000 in
theorem g__law_pairs {k : Nat} {F : FT} (B : Bi K mg) (G : Good P w K mg base sig k F) (h : Dn K mg t__law_pairs (Str.ofString "_law_pairs") [(Str.ofString "draws")]) : Fx P w K mg base (3 * (k + 1)) 1 (m__law_pairs F) (Str.ofString "_law_pairs") := by
  have S := sc__law_pairs
  refine fx_ok h S rfl rfl fun fa cdv A outer s H E hr => ?_
  exact (b_cons (s_asgLc (i := 1) rfl S.nd rfl rfl (sw_true rfl rfl rfl rfl) (i_rng1 rfl B.b_range s_int) (own := [((Str.ofString "k"), 4)]) (blkOk_by (by kernel_rfl)) k_name (by decide) (fun s H C cl fp => (pg_name (i := 4) S.nd rfl (by first | exact .inl rfl | exact .inr rfl))) (fun s H C cl fp => ts_nil) (fun s H C cl fp => s_nrm (s_op o_add k_add (sv 4) s_int)))
      (b_cons (s_asg (s_nrm (s_lst sa_nil)) k_name (pg_name (i := 2) S.nd rfl (by first | exact .inl rfl | exact .inr rfl)))
      (b_cons (s_asg (s_nrm (s_lst (sa_cons (s_tup sa_nil) sa_nil))) k_name (pg_name (i := 3) S.nd rfl (by first | exact .inl rfl | exact .inr rfl)))
      (b_cons (s_for PassesOwn.never rfl (i_rng1 rfl B.b_range (s_op o_add k_add s_int (s_call (G 15 _ _ rfl) (Room.low hr) rfl rfl (sa_cons (sv 0) (sa_cons s_int sa_nil)) (hgl := (al_cons (al_cons al_nil)))))) k_name (pg_name (i := 4) S.nd rfl (by first | exact .inl rfl | exact .inr rfl)) (b_cons (s_asg (s_nrm (s_callB (c_sortedA hr.u64) k_sortedA rfl B.b_sorted (by decide +kernel) (sa_cons (s_lst (sa_cons (s_m .list PySem.F.plainAttrs_list PySem.F.slot_list_pop PySem.F.type_list_pop m_pop (sv 1) (sa_cons (s_call (G 15 _ _ rfl) (Room.low hr) rfl rfl (sa_cons (sv 0) (sa_cons (s_callB c_len k_len rfl B.b_len (by decide +kernel) (sa_cons (sv 1) sa_nil)) sa_nil)) (hgl := (al_cons (al_cons al_nil)))) sa_nil) k_pop) (sa_cons (s_m .list PySem.F.plainAttrs_list PySem.F.slot_list_pop PySem.F.type_list_pop m_pop (sv 1) (sa_cons (s_call (G 15 _ _ rfl) (Room.low hr) rfl rfl (sa_cons (sv 0) (sa_cons (s_callB c_len k_len rfl B.b_len (by decide +kernel) (sa_cons (sv 1) sa_nil)) sa_nil)) (hgl := (al_cons (al_cons al_nil)))) sa_nil) k_pop) sa_nil))) sa_nil))) k_name (pg_name (i := 5) S.nd rfl (by first | exact .inl rfl | exact .inr rfl)))
      (b_cons (s_expr (s_m .list PySem.F.plainAttrs_list PySem.F.slot_list_append PySem.F.type_list_append mt_append (sv 2) (sa_cons (s_callT call_tuple_of k_tuple rfl B.b_tuple (by decide +kernel) (sa_cons (sv 5) sa_nil)) sa_nil) k_append))
      (b_cons (s_asg (s_nrm (s_lst sa_nil)) k_name (pg_name (i := 6) S.nd rfl (by first | exact .inl rfl | exact .inr rfl)))
      (b_cons (s_for PassesOwn.never rfl (i_seq (sv 3)) k_name (pg_name (i := 7) S.nd rfl (by first | exact .inl rfl | exact .inr rfl)) (b_one (s_asg (s_nrm (s_op o_add k_add (sv 6) (s_lc rfl S.nd (i_seq (sv 5)) (own := [((Str.ofString "number"), 8)]) (blkOk_by (by kernel_rfl)) k_name (by decide) (fun s H C cl fp => (pg_name (i := 8) S.nd rfl (by first | exact .inl rfl | exact .inr rfl))) (fun s H C cl fp => ts_nil) (fun s H C cl fp => s_nrm (s_callT call_tuple_of k_tuple rfl B.b_tuple (by decide +kernel) (sa_cons (s_callB (c_sortedA hr.u64) k_sortedA rfl B.b_sorted (by decide +kernel) (sa_cons (s_op o_add k_add (sv 7) (s_tup (sa_cons (sv 8) sa_nil))) sa_nil)) sa_nil)))))) k_name (pg_name (i := 6) S.nd rfl (by first | exact .inl rfl | exact .inr rfl)))))
      (b_one (s_asg (s_nrm (sv 6)) k_name (pg_name (i := 3) S.nd rfl (by first | exact .inl rfl | exact .inr rfl)))))))))
      (b_one (s_ret (s_lst (sa_cons (s_callT call_tuple_of k_tuple rfl B.b_tuple (by decide +kernel) (sa_cons (s_callB (c_sortedA hr.u64) k_sortedA rfl B.b_sorted (by decide +kernel) (sa_cons (sv 2) sa_nil)) sa_nil)) (sa_cons (s_callT call_tuple_of k_tuple rfl B.b_tuple (by decide +kernel) (sa_cons (s_callB (c_sortedA hr.u64) k_sortedA rfl B.b_sorted (by decide +kernel) (sa_cons (sv 3) sa_nil)) sa_nil)) sa_nil)))))))))
abbrev t_law : Stmt := topS 37
theorem sc_law : FnScope [(Str.ofString "script"), (Str.ofString "draws"), (Str.ofString "scenes"), (Str.ofString "k"), (Str.ofString "numbers"), (Str.ofString "why"), (Str.ofString "pairs"), (Str.ofString "scene")] [(Str.ofString "script")] (defScope t_law) := ⟨rfl, rfl, rfl, by decide +kernel, rfl, by decide +kernel, by decide +kernel⟩
set_option maxHeartbeats 3900000 in
theorem b_law {k : Nat} {F : FT} (B : Bi K mg) (G : Good P w K mg base sig k F) (fa : Addr) (cdv : Value) (A : Around) (outer : List PySem.Env) (s : Shared) (H : Hp) (E : XK) (hr : Room (3 * k + 2) (A.deeper (envOfC (Str.ofString "law") (defScope t_law) s.heap.objs.size fa cdv))) :
    SBlk (cxOf CX0 P w K mg base [(Str.ofString "script"), (Str.ofString "draws"), (Str.ofString "scenes"), (Str.ofString "k"), (Str.ofString "numbers"), (Str.ofString "why"), (Str.ofString "pairs"), (Str.ofString "scene")] (Str.ofString "law") (defScope t_law) fa cdv A outer s H E).nox (defBody t_law) (mb_law F) := by
  have S := sc_law
  unfold mb_law
  exact (b_cons (s_asg (s_nrm (s_call (G 14 _ _ rfl) (Room.low hr) rfl rfl (sa_cons (sv 0) (sa_cons s_int sa_nil)) (hgl := (al_cons (al_cons al_nil))))) k_name (pg_name (i := 1) S.nd rfl (by first | exact .inl rfl | exact .inr rfl)))
      (b_cons (s_asg (s_nrm (s_lst sa_nil)) k_name (pg_name (i := 2) S.nd rfl (by first | exact .inl rfl | exact .inr rfl)))
      (b_cons (s_for PassesOwn.never rfl (i_rng1 rfl B.b_range s_int) k_name (pg_name (i := 3) S.nd rfl (by first | exact .inl rfl | exact .inr rfl)) (b_cons (s_asg (s_nrm (s_call (G 26 _ _ rfl) (Room.low hr) rfl rfl (sa_cons (sv 1) sa_nil) (hgl := (al_cons al_nil)))) k_name (pg_name (i := 4) S.nd rfl (by first | exact .inl rfl | exact .inr rfl)))
      (b_cons (s_asg (s_nrm (s_call (G 25 _ _ rfl) (Room.low hr) rfl rfl (sa_cons (sv 1) (sa_cons (sv 4) sa_nil)) (hgl := (al_cons (al_cons al_nil))))) k_name (pg_name (i := 5) S.nd rfl (by first | exact .inl rfl | exact .inr rfl)))
      (b_one (s_expr (s_m .list PySem.F.plainAttrs_list PySem.F.slot_list_append PySem.F.type_list_append mt_append (sv 2) (sa_cons (s_lst (sa_cons (sv 5) (sa_cons (s_call (G 27 _ _ rfl) (Room.low hr) rfl rfl (sa_cons (sv 5) (sa_cons (sv 4) sa_nil)) (hgl := (al_cons (al_cons al_nil)))) sa_nil))) sa_nil) k_append))))))
      (b_cons (s_asg (s_nrm (s_call (G 29 _ _ rfl) (Room.low hr) rfl rfl (sa_cons (sv 1) sa_nil) (hgl := (al_cons al_nil)))) k_name (pg_name (i := 6) S.nd rfl (by first | exact .inl rfl | exact .inr rfl)))
      (b_cons (s_for PassesOwn.never rfl (i_seq (s_lst (sa_cons (s_ix (o_ix hr.u1) k_ix (sv 2) s_int) (sa_cons (s_ix (o_ix hr.u1) k_ix (sv 2) s_int) (sa_cons (sv 6) (sa_cons (s_ix (o_ix hr.u1) k_ix (sv 2) s_int) sa_nil)))))) k_name (pg_name (i := 7) S.nd rfl (by first | exact .inl rfl | exact .inr rfl)) (b_one (s_ifS (t_nrm (t_w (w_or (t_not (t_val (s_call (G 16 _ _ rfl) (Room.low hr) rfl rfl (sa_cons (s_call (G 12 _ _ rfl) (Room.low hr) rfl rfl (sa_cons (s_ix (o_ix hr.u1) k_ix (sv 7) s_int) sa_nil) (hgl := (al_cons al_nil))) (sa_cons (s_ix (o_ix hr.u1) k_ix (sv 7) s_int) sa_nil)) (hgl := (al_cons (al_cons al_nil)))))) (w_or1 (t_not (t_val (s_call (G 16 _ _ rfl) (Room.low hr) rfl rfl (sa_cons (s_call (G 13 _ _ rfl) (Room.low hr) rfl rfl (sa_cons (s_ix (o_ix hr.u1) k_ix (sv 7) s_int) sa_nil) (hgl := (al_cons al_nil))) (sa_cons (s_call (G 28 _ _ rfl) (Room.low hr) rfl rfl (sa_cons (s_ix (o_ix hr.u1) k_ix (sv 7) s_int) sa_nil) (hgl := (al_cons al_nil))) sa_nil)) (hgl := (al_cons (al_cons al_nil)))))))))) (b_one (s_ret s_bl)) b_nil)))
      (b_cons (s_for PassesOwn.never rfl (i_seq (sv 2)) k_name (pg_name (i := 7) S.nd rfl (by first | exact .inl rfl | exact .inr rfl)) (b_one (s_ifS (t_nrm (t_not (t_val (s_call (G 16 _ _ rfl) (Room.low hr) rfl rfl (sa_cons (s_call (G 12 _ _ rfl) (Room.low hr) rfl rfl (sa_cons (s_ix (o_ix hr.u1) k_ix (sv 7) s_int) sa_nil) (hgl := (al_cons al_nil))) (sa_cons (s_ix (o_ix hr.u1) k_ix (sv 7) s_int) sa_nil)) (hgl := (al_cons (al_cons al_nil))))))) (b_one (s_ret s_bl)) b_nil)))
      (b_one (s_ret s_bl))))))))
theorem g_law {k : Nat} {F : FT} (B : Bi K mg) (G : Good P w K mg base sig k F) (h : Dn K mg t_law (Str.ofString "law") [(Str.ofString "script")]) : Fx P w K mg base (3 * (k + 1)) 1 (m_law F) (Str.ofString "law") :=
  fx_ok h sc_law rfl rfl fun fa cdv A outer s H E hr => b_law B G fa cdv A outer s H E hr
theorem top_law {k : Nat} {F : FT} (B : Bi K mg) (G : Good P w K mg base sig k F) {fa : Addr} {fd : FuncData} (h : Fun K (Str.ofString "law") (Str.ofString "law") t_law fa fd) : FnOk P w K mg base CX0 (3 * (k + 1)) fa fd [(Str.ofString "script")] (spF K 1 (m_law F)) := by
  have r := f_ok (k := 3 * k + 2) (b := mb_law F) h sc_law (n := 1) (j := 7) rfl rfl fun cdv A outer s H E hr => b_law B G fa cdv A outer s H E hr
  exact r
structure Ds (K : PySem.W.Frag) (mg : Str → Option Value) : Prop where
  d_value_key : Dn K mg t_value_key (Str.ofString "value_key") [(Str.ofString "value")]
  d_row_key : Dn K mg t_row_key (Str.ofString "row_key") [(Str.ofString "row")]
  d_mark_key : Dn K mg t_mark_key (Str.ofString "mark_key") [(Str.ofString "mark")]
  d_pair_key : Dn K mg t_pair_key (Str.ofString "pair_key") [(Str.ofString "pair")]
  d_mask_size : Dn K mg t_mask_size (Str.ofString "mask_size") [(Str.ofString "mask")]
  d_places_of : Dn K mg t_places_of (Str.ofString "places_of") [(Str.ofString "mask")]
  d_ordered_parts : Dn K mg t_ordered_parts (Str.ofString "ordered_parts") [(Str.ofString "house"), (Str.ofString "members")]
  d_masks_of : Dn K mg t_masks_of (Str.ofString "masks_of") [(Str.ofString "members"), (Str.ofString "parts")]
  d_members_of : Dn K mg t_members_of (Str.ofString "members_of") [(Str.ofString "masks"), (Str.ofString "parts")]
  d_missed : Dn K mg t_missed (Str.ofString "missed") [(Str.ofString "supports"), (Str.ofString "chosen"), (Str.ofString "allowed")]
  d_has_idle : Dn K mg t_has_idle (Str.ofString "has_idle") [(Str.ofString "supports"), (Str.ofString "chosen")]
  d_cut_masks : Dn K mg t_cut_masks (Str.ofString "cut_masks") [(Str.ofString "supports")]
  d_cuts : Dn K mg t_cuts (Str.ofString "cuts") [(Str.ofString "why")]
  d_least_cut : Dn K mg t_least_cut (Str.ofString "least_cut") [(Str.ofString "why")]
  d__law_draws : Dn K mg t__law_draws (Str.ofString "_law_draws") [(Str.ofString "script"), (Str.ofString "many")]
  d__law_take : Dn K mg t__law_take (Str.ofString "_law_take") [(Str.ofString "draws"), (Str.ofString "many")]
  d__law_same : Dn K mg t__law_same (Str.ofString "_law_same") [(Str.ofString "actual"), (Str.ofString "due")]
  d__law_value_key : Dn K mg t__law_value_key (Str.ofString "_law_value_key") [(Str.ofString "value")]
  d__law_row_key : Dn K mg t__law_row_key (Str.ofString "_law_row_key") [(Str.ofString "row")]
  d__law_mark_key : Dn K mg t__law_mark_key (Str.ofString "_law_mark_key") [(Str.ofString "mark")]
  d__law_is_part : Dn K mg t__law_is_part (Str.ofString "_law_is_part") [(Str.ofString "small"), (Str.ofString "large")]
  d__law_pair_key : Dn K mg t__law_pair_key (Str.ofString "_law_pair_key") [(Str.ofString "pair")]
  d__law_reason_key : Dn K mg t__law_reason_key (Str.ofString "_law_reason_key") [(Str.ofString "reason")]
  d__law_member_key : Dn K mg t__law_member_key (Str.ofString "_law_member_key") [(Str.ofString "member")]
  d__law_thin : Dn K mg t__law_thin (Str.ofString "_law_thin") [(Str.ofString "members")]
  d__law_drawn_why : Dn K mg t__law_drawn_why (Str.ofString "_law_drawn_why") [(Str.ofString "draws"), (Str.ofString "numbers")]
  d__law_some_numbers : Dn K mg t__law_some_numbers (Str.ofString "_law_some_numbers") [(Str.ofString "draws")]
  d__law_cuts : Dn K mg t__law_cuts (Str.ofString "_law_cuts") [(Str.ofString "why"), (Str.ofString "numbers")]
  d__law_least : Dn K mg t__law_least (Str.ofString "_law_least") [(Str.ofString "due")]
  d__law_pairs : Dn K mg t__law_pairs (Str.ofString "_law_pairs") [(Str.ofString "draws")]
  d_law : Dn K mg t_law (Str.ofString "law") [(Str.ofString "script")]
theorem good0 (D0 : Ds K mg) : Good P w K mg base sig 0 (lvl tab 0) := fun j x n e => match j, e with
  | 0, e => by cases e; exact fx_none D0.d_value_key rfl
  | 1, e => by cases e; exact fx_none D0.d_row_key rfl
  | 2, e => by cases e; exact fx_none D0.d_mark_key rfl
  | 3, e => by cases e; exact fx_none D0.d_pair_key rfl
  | 4, e => by cases e; exact fx_none D0.d_mask_size rfl
  | 5, e => by cases e; exact fx_none D0.d_places_of rfl
  | 6, e => by cases e; exact fx_none D0.d_ordered_parts rfl
  | 7, e => by cases e; exact fx_none D0.d_masks_of rfl
  | 8, e => by cases e; exact fx_none D0.d_members_of rfl
  | 9, e => by cases e; exact fx_none D0.d_missed rfl
  | 10, e => by cases e; exact fx_none D0.d_has_idle rfl
  | 11, e => by cases e; exact fx_none D0.d_cut_masks rfl
  | 12, e => by cases e; exact fx_none D0.d_cuts rfl
  | 13, e => by cases e; exact fx_none D0.d_least_cut rfl
  | 14, e => by cases e; exact fx_none D0.d__law_draws rfl
  | 15, e => by cases e; exact fx_none D0.d__law_take rfl
  | 16, e => by cases e; exact fx_none D0.d__law_same rfl
  | 17, e => by cases e; exact fx_none D0.d__law_value_key rfl
  | 18, e => by cases e; exact fx_none D0.d__law_row_key rfl
  | 19, e => by cases e; exact fx_none D0.d__law_mark_key rfl
  | 20, e => by cases e; exact fx_none D0.d__law_is_part rfl
  | 21, e => by cases e; exact fx_none D0.d__law_pair_key rfl
  | 22, e => by cases e; exact fx_none D0.d__law_reason_key rfl
  | 23, e => by cases e; exact fx_none D0.d__law_member_key rfl
  | 24, e => by cases e; exact fx_none D0.d__law_thin rfl
  | 25, e => by cases e; exact fx_none D0.d__law_drawn_why rfl
  | 26, e => by cases e; exact fx_none D0.d__law_some_numbers rfl
  | 27, e => by cases e; exact fx_none D0.d__law_cuts rfl
  | 28, e => by cases e; exact fx_none D0.d__law_least rfl
  | 29, e => by cases e; exact fx_none D0.d__law_pairs rfl
  | 30, e => by cases e; exact fx_none D0.d_law rfl
  | j + 31, e => by simp [sig] at e
theorem goodS {k : Nat} (B : Bi K mg) (D0 : Ds K mg) (G : Good P w K mg base sig k (lvl tab k)) : Good P w K mg base sig (k + 1) (lvl tab (k + 1)) := fun j x n e => match j, e with
  | 0, e => by cases e; exact g_value_key B G D0.d_value_key
  | 1, e => by cases e; exact g_row_key B G D0.d_row_key
  | 2, e => by cases e; exact g_mark_key B G D0.d_mark_key
  | 3, e => by cases e; exact g_pair_key B G D0.d_pair_key
  | 4, e => by cases e; exact g_mask_size B G D0.d_mask_size
  | 5, e => by cases e; exact g_places_of B G D0.d_places_of
  | 6, e => by cases e; exact g_ordered_parts B G D0.d_ordered_parts
  | 7, e => by cases e; exact g_masks_of B G D0.d_masks_of
  | 8, e => by cases e; exact g_members_of B G D0.d_members_of
  | 9, e => by cases e; exact g_missed B G D0.d_missed
  | 10, e => by cases e; exact g_has_idle B G D0.d_has_idle
  | 11, e => by cases e; exact g_cut_masks B G D0.d_cut_masks
  | 12, e => by cases e; exact g_cuts B G D0.d_cuts
  | 13, e => by cases e; exact g_least_cut B G D0.d_least_cut
  | 14, e => by cases e; exact g__law_draws B G D0.d__law_draws
  | 15, e => by cases e; exact g__law_take B G D0.d__law_take
  | 16, e => by cases e; exact g__law_same B G D0.d__law_same
  | 17, e => by cases e; exact g__law_value_key B G D0.d__law_value_key
  | 18, e => by cases e; exact g__law_row_key B G D0.d__law_row_key
  | 19, e => by cases e; exact g__law_mark_key B G D0.d__law_mark_key
  | 20, e => by cases e; exact g__law_is_part B G D0.d__law_is_part
  | 21, e => by cases e; exact g__law_pair_key B G D0.d__law_pair_key
  | 22, e => by cases e; exact g__law_reason_key B G D0.d__law_reason_key
  | 23, e => by cases e; exact g__law_member_key B G D0.d__law_member_key
  | 24, e => by cases e; exact g__law_thin B G D0.d__law_thin
  | 25, e => by cases e; exact g__law_drawn_why B G D0.d__law_drawn_why
  | 26, e => by cases e; exact g__law_some_numbers B G D0.d__law_some_numbers
  | 27, e => by cases e; exact g__law_cuts B G D0.d__law_cuts
  | 28, e => by cases e; exact g__law_least B G D0.d__law_least
  | 29, e => by cases e; exact g__law_pairs B G D0.d__law_pairs
  | 30, e => by cases e; exact g_law B G D0.d_law
  | j + 31, e => by simp [sig] at e
theorem good (B : Bi K mg) (D0 : Ds K mg) : ∀ k, Good P w K mg base sig k (lvl tab k)
  | 0 => good0 D0
  | k + 1 => goodS B D0 (good B D0 k)
end
end K47
end

section
set_option linter.all false
namespace Dm
open PySem
/-! ## stepping through meanings -/
theorem zip_self_all {α : Type} (p : α × α → Bool) (h : ∀ x, p (x, x) = true) : ∀ l : List α, (l.zip l).all p = true
  | [] => rfl
  | x :: r => by rw [List.zip_cons_cons, List.all_cons, h, zip_self_all p h r]; rfl
theorem stb_app (m r : M) : stb m (m ++ r) = true := by
  unfold stb
  rw [Bool.and_eq_true]
  refine ⟨by simp, ?_⟩
  have e : m.zip (m ++ r) = m.zip m := by
    have h := List.zip_append (l₁ := m) (r₁ := []) (l₂ := m) (r₂ := r) rfl
    simpa using h
  rw [e]
  exact zip_self_all _ (fun x => by simp) m
theorem stb_self (m : M) : stb m m = true := by have h := stb_app m []; rwa [List.append_nil] at h
theorem stb_set {m m' : M} (l : Nat) {o : Ob} (ho : o.gr = true) (h : stb m m' = true) : stb m (m'.set l o) = true := by
  unfold stb at h ⊢
  rw [Bool.and_eq_true] at h ⊢
  refine ⟨by simpa using h.1, ?_⟩
  have h2 := h.2
  clear h
  induction m generalizing m' l with
  | nil => simp
  | cons a m ih =>
    cases m' with
    | nil => simp
    | cons b m' =>
      rw [List.zip_cons_cons, List.all_cons, Bool.and_eq_true] at h2
      cases l with
      | zero => rw [List.set_cons_zero, List.zip_cons_cons, List.all_cons, h2.2]; simp [ho]
      | succ l =>
        rw [List.set_cons_succ, List.zip_cons_cons, List.all_cons, ih l h2.2, h2.1]; rfl
theorem norm_gr {m m1 : M} {d : D} (hs : stb m m1 = true) (hd : d.gr = true) : norm m (d, m1) = (d, m1.take m.length) := by
  unfold norm
  rw [if_pos hs]
  cases d with
  | ref l => cases hd
  | _ => dsimp only; rw [if_pos hd]
theorem norm_new {m m1 : M} {l : Nat} {o : Ob} (hs : stb m m1 = true) (hl : m.length ≤ l) (ho : m1[l]? = some o) (hg : o.gr = true) : norm m (.ref l, m1) = (.ref m.length, m1.take m.length ++ [o]) := by
  unfold norm
  rw [if_pos hs]
  dsimp only
  rw [if_neg (by omega), ho]
  dsimp only
  rw [if_pos hg]
theorem norm_old {m m1 : M} {l : Nat} (hs : stb m m1 = true) (hl : l < m.length) : norm m (.ref l, m1) = (.ref l, m1.take m.length) := by
  unfold norm
  rw [if_pos hs]
  dsimp only
  rw [if_pos hl]
theorem take_app (m r : M) : (m ++ r).take m.length = m := by simp
theorem ints_gr (ns : List Int) : D.grL (ns.map .int) = true := by
  rw [grL_iff]
  intro x hx
  obtain ⟨i, _, rfl⟩ := List.mem_map.mp hx
  rfl
/-- what an expression gives, forgotten what isn't held -/
theorem nrm_gr {e : ES} {env : Dm.Env} {m r : M} {d : D} (h : e env m = some (d, m ++ r)) (hd : d.gr = true) : nrm e env m = some (d, m) := by
  unfold nrm
  rw [h, Option.map_some, norm_gr (stb_app m r) hd, take_app]
theorem nrm_gr0 {e : ES} {env : Dm.Env} {m : M} {d : D} (h : e env m = some (d, m)) (hd : d.gr = true) : nrm e env m = some (d, m) := nrm_gr (r := []) (by rw [h, List.append_nil]) hd
theorem nrm_new {e : ES} {env : Dm.Env} {m r : M} {i : Nat} {o : Ob} (h : e env m = some (.ref (m.length + i), m ++ r)) (ho : r[i]? = some o) (hg : o.gr = true) : nrm e env m = some (.ref m.length, m ++ [o]) := by
  unfold nrm
  rw [h, Option.map_some, norm_new (stb_app m r) (Nat.le_add_right _ _) (by rw [List.getElem?_append_right (Nat.le_add_right _ _), Nat.add_sub_cancel_left]; exact ho) hg, take_app]
theorem nrm_old {e : ES} {env : Dm.Env} {m r : M} {l : Nat} (h : e env m = some (.ref l, m ++ r)) (hl : l < m.length) : nrm e env m = some (.ref l, m) := by
  unfold nrm
  rw [h, Option.map_some, norm_old (stb_app m r) hl, take_app]
/-- and of a def -/
theorem fn_ret {n j : Nat} {b : SS} {args : List D} {m m1 : M} {d : D} (h : b (args.map some ++ List.replicate j none) m = some (.rt d, m1)) (ha : args.length = n := by rfl) : fnS n j b args m = some (norm m (d, m1)) := by
  unfold fnS
  rw [if_pos ha, h]
theorem fn_gr {n j : Nat} {b : SS} {args : List D} {m r : M} {d : D} (h : b (args.map some ++ List.replicate j none) m = some (.rt d, m ++ r)) (hd : d.gr = true) (ha : args.length = n := by rfl) : fnS n j b args m = some (d, m) := by
  rw [fn_ret h ha, norm_gr (stb_app m r) hd, take_app]
theorem fn_new {n j : Nat} {b : SS} {args : List D} {m r : M} {i : Nat} {o : Ob} (h : b (args.map some ++ List.replicate j none) m = some (.rt (.ref (m.length + i)), m ++ r)) (ho : r[i]? = some o) (hg : o.gr = true) (ha : args.length = n := by rfl) : fnS n j b args m = some (.ref m.length, m ++ [o]) := by
  rw [fn_ret h ha, norm_new (stb_app m r) (Nat.le_add_right _ _) (by rw [List.getElem?_append_right (Nat.le_add_right _ _), Nat.add_sub_cancel_left]; exact ho) hg, take_app]
/-! ## places behind a memory -/
theorem get_app (m r : M) (i : Nat) : (m ++ r)[m.length + i]? = r[i]? := by rw [List.getElem?_append_right (Nat.le_add_right _ _), Nat.add_sub_cancel_left]
theorem get_app0 (m r : M) : (m ++ r)[m.length]? = r[0]? := get_app m r 0
theorem get_old {m : M} {l : Nat} {o : Ob} (h : m[l]? = some o) (r : M) : (m ++ r)[l]? = some o := by
  rw [List.getElem?_append_left (List.getElem?_eq_some_iff.mp h).1]; exact h
theorem set_app (m r : M) (i : Nat) (o : Ob) : (m ++ r).set (m.length + i) o = m ++ r.set i o := by rw [List.set_append_right (m.length + i) _ (Nat.le_add_right _ _), Nat.add_sub_cancel_left]
theorem set_app0 (m r : M) (o : Ob) : (m ++ r).set m.length o = m ++ r.set 0 o := set_app m r 0 o
/-! ## statements -/
theorem seq_nx {a b : SS} {env e1 : Dm.Env} {m m1 : M} (h : a env m = some (.nx e1, m1)) : sSeq a b env m = b e1 m1 := by unfold sSeq; rw [h]
theorem seq_rt {a b : SS} {env : Dm.Env} {m m1 : M} {d : D} (h : a env m = some (.rt d, m1)) : sSeq a b env m = some (.rt d, m1) := by unfold sSeq; rw [h]
theorem seq_ct {a b : SS} {env e1 : Dm.Env} {m m1 : M} (h : a env m = some (.ct e1, m1)) : sSeq a b env m = some (.ct e1, m1) := by unfold sSeq; rw [h]
theorem asg_nm {e : ES} {i : Nat} {env : Dm.Env} {m m1 : M} {d : D} (h : e env m = some (d, m1)) : sAsg (tName i) e env m = some (.nx (env.set i (some d)), m1) := by unfold sAsg tName; rw [h]
theorem expr_nx {e : ES} {env : Dm.Env} {m m1 : M} {d : D} (h : e env m = some (d, m1)) : sExpr e env m = some (.nx env, m1) := by unfold sExpr; rw [h]
theorem ret_rt {e : ES} {env : Dm.Env} {m m1 : M} {d : D} (h : e env m = some (d, m1)) : sRet e env m = some (.rt d, m1) := by unfold sRet; rw [h]
theorem if_t {t : ES} {a b : SS} {env : Dm.Env} {m m1 : M} (h : t env m = some (.bl true, m1)) : sIf t a b env m = a env m1 := by unfold sIf; rw [h]
theorem if_f {t : ES} {a b : SS} {env : Dm.Env} {m m1 : M} (h : t env m = some (.bl false, m1)) : sIf t a b env m = b env m1 := by unfold sIf; rw [h]
theorem if_b {t : ES} {a b : SS} {env : Dm.Env} {m m1 : M} {c : Bool} (h : t env m = some (.bl c, m1)) : sIf t a b env m = if c = true then a env m1 else b env m1 := by
  cases c
  · rw [if_f h]; rfl
  · rw [if_t h]; rfl
theorem for_go {it : IS} {tg : Tgt} {b : SS} {env : Dm.Env} {m m1 : M} {ds : List D} {gd : Gd} (h : it env m = some (ds, gd, m1)) : sFor it tg b env m = forGo gd tg b ds env m1 := by unfold sFor; rw [h]
theorem for_nil {gd : Gd} {tg : Tgt} {b : SS} {env : Dm.Env} {m : M} (hg : gdOk gd m = true) : forGo gd tg b [] env m = some (.nx env, m) := by unfold forGo; rw [if_pos hg]
theorem for_cons {gd : Gd} {tg : Tgt} {b : SS} {env e1 e2 : Env} {m m2 : M} {d : D} {ds : List D} (hg : gdOk gd m = true) (ht : tg d env = some e1) (hb : b e1 m = some (.nx e2, m2)) : forGo gd tg b (d :: ds) env m = forGo gd tg b ds e2 m2 := by
  rw [forGo, if_pos hg, ht]; dsimp only; rw [hb]
theorem for_rt {gd : Gd} {tg : Tgt} {b : SS} {env e1 : Dm.Env} {m m2 : M} {d r : D} {ds : List D} (hg : gdOk gd m = true) (ht : tg d env = some e1) (hb : b e1 m = some (.rt r, m2)) : forGo gd tg b (d :: ds) env m = some (.rt r, m2) := by
  rw [forGo, if_pos hg, ht]; dsimp only; rw [hb]
theorem wh_t {t : ES} {b : SS} {n : Nat} {env e2 : Env} {m m1 m2 : M} (h : t env m = some (.bl true, m1)) (hb : b env m1 = some (.nx e2, m2)) : whGo t b (n + 1) env m = whGo t b n e2 m2 := by
  rw [whGo, h]; dsimp only; rw [hb]
theorem wh_tc {t : ES} {b : SS} {n : Nat} {env e2 : Env} {m m1 m2 : M} (h : t env m = some (.bl true, m1)) (hb : b env m1 = some (.ct e2, m2)) : whGo t b (n + 1) env m = whGo t b n e2 m2 := by
  rw [whGo, h]; dsimp only; rw [hb]
theorem wh_f {t : ES} {b : SS} {n : Nat} {env : Dm.Env} {m m1 : M} (h : t env m = some (.bl false, m1)) : whGo t b (n + 1) env m = some (.nx env, m1) := by
  rw [whGo, h]
/-! ## expressions -/
theorem v_at {i : Nat} {env : Dm.Env} {m : M} {d : D} (h : env[i]? = some (some d)) : eVar i env m = some (d, m) := by unfold eVar; rw [h]
theorem c_at {d : D} {env : Dm.Env} {m : M} : eC d env m = some (d, m) := rfl
theorem a_nil {env : Dm.Env} {m : M} : aNil env m = some ([], m) := rfl
theorem a_cons {e : ES} {r : LS} {env : Dm.Env} {m m1 m2 : M} {d : D} {ds : List D} (h : e env m = some (d, m1)) (h2 : r env m1 = some (ds, m2)) : aCons e r env m = some (d :: ds, m2) := by unfold aCons; rw [h]; dsimp only; rw [h2]
theorem a_one {e : ES} {env : Dm.Env} {m m1 : M} {d : D} (h : e env m = some (d, m1)) : aCons e aNil env m = some ([d], m1) := a_cons h rfl
theorem tup_at {a : LS} {env : Dm.Env} {m m1 : M} {ds : List D} (h : a env m = some (ds, m1)) (hl : ds.length ≤ lineN) : eTup a env m = some (.tup ds, m1) := by unfold eTup; rw [h]; dsimp only; rw [if_pos hl]
theorem lst_at {a : LS} {env : Dm.Env} {m m1 : M} {ds : List D} (h : a env m = some (ds, m1)) (hl : ds.length ≤ lineN) : eLst a env m = some (.ref m1.length, m1 ++ [.lst ds]) := by unfold eLst; rw [h]; dsimp only; rw [if_pos hl]
theorem op_at {f : D → D → M → Option (D × M)} {a b : ES} {env : Dm.Env} {m m1 m2 : M} {x y : D} (h : a env m = some (x, m1)) (h2 : b env m1 = some (y, m2)) : eOp f a b env m = f x y m2 := by unfold eOp; rw [h]; dsimp only; rw [h2]
theorem un_at {f : D → M → Option (D × M)} {a : ES} {env : Dm.Env} {m m1 : M} {x : D} (h : a env m = some (x, m1)) : eUn f a env m = f x m1 := by unfold eUn; rw [h]
theorem prim_at {f : List D → M → Option (D × M)} {a : LS} {env : Dm.Env} {m m1 : M} {ds : List D} (h : a env m = some (ds, m1)) : ePrim f a env m = f ds m1 := by unfold ePrim; rw [h]
theorem meth_at {t : Ty} {f : D → List D → M → Option (D × M)} {o : ES} {a : LS} {env : Dm.Env} {m m1 m2 : M} {x : D} {ds : List D} (h : o env m = some (x, m1)) (hr : rcv m1 t x = true) (h2 : a env m1 = some (ds, m2)) : eMeth t f o a env m = f x ds m2 := by unfold eMeth; rw [h]; dsimp only; rw [if_pos hr, h2]
theorem seq_ref {e : ES} {env : Dm.Env} {m m1 : M} {l : Nat} {xs : List D} (h : e env m = some (.ref l, m1)) (hm : m1[l]? = some (.lst xs)) : iSeq e env m = some (xs, [(l, .lst xs)], m1) := by unfold iSeq; rw [h]; dsimp only [seqG]; rw [hm]; rfl
theorem seq_tup {e : ES} {env : Dm.Env} {m m1 : M} {xs : List D} (h : e env m = some (.tup xs, m1)) : iSeq e env m = some (xs, [], m1) := by unfold iSeq; rw [h]; rfl
theorem rng1_at {e : ES} {env : Dm.Env} {m m1 : M} {j : Int} (h : e env m = some (.int j, m1)) (h1 : -p62 ≤ j) (h2 : j < p62) : iRng1 e env m = some (rng 0 j, [], m1) := by unfold iRng1; rw [h]; dsimp only; rw [if_pos ⟨h1, h2⟩]
/-! ## list comprehensions -/
theorem gd_nil (m : M) : gdOk [] m = true := rfl
theorem gd_one {m : M} {l : Nat} {o : Ob} (h : m[l]? = some o) : gdOk [(l, o)] m = true := by simp [gdOk, h]
theorem lc_go {gd : Gd} {tg : Tgt} {tt elt : ES} {env : Dm.Env} {m : M} (p : D → Bool) (f : D → D) (hg : gdOk gd m = true) : ∀ (ds : List D) (acc : List D), (∀ d ∈ ds, ∃ e1, tg d env = some e1 ∧ tt e1 m = some (.bl (p d), m) ∧ (p d = true → elt e1 m = some (f d, m))) → acc.length + ds.length ≤ lineN →
    lcGo gd tg tt elt env ds acc m = some (acc ++ (ds.filter p).map f, m)
  | [], acc, _, _ => by rw [lcGo, if_pos hg]; simp
  | d :: ds, acc, h, hl => by
    obtain ⟨e1, h1, h2, h3⟩ := h d List.mem_cons_self
    rw [List.length_cons] at hl
    rw [lcGo, if_pos hg, h1]
    dsimp only
    rw [h2]
    cases hp : p d with
    | true =>
      dsimp only
      rw [h3 hp]
      dsimp only
      rw [if_pos (by omega), lc_go p f hg ds _ (fun x hx => h x (List.mem_cons_of_mem _ hx)) (by rw [List.length_append]; simp; omega), List.filter_cons, if_pos hp]
      simp
    | false =>
      dsimp only
      rw [lc_go p f hg ds _ (fun x hx => h x (List.mem_cons_of_mem _ hx)) (by omega), List.filter_cons, if_neg (by rw [hp]; simp)]
theorem lc_at {own : List Nat} {it : IS} {tg : Tgt} {tt elt : ES} {env : Dm.Env} {m m1 : M} {ds : List D} {gd : Gd} (p : D → Bool) (f : D → D) (hi : it env m = some (ds, gd, m1)) (hg : gdOk gd m1 = true) (h : ∀ d ∈ ds, ∃ e1, tg d (wipeE env own) = some e1 ∧ tt e1 m1 = some (.bl (p d), m1) ∧ (p d = true → elt e1 m1 = some (f d, m1))) (hl : ds.length ≤ lineN) :
    eLc own it tg tt elt env m = some (.ref m1.length, m1 ++ [.lst ((ds.filter p).map f)]) := by
  unfold eLc
  rw [hi]
  dsimp only
  rw [lc_go p f hg ds [] h (by simpa using hl)]
  simp
/-- no test -/
theorem lc_map {own : List Nat} {it : IS} {tg : Tgt} {elt : ES} {env : Dm.Env} {m m1 : M} {ds : List D} {gd : Gd} (f : D → D) (hi : it env m = some (ds, gd, m1)) (hg : gdOk gd m1 = true) (h : ∀ d ∈ ds, ∃ e1, tg d (wipeE env own) = some e1 ∧ elt e1 m1 = some (f d, m1)) (hl : ds.length ≤ lineN) :
    eLc own it tg (eC (.bl true)) elt env m = some (.ref m1.length, m1 ++ [.lst (ds.map f)]) := by
  rw [lc_at (fun _ => true) f hi hg (fun d hd => let ⟨e1, h1, h2⟩ := h d hd; ⟨e1, h1, rfl, fun _ => h2⟩) hl, List.filter_eq_self.mpr fun _ _ => rfl]
/-- a new thing for each item -/
theorem lc_new_go {gd : Gd} {tg : Tgt} {elt : ES} {env : Dm.Env} (ob : D → Ob) : ∀ (ds : List D) (acc : List D) (m : M), (∀ r, gdOk gd (m ++ r) = true) → (∀ d ∈ ds, ∀ r, ∃ e1, tg d env = some e1 ∧ elt e1 (m ++ r) = some (.ref (m ++ r).length, m ++ r ++ [ob d])) → acc.length + ds.length ≤ lineN →
    lcGo gd tg (eC (.bl true)) elt env ds acc m = some (acc ++ (List.range ds.length).map fun i => D.ref (m.length + i), m ++ ds.map ob)
  | [], acc, m, hg, _, _ => by rw [lcGo, if_pos (by have := hg []; rwa [List.append_nil] at this)]; simp
  | d :: ds, acc, m, hg, h, hl => by
    obtain ⟨e1, h1, h2⟩ := h d List.mem_cons_self []
    rw [List.append_nil] at h2
    rw [List.length_cons] at hl
    rw [lcGo, if_pos (by have := hg []; rwa [List.append_nil] at this), h1]
    dsimp only
    rw [c_at]
    dsimp only
    rw [h2]
    dsimp only
    rw [if_pos (by omega), lc_new_go ob ds _ _ (fun r => by rw [List.append_assoc]; exact hg _) (fun x hx r => by rw [List.append_assoc]; exact h x (List.mem_cons_of_mem _ hx) _) (by rw [List.length_append]; simp; omega)]
    simp only [Option.some.injEq, Prod.mk.injEq]
    refine ⟨?_, by simp⟩
    rw [List.length_cons, List.range_succ_eq_map, List.map_cons, List.map_map, List.append_assoc, List.singleton_append]
    congr 1
    rw [Nat.add_zero]
    congr 1
    apply List.map_congr_left
    intro i _
    simp
    omega
theorem lc_new {own : List Nat} {it : IS} {tg : Tgt} {elt : ES} {env : Dm.Env} {m m1 : M} {ds : List D} {gd : Gd} (ob : D → Ob) (hi : it env m = some (ds, gd, m1)) (hg : ∀ r, gdOk gd (m1 ++ r) = true) (h : ∀ d ∈ ds, ∀ r, ∃ e1, tg d (wipeE env own) = some e1 ∧ elt e1 (m1 ++ r) = some (.ref (m1 ++ r).length, m1 ++ r ++ [ob d])) (hl : ds.length ≤ lineN) :
    eLc own it tg (eC (.bl true)) elt env m = some (.ref (m1.length + ds.length), m1 ++ ds.map ob ++ [.lst ((List.range ds.length).map fun i => D.ref (m1.length + i))]) := by
  unfold eLc
  rw [hi]
  dsimp only
  rw [lc_new_go ob ds [] m1 hg h (by simpa using hl)]
  simp
end Dm
namespace Dm
open PySem
theorem op_to {f : D → D → M → Option (D × M)} {a b : ES} {env : Dm.Env} {m m1 m2 : M} {x y : D} {r : D × M} (h : a env m = some (x, m1)) (h2 : b env m1 = some (y, m2)) (h3 : f x y m2 = some r) : eOp f a b env m = some r := (op_at h h2).trans h3
theorem un_to {f : D → M → Option (D × M)} {a : ES} {env : Dm.Env} {m m1 : M} {x : D} {r : D × M} (h : a env m = some (x, m1)) (h3 : f x m1 = some r) : eUn f a env m = some r := (un_at h).trans h3
theorem prim_to {f : List D → M → Option (D × M)} {a : LS} {env : Dm.Env} {m m1 : M} {ds : List D} {r : D × M} (h : a env m = some (ds, m1)) (h3 : f ds m1 = some r) : ePrim f a env m = some r := (prim_at h).trans h3
theorem meth_to {t : Ty} {f : D → List D → M → Option (D × M)} {o : ES} {a : LS} {env : Dm.Env} {m m1 m2 : M} {x : D} {ds : List D} {r : D × M} (h : o env m = some (x, m1)) (hr : rcv m1 t x = true) (h2 : a env m1 = some (ds, m2)) (h3 : f x ds m2 = some r) : eMeth t f o a env m = some r := (meth_at h hr h2).trans h3
theorem sq {a b : SS} {env e1 : Dm.Env} {m m1 : M} {r : Out × M} (h : a env m = some (.nx e1, m1)) (h2 : b e1 m1 = some r) : sSeq a b env m = some r := (seq_nx h).trans h2
theorem ift {t : ES} {a b : SS} {env : Dm.Env} {m m1 : M} {r : Out × M} (h : t env m = some (.bl true, m1)) (h2 : a env m1 = some r) : sIf t a b env m = some r := (if_t h).trans h2
theorem iff' {t : ES} {a b : SS} {env : Dm.Env} {m m1 : M} {r : Out × M} (h : t env m = some (.bl false, m1)) (h2 : b env m1 = some r) : sIf t a b env m = some r := (if_f h).trans h2
theorem frq {it : IS} {tg : Tgt} {b : SS} {env : Dm.Env} {m m1 : M} {ds : List D} {gd : Gd} {r : Out × M} (h : it env m = some (ds, gd, m1)) (h2 : forGo gd tg b ds env m1 = some r) : sFor it tg b env m = some r := (for_go h).trans h2
theorem whq {t : ES} {b : SS} {n : Nat} {env e2 : Env} {m m1 m2 : M} {r : Out × M} (h : t env m = some (.bl true, m1)) (hb : b env m1 = some (.nx e2, m2)) (h2 : whGo t b n e2 m2 = some r) : whGo t b (n + 1) env m = some r := (wh_t h hb).trans h2
theorem whc {t : ES} {b : SS} {n : Nat} {env e2 : Env} {m m1 m2 : M} {r : Out × M} (h : t env m = some (.bl true, m1)) (hb : b env m1 = some (.ct e2, m2)) (h2 : whGo t b n e2 m2 = some r) : whGo t b (n + 1) env m = some r := (wh_tc h hb).trans h2
theorem fcq {gd : Gd} {tg : Tgt} {b : SS} {env e1 e2 : Env} {m m2 : M} {d : D} {ds : List D} {r : Out × M} (hg : gdOk gd m = true) (ht : tg d env = some e1) (hb : b e1 m = some (.nx e2, m2)) (h2 : forGo gd tg b ds e2 m2 = some r) : forGo gd tg b (d :: ds) env m = some r := (for_cons hg ht hb).trans h2
theorem fct {gd : Gd} {tg : Tgt} {b : SS} {env e1 e2 : Env} {m m2 : M} {d : D} {ds : List D} {r : Out × M} (hg : gdOk gd m = true) (ht : tg d env = some e1) (hb : b e1 m = some (.ct e2, m2)) (h2 : forGo gd tg b ds e2 m2 = some r) : forGo gd tg b (d :: ds) env m = some r := by
  rw [forGo, if_pos hg, ht]; dsimp only; rw [hb]; exact h2
end Dm
namespace Dm
open PySem
theorem fn_new0 {n j : Nat} {b : SS} {args : List D} {m r : M} {o : Ob} (h : b (args.map some ++ List.replicate j none) m = some (.rt (.ref m.length), m ++ o :: r)) (hg : o.gr = true) (ha : args.length = n := by rfl) : fnS n j b args m = some (.ref m.length, m ++ [o]) := fn_new (i := 0) (r := o :: r) h rfl hg ha
theorem nrm_new0 {e : ES} {env : Dm.Env} {m r : M} {o : Ob} (h : e env m = some (.ref m.length, m ++ o :: r)) (hg : o.gr = true) : nrm e env m = some (.ref m.length, m ++ [o]) := nrm_new (i := 0) (r := o :: r) h rfl hg
end Dm
namespace Dm
open PySem
theorem nrm_mut {e : ES} {env : Dm.Env} {m m1 : M} {d : D} (h : e env m = some (d, m1)) (hs : stb m m1 = true) (hl : m1.length = m.length) (hd : d.gr = true) : nrm e env m = some (d, m1) := by
  unfold nrm
  rw [h, Option.map_some, norm_gr hs hd, ← hl, List.take_length]
theorem asg_t {e : ES} {t : Tgt} {env e1 : Dm.Env} {m m1 : M} {d : D} (h : e env m = some (d, m1)) (ht : t d env = some e1) : sAsg t e env m = some (.nx e1, m1) := by unfold sAsg; rw [h]; dsimp only; rw [ht]
theorem len_lst {m : M} {l : Nat} {xs : List D} (h : m[l]? = some (.lst xs)) : pLen [.ref l] m = some (.int xs.length, m) := by simp only [pLen, h]
theorem pop_at {m : M} {l : Nat} {xs : List D} {y : D} (h : m[l]? = some (.lst (xs ++ [y]))) : mPop (.ref l) [] m = some (y, m.set l (.lst xs)) := by
  unfold mPop; dsimp only; rw [h]; dsimp only
  rw [List.length_append, List.length_singleton, Nat.add_sub_cancel, List.getElem?_append_right (Nat.le_refl _), Nat.sub_self]
  simp
end Dm
namespace Dm
open PySem
theorem lc_goL {α : Type} {gd : Gd} {tg : Tgt} {tt elt : ES} {env : Dm.Env} {m : M} (g f : α → D) (p : α → Bool) (hg : gdOk gd m = true) : ∀ (L : List α) (acc : List D), (∀ a ∈ L, ∃ e1, tg (g a) env = some e1 ∧ tt e1 m = some (.bl (p a), m) ∧ (p a = true → elt e1 m = some (f a, m))) → acc.length + L.length ≤ lineN →
    lcGo gd tg tt elt env (L.map g) acc m = some (acc ++ (L.filter p).map f, m)
  | [], acc, _, _ => by rw [List.map_nil, lcGo, if_pos hg]; simp
  | d :: L, acc, h, hl => by
    obtain ⟨e1, h1, h2, h3⟩ := h d List.mem_cons_self
    rw [List.length_cons] at hl
    rw [List.map_cons, lcGo, if_pos hg, h1]
    dsimp only
    rw [h2]
    cases hp : p d with
    | true =>
      dsimp only
      rw [h3 hp]
      dsimp only
      rw [if_pos (by omega), lc_goL g f p hg L _ (fun x hx => h x (List.mem_cons_of_mem _ hx)) (by rw [List.length_append]; simp; omega), List.filter_cons, if_pos hp]
      simp
    | false =>
      dsimp only
      rw [lc_goL g f p hg L _ (fun x hx => h x (List.mem_cons_of_mem _ hx)) (by omega), List.filter_cons, if_neg (by rw [hp]; simp)]
theorem lcF {α : Type} {own : List Nat} {it : IS} {tg : Tgt} {tt elt : ES} {env : Dm.Env} {m m1 : M} {gd : Gd} (L : List α) (g f : α → D) (p : α → Bool) (hi : it env m = some (L.map g, gd, m1)) (hg : gdOk gd m1 = true) (h : ∀ a ∈ L, ∃ e1, tg (g a) (wipeE env own) = some e1 ∧ tt e1 m1 = some (.bl (p a), m1) ∧ (p a = true → elt e1 m1 = some (f a, m1))) (hl : L.length ≤ lineN) :
    eLc own it tg tt elt env m = some (.ref m1.length, m1 ++ [.lst ((L.filter p).map f)]) := by
  unfold eLc
  rw [hi]
  dsimp only
  rw [lc_goL g f p hg L [] h (by simpa using hl)]
  simp
theorem lcM {α : Type} {own : List Nat} {it : IS} {tg : Tgt} {elt : ES} {env : Dm.Env} {m m1 : M} {gd : Gd} (L : List α) (g f : α → D) (hi : it env m = some (L.map g, gd, m1)) (hg : gdOk gd m1 = true) (h : ∀ a ∈ L, ∃ e1, tg (g a) (wipeE env own) = some e1 ∧ elt e1 m1 = some (f a, m1)) (hl : L.length ≤ lineN) :
    eLc own it tg (eC (.bl true)) elt env m = some (.ref m1.length, m1 ++ [.lst (L.map f)]) := by
  rw [lcF L g f (fun _ => true) hi hg (fun a ha => let ⟨e1, h1, h2⟩ := h a ha; ⟨e1, h1, rfl, fun _ => h2⟩) hl, List.filter_eq_self.mpr fun _ _ => rfl]
theorem lc_newGo {α : Type} {gd : Gd} {tg : Tgt} {elt : ES} {env : Dm.Env} (g : α → D) (ob : α → Ob) : ∀ (L : List α) (acc : List D) (m : M), (∀ r, gdOk gd (m ++ r) = true) → (∀ d ∈ L, ∀ r, ∃ e1, tg (g d) env = some e1 ∧ elt e1 (m ++ r) = some (.ref (m ++ r).length, m ++ r ++ [ob d])) → acc.length + L.length ≤ lineN →
    lcGo gd tg (eC (.bl true)) elt env (L.map g) acc m = some (acc ++ (List.range L.length).map fun i => D.ref (m.length + i), m ++ L.map ob)
  | [], acc, m, hg, _, _ => by rw [List.map_nil, lcGo, if_pos (by have := hg []; rwa [List.append_nil] at this)]; simp
  | d :: L, acc, m, hg, h, hl => by
    obtain ⟨e1, h1, h2⟩ := h d List.mem_cons_self []
    rw [List.append_nil] at h2
    rw [List.length_cons] at hl
    rw [List.map_cons, lcGo, if_pos (by have := hg []; rwa [List.append_nil] at this), h1]
    dsimp only
    rw [c_at]
    dsimp only
    rw [h2]
    dsimp only
    rw [if_pos (by omega), lc_newGo g ob L _ _ (fun r => by rw [List.append_assoc]; exact hg _) (fun x hx r => by rw [List.append_assoc]; exact h x (List.mem_cons_of_mem _ hx) _) (by rw [List.length_append]; simp; omega)]
    simp only [Option.some.injEq, Prod.mk.injEq]
    refine ⟨?_, by simp⟩
    rw [List.length_cons, List.range_succ_eq_map, List.map_cons, List.map_map, List.append_assoc, List.singleton_append]
    congr 1
    rw [Nat.add_zero]
    congr 1
    apply List.map_congr_left
    intro i _
    simp
    omega
theorem lcN {α : Type} {own : List Nat} {it : IS} {tg : Tgt} {elt : ES} {env : Dm.Env} {m m1 : M} {gd : Gd} (L : List α) (g : α → D) (ob : α → Ob) (hi : it env m = some (L.map g, gd, m1)) (hg : ∀ r, gdOk gd (m1 ++ r) = true) (h : ∀ d ∈ L, ∀ r, ∃ e1, tg (g d) (wipeE env own) = some e1 ∧ elt e1 (m1 ++ r) = some (.ref (m1 ++ r).length, m1 ++ r ++ [ob d])) (hl : L.length ≤ lineN) :
    eLc own it tg (eC (.bl true)) elt env m = some (.ref (m1.length + L.length), m1 ++ L.map ob ++ [.lst ((List.range L.length).map fun i => D.ref (m1.length + i))]) := by
  unfold eLc
  rw [hi]
  dsimp only
  rw [lc_newGo g ob L [] m1 hg h (by simpa using hl)]
  simp
end Dm
end

section
set_option linter.all false
namespace Bits
/-- the places of the bits, from the least -/
def places (n : Nat) : List Nat := if h : n = 0 then [] else (if n % 2 = 1 then [0] else []) ++ (places (n / 2)).map (· + 1)
termination_by n
decreasing_by omega
theorem places_zero : places 0 = [] := by rw [places]; rfl
theorem mem_places : ∀ (n i : Nat), i ∈ places n ↔ n.testBit i = true := by
  intro n
  induction n using Nat.strongRecOn with -- k47
  | ind n ih =>
    intro i
    rw [places]
    split
    · rename_i h; subst h; simp
    · rename_i h
      rw [List.mem_append, List.mem_map]
      cases i with
      | zero =>
        rw [Nat.testBit_zero]
        constructor
        · rintro (h1 | ⟨j, _, hj⟩)
          · split at h1
            · simpa using ‹n % 2 = 1›
            · simp at h1
          · omega
        · intro h1
          left
          rw [if_pos (by simpa using h1)]
          simp
      | succ i =>
        rw [Nat.testBit_succ, ← ih (n / 2) (by omega)]
        constructor
        · rintro (h1 | ⟨j, hj, e⟩)
          · split at h1 <;> simp at h1
          · have : j = i := by omega
            subst this; exact hj
        · intro h1
          exact .inr ⟨i, h1, rfl⟩
theorem places_sorted : ∀ n : Nat, (places n).Pairwise (· < ·) := by
  intro n
  induction n using Nat.strongRecOn with -- k47
  | ind n ih =>
    rw [places]
    split
    · exact .nil
    · rename_i h
      rw [List.pairwise_append]
      refine ⟨by split <;> simp, ?_, ?_⟩
      · rw [List.pairwise_map]
        exact (ih (n / 2) (by omega)).imp fun h => by omega
      · intro a ha b hb
        obtain ⟨j, _, rfl⟩ := List.mem_map.mp hb
        split at ha
        · have : a = 0 := by simpa using ha
          omega
        · simp at ha
/-- how many bits -/
def pc (n : Nat) : Nat := (places n).length
theorem and_pred_even (q : Nat) (h : 0 < q) : (2 * q) &&& (2 * q - 1) = 2 * (q &&& (q - 1)) := by
  apply Nat.eq_of_testBit_eq
  intro i
  cases i with
  | zero => simp [Nat.testBit_zero, Nat.testBit_and]
  | succ i =>
    rw [Nat.testBit_and, Nat.testBit_succ, Nat.testBit_succ, Nat.testBit_succ]
    have e1 : 2 * q / 2 = q := by omega
    have e2 : (2 * q - 1) / 2 = q - 1 := by omega
    have e3 : 2 * (q &&& (q - 1)) / 2 = q &&& (q - 1) := by omega
    rw [e1, e2, e3, Nat.testBit_and]
theorem and_pred_odd (q : Nat) : (2 * q + 1) &&& (2 * q + 1 - 1) = 2 * q := by
  apply Nat.eq_of_testBit_eq
  intro i
  cases i with
  | zero => simp [Nat.testBit_zero, Nat.testBit_and]
  | succ i =>
    rw [Nat.testBit_and, Nat.testBit_succ, Nat.testBit_succ]
    have e1 : (2 * q + 1) / 2 = q := by omega
    have e2 : (2 * q + 1 - 1) / 2 = q := by omega
    have e3 : 2 * q / 2 = q := by omega
    rw [e1, e2, Nat.testBit_succ, e3, Bool.and_self]
/-- the lowest bit -/
theorem low_bit : ∀ n : Nat, 0 < n → ∃ t, n - (n &&& (n - 1)) = 2 ^ t ∧ (n &&& (n - 1)) ≤ n ∧ n ^^^ 2 ^ t = n &&& (n - 1) ∧ places n = t :: places (n &&& (n - 1)) := by
  intro n
  induction n using Nat.strongRecOn with -- k47
  | ind n ih =>
    intro h
    by_cases hp : n % 2 = 1
    · obtain ⟨q, rfl⟩ : ∃ q, n = 2 * q + 1 := ⟨n / 2, by omega⟩
      rw [and_pred_odd]
      refine ⟨0, by simp, by omega, ?_, ?_⟩
      · apply Nat.eq_of_testBit_eq
        intro i
        cases i with
        | zero => simp [Nat.testBit_zero, Nat.testBit_xor]
        | succ i =>
          rw [Nat.testBit_xor, Nat.testBit_succ, Nat.testBit_succ, Nat.testBit_succ]
          have e1 : (2 * q + 1) / 2 = q := by omega
          have e2 : 2 ^ 0 / 2 = 0 := by decide
          have e3 : 2 * q / 2 = q := by omega
          rw [e1, e2, e3]
          simp
      · rw [places]
        rw [dif_neg (by omega), if_pos (by omega)]
        have e1 : (2 * q + 1) / 2 = q := by omega
        rw [e1, List.singleton_append]
        congr 1
        by_cases hq : q = 0
        · subst hq; simp [places_zero]
        · rw [places.eq_def (2 * q), dif_neg (by omega), if_neg (by omega)]
          have e3 : 2 * q / 2 = q := by omega
          rw [e3]; rfl
    · obtain ⟨q, rfl⟩ : ∃ q, n = 2 * q := ⟨n / 2, by omega⟩
      have hq : 0 < q := by omega
      obtain ⟨t, h1, h2, h3, h4⟩ := ih q (by omega) hq
      rw [and_pred_even q hq]
      refine ⟨t + 1, by rw [Nat.pow_succ]; omega, by omega, ?_, ?_⟩
      · apply Nat.eq_of_testBit_eq
        intro i
        have e1 : 2 * q / 2 = q := by omega
        have e2 : 2 ^ (t + 1) / 2 = 2 ^ t := by rw [Nat.pow_succ]; omega
        have e3 : 2 * (q &&& (q - 1)) / 2 = q &&& (q - 1) := by omega
        cases i with
        | zero =>
          rw [Nat.testBit_xor, Nat.testBit_zero, Nat.testBit_zero, Nat.testBit_zero]
          have : 2 ^ (t + 1) % 2 = 0 := by rw [Nat.pow_succ]; omega
          rw [this]
          simp
        | succ i =>
          rw [Nat.testBit_xor, Nat.testBit_succ, Nat.testBit_succ, Nat.testBit_succ, e1, e2, e3, ← Nat.testBit_xor, h3]
      · rw [places, dif_neg (by omega), if_neg (by omega)]
        have e1 : 2 * q / 2 = q := by omega
        rw [e1, h4, List.nil_append, List.map_cons]
        congr 1
        by_cases hz : q &&& (q - 1) = 0
        · rw [hz]; simp [places_zero]
        · rw [places.eq_def (2 * _), dif_neg (by omega), if_neg (by omega)]
          have e3 : 2 * (q &&& (q - 1)) / 2 = q &&& (q - 1) := by omega
          rw [e3]; rfl
theorem add_pow_or : ∀ (i a : Nat), a.testBit i = false → a + 2 ^ i = a ||| 2 ^ i := by
  intro i
  induction i with
  | zero =>
    intro a h
    rw [Nat.testBit_zero] at h
    have h2 : a % 2 = 0 := by
      have := of_decide_eq_false h
      omega
    apply Nat.eq_of_testBit_eq
    intro j
    cases j with
    | zero => rw [Nat.testBit_or, Nat.testBit_zero, Nat.testBit_zero]; simp; omega
    | succ j =>
      rw [Nat.testBit_or, Nat.testBit_succ, Nat.testBit_succ, Nat.testBit_succ]
      have e1 : (a + 2 ^ 0) / 2 = a / 2 := by simp; omega
      have e2 : 2 ^ 0 / 2 = 0 := by decide
      rw [e1, e2]
      simp
  | succ i ih =>
    intro a h
    rw [Nat.testBit_succ] at h
    have h3 := ih (a / 2) h
    apply Nat.eq_of_testBit_eq
    intro j
    cases j with
    | zero =>
      rw [Nat.testBit_or, Nat.testBit_zero, Nat.testBit_zero, Nat.testBit_zero]
      have e1 : (a + 2 ^ (i + 1)) % 2 = a % 2 := by rw [Nat.pow_succ]; omega
      have e2 : 2 ^ (i + 1) % 2 = 0 := by rw [Nat.pow_succ]; omega
      rw [e1, e2]
      simp
    | succ j =>
      rw [Nat.testBit_or, Nat.testBit_succ, Nat.testBit_succ, Nat.testBit_succ]
      have e1 : (a + 2 ^ (i + 1)) / 2 = a / 2 + 2 ^ i := by rw [Nat.pow_succ]; omega
      have e2 : 2 ^ (i + 1) / 2 = 2 ^ i := by rw [Nat.pow_succ]; omega
      rw [e1, e2, h3, Nat.testBit_or]
/-- the sum of different powers -/
theorem sum_bits : ∀ (is : List Nat) (a : Nat), is.Nodup → (∀ i ∈ is, a.testBit i = false) → ∀ j, ((is.map (2 ^ ·)).foldl (· + ·) a).testBit j = (a.testBit j || decide (j ∈ is))
  | [], a, _, _, j => by simp
  | i :: is, a, hn, ha, j => by
    rw [List.nodup_cons] at hn
    rw [List.map_cons, List.foldl_cons]
    have e := add_pow_or i a (ha i List.mem_cons_self)
    rw [e, sum_bits is _ hn.2 (fun k hk => by
      rw [Nat.testBit_or, ha k (List.mem_cons_of_mem _ hk), Nat.testBit_two_pow]
      simp
      intro h; subst h; exact hn.1 hk) j, Nat.testBit_or, Nat.testBit_two_pow]
    by_cases h : j = i
    · subst h; simp
    · have h2 : ¬ i = j := fun z => h z.symm
      simp [h, h2]
theorem pc_xor {n t : Nat} (h : n.testBit t = true) : pc (n ^^^ 2 ^ t) + 1 = pc n := by
  have hp : (places n).Perm (t :: places (n ^^^ 2 ^ t)) := by
    have nd : ∀ m, (places m).Nodup := fun m => (places_sorted m).imp fun h => Nat.ne_of_lt h
    rw [List.perm_ext_iff_of_nodup (nd n) (List.nodup_cons.mpr ⟨by rw [mem_places, Nat.testBit_xor, h, Nat.testBit_two_pow]; simp, nd _⟩)]
    intro i
    rw [List.mem_cons, mem_places, mem_places, Nat.testBit_xor, Nat.testBit_two_pow]
    by_cases hi : i = t
    · subst hi; simp [h]
    · have h2 : ¬ t = i := fun z => hi z.symm
      simp [hi, h2]
  have := hp.length_eq
  rw [List.length_cons] at this
  unfold pc
  omega
end Bits
end

section
set_option linter.all false
namespace Bits
/-! ## the least sets that meet each support, as masks -/
def sub (a b : Nat) : Prop := ∀ i, a.testBit i = true → b.testBit i = true
def Hits (sup : List Nat) (X : Nat) : Prop := ∀ S ∈ sup, ∃ i, S.testBit i = true ∧ X.testBit i = true
def MinH (sup : List Nat) (X : Nat) : Prop := Hits sup X ∧ ∀ Y, sub Y X → Hits sup Y → Y = X
def oneB (h : Nat) : Bool := h &&& (h - 1) == 0
def alone (c : Nat) : List Nat → Nat → Nat
  | [], a => a
  | S :: r, a => alone c r (if oneB (S &&& c) then a ||| (S &&& c) else a)
def idle (sup : List Nat) (c : Nat) : Bool := alone c sup 0 != c
theorem oneB_bits {h i j : Nat} (ho : oneB h = true) (hi : h.testBit i = true) (hj : h.testBit j = true) : i = j := by
  have h0 : 0 < h := by
    rcases Nat.eq_zero_or_pos h with z | z
    · subst z; simp at hi
    · exact z
  obtain ⟨t, _, _, _, e⟩ := low_bit h h0
  have hz : h &&& (h - 1) = 0 := by simpa [oneB] using ho
  rw [hz, places_zero] at e
  have a1 := (mem_places h i).mpr hi
  have a2 := (mem_places h j).mpr hj
  rw [e] at a1 a2
  have b1 : i = t := by simpa using a1
  have b2 : j = t := by simpa using a2
  omega
theorem oneB_of {h i : Nat} (hi : ∀ j, h.testBit j = true → j = i) : oneB h = true := by
  rcases Nat.eq_zero_or_pos h with z | z
  · subst z; rfl
  · obtain ⟨t, _, _, _, e⟩ := low_bit h z
    have all : ∀ j ∈ places h, j = i := fun j hj => hi j ((mem_places h j).mp hj)
    have nd := places_sorted h
    rw [e] at all nd
    have hz : h &&& (h - 1) = 0 := by
      apply Nat.eq_of_testBit_eq
      intro j
      rw [Nat.zero_testBit]
      cases q : (h &&& (h - 1)).testBit j with
      | false => rfl
      | true =>
        have hm := (mem_places _ j).mpr q
        have h1 := all j (List.mem_cons_of_mem _ hm)
        have h2 := all t List.mem_cons_self
        have := (List.pairwise_cons.mp nd).1 j hm
        omega
    simp [oneB, hz]
theorem alone_bit (c : Nat) : ∀ (sup : List Nat) (a i : Nat), (alone c sup a).testBit i = true ↔ a.testBit i = true ∨ ∃ S ∈ sup, oneB (S &&& c) = true ∧ (S &&& c).testBit i = true
  | [], a, i => by simp [alone]
  | S :: r, a, i => by
    rw [alone, alone_bit c r]
    by_cases h : oneB (S &&& c) = true
    · rw [if_pos h, Nat.testBit_or, Bool.or_eq_true]
      constructor
      · rintro ((h1 | h1) | ⟨S', h1, h2⟩)
        · exact .inl h1
        · exact .inr ⟨S, List.mem_cons_self, h, h1⟩
        · exact .inr ⟨S', List.mem_cons_of_mem _ h1, h2⟩
      · rintro (h1 | ⟨S', h1, h2, h3⟩)
        · exact .inl (.inl h1)
        · rcases List.mem_cons.mp h1 with rfl | h1
          · exact .inl (.inr h3)
          · exact .inr ⟨S', h1, h2, h3⟩
    · rw [if_neg h]
      constructor
      · rintro (h1 | ⟨S', h1, h2⟩)
        · exact .inl h1
        · exact .inr ⟨S', List.mem_cons_of_mem _ h1, h2⟩
      · rintro (h1 | ⟨S', h1, h2, h3⟩)
        · exact .inl h1
        · rcases List.mem_cons.mp h1 with rfl | h1
          · exact absurd h2 h
          · exact .inr ⟨S', h1, h2, h3⟩
theorem alone_sub (sup : List Nat) (c i : Nat) (h : (alone c sup 0).testBit i = true) : c.testBit i = true := by
  rcases (alone_bit c sup 0 i).mp h with h | ⟨S, _, _, h⟩
  · simp at h
  · rw [Nat.testBit_and, Bool.and_eq_true] at h; exact h.2
/-- in a least set each member is needed -/
theorem needed {sup : List Nat} {X i : Nat} (hX : MinH sup X) (hi : X.testBit i = true) : ∃ S ∈ sup, S.testBit i = true ∧ ∀ j, S.testBit j = true → X.testBit j = true → j = i := by
  (refine Classical.byContradiction fun hn => ?_)
  have hY : Hits sup (X ^^^ 2 ^ i) := by
    intro S hS
    refine Classical.byContradiction fun h2 => hn ⟨S, hS, ?_, ?_⟩
    · obtain ⟨j, h3, h4⟩ := hX.1 S hS
      by_cases e : j = i
      · subst e; exact h3
      · exact absurd ⟨j, h3, by rw [Nat.testBit_xor, h4, Nat.testBit_two_pow]; simp; exact fun z => e z.symm⟩ h2
    · intro j h3 h4
      refine Classical.byContradiction fun e => h2 ⟨j, h3, by rw [Nat.testBit_xor, h4, Nat.testBit_two_pow]; simp; exact fun z => e z.symm⟩
  have e := hX.2 (X ^^^ 2 ^ i) (fun j hj => by
    rw [Nat.testBit_xor, Nat.testBit_two_pow] at hj
    by_cases e : i = j
    · subst e; exact hi
    · simpa [e] using hj) hY
  have h5 : (X ^^^ 2 ^ i).testBit i = X.testBit i := by rw [e]
  rw [Nat.testBit_xor, hi, Nat.testBit_two_pow] at h5
  simp at h5
theorem min_of {sup : List Nat} {c : Nat} (hc : Hits sup c) (hi : idle sup c = false) : MinH sup c := by
  refine ⟨hc, fun Y hY hh => ?_⟩
  have ha : alone c sup 0 = c := by simpa [idle] using hi
  apply Nat.eq_of_testBit_eq
  intro i
  cases hq : c.testBit i with
  | false =>
    cases hy : Y.testBit i with
    | false => rfl
    | true => rw [hY i hy] at hq; cases hq
  | true =>
    have h1 : (alone c sup 0).testBit i = true := by rw [ha]; exact hq
    rcases (alone_bit c sup 0 i).mp h1 with h | ⟨S, hS, ho, hb⟩
    · simp at h
    · obtain ⟨j, h3, h4⟩ := hh S hS
      have h5 : (S &&& c).testBit j = true := by rw [Nat.testBit_and, h3, hY j h4]; rfl
      rw [oneB_bits ho hb h5]
      exact h4
/-- the class of a choice -/
def Cl (sup : List Nat) (x : Nat × Nat) (X : Nat) : Prop := sub x.1 X ∧ (∀ i, X.testBit i = true → x.1.testBit i = true ∨ x.2.testBit i = true) ∧ MinH sup X
theorem idle_none {sup : List Nat} {c a X : Nat} (hi : idle sup c = true) : ¬ Cl sup (c, a) X := by
  rintro ⟨h1, _, h3⟩
  have ha : alone c sup 0 = c := by
    apply Nat.eq_of_testBit_eq
    intro i
    cases hq : c.testBit i with
    | false =>
      cases hy : (alone c sup 0).testBit i with
      | false => rfl
      | true => rw [alone_sub sup c i hy] at hq; cases hq
    | true =>
      obtain ⟨S, hS, h4, h5⟩ := needed h3 (h1 i hq)
      refine (alone_bit c sup 0 i).mpr (.inr ⟨S, hS, oneB_of (i := i) fun j hj => ?_, by rw [Nat.testBit_and, h4, hq]; rfl⟩)
      rw [Nat.testBit_and, Bool.and_eq_true] at hj
      exact h5 j hj.1 (h1 j hj.2)
  simp [idle, ha] at hi
theorem leaf_one {sup : List Nat} {c a X : Nat} (hi : idle sup c = false) (hc : Hits sup c) : Cl sup (c, a) X ↔ X = c := by
  constructor
  · rintro ⟨h1, _, h3⟩
    exact (h3.2 c h1 hc).symm
  · rintro rfl
    exact ⟨fun _ h => h, fun _ h => .inl h, min_of hc hi⟩
def kids (c : Nat) : Nat → List Nat → List (Nat × Nat)
  | _, [] => []
  | a, p :: ps => (c ||| 2 ^ p, a ^^^ 2 ^ p) :: kids c (a ^^^ 2 ^ p) ps
theorem bit_rm {a p i : Nat} (h : i ≠ p) : (a ^^^ 2 ^ p).testBit i = a.testBit i := by
  rw [Nat.testBit_xor, Nat.testBit_two_pow]
  have : ¬ p = i := fun z => h z.symm
  simp [this]
theorem bit_rm_self {a p : Nat} (h : a.testBit p = true) : (a ^^^ 2 ^ p).testBit p = false := by rw [Nat.testBit_xor, Nat.testBit_two_pow, h]; simp
theorem bit_add {a p i : Nat} : (a ||| 2 ^ p).testBit i = true ↔ a.testBit i = true ∨ i = p := by
  rw [Nat.testBit_or, Nat.testBit_two_pow, Bool.or_eq_true]
  constructor
  · rintro (h | h)
    · exact .inl h
    · exact .inr ((by simpa using h : p = i).symm)
  · rintro (h | h)
    · exact .inl h
    · exact .inr (by simp [h])
theorem cl_with {sup : List Nat} {c a p X : Nat} (ha : a.testBit p = true) (hc : c.testBit p = false) : Cl sup (c ||| 2 ^ p, a ^^^ 2 ^ p) X ↔ Cl sup (c, a) X ∧ X.testBit p = true := by
  constructor
  · rintro ⟨h1, h2, h3⟩
    refine ⟨⟨fun i hi => h1 i (bit_add.mpr (.inl hi)), fun i hi => ?_, h3⟩, h1 p (bit_add.mpr (.inr rfl))⟩
    rcases h2 i hi with h | h
    · rcases bit_add.mp h with h | h
      · exact .inl h
      · subst h; exact .inr ha
    · by_cases e : i = p
      · subst e; exact .inr ha
      · exact .inr ((bit_rm e).symm.trans h)
  · rintro ⟨⟨h1, h2, h3⟩, h4⟩
    refine ⟨fun i hi => ?_, fun i hi => ?_, h3⟩
    · rcases bit_add.mp hi with h | h
      · exact h1 i h
      · subst h; exact h4
    · by_cases e : i = p
      · exact .inl (bit_add.mpr (.inr e))
      · rcases h2 i hi with h | h
        · exact .inl (bit_add.mpr (.inl h))
        · exact .inr ((bit_rm e).trans h)
theorem cl_without {sup : List Nat} {c a p X : Nat} (ha : a.testBit p = true) (hc : c.testBit p = false) : Cl sup (c, a ^^^ 2 ^ p) X ↔ Cl sup (c, a) X ∧ X.testBit p = false := by
  constructor
  · rintro ⟨h1, h2, h3⟩
    refine ⟨⟨h1, fun i hi => ?_, h3⟩, ?_⟩
    · rcases h2 i hi with h | h
      · exact .inl h
      · by_cases e : i = p
        · subst e; exact .inr ha
        · exact .inr ((bit_rm e).symm.trans h)
    · cases q : X.testBit p with
      | false => rfl
      | true =>
        rcases h2 p q with h | h
        · rw [hc] at h; cases h
        · rw [bit_rm_self ha] at h; cases h
  · rintro ⟨⟨h1, h2, h3⟩, h4⟩
    refine ⟨h1, fun i hi => ?_, h3⟩
    rcases h2 i hi with h | h
    · exact .inl h
    · refine .inr ((bit_rm ?_).trans h)
      intro e; subst e
      rw [h4] at hi; cases hi
theorem ne_nin {q p : Nat} {ps : List Nat} (hq : q ∈ ps) (hn : p ∉ ps) : q ≠ p := fun e => hn (e ▸ hq)
theorem kids_cl {sup : List Nat} {c X : Nat} : ∀ (ps : List Nat) (a : Nat), ps.Nodup → (∀ p ∈ ps, a.testBit p = true ∧ c.testBit p = false) → ((∃ x ∈ kids c a ps, Cl sup x X) ↔ Cl sup (c, a) X ∧ ∃ p ∈ ps, X.testBit p = true)
  | [], a, _, _ => by simp [kids]
  | p :: ps, a, hn, h => by
    rw [List.nodup_cons] at hn
    obtain ⟨ha, hc⟩ := h p List.mem_cons_self
    have ih := kids_cl (X := X) (sup := sup) ps (a ^^^ 2 ^ p) hn.2 fun q hq => ⟨(bit_rm (ne_nin hq hn.1)).trans (h q (List.mem_cons_of_mem _ hq)).1, (h q (List.mem_cons_of_mem _ hq)).2⟩
    rw [kids]
    constructor
    · rintro ⟨x, hx, hq⟩
      (rcases List.mem_cons.mp hx with rfl | hx)
      · obtain ⟨h1, h2⟩ := (cl_with ha hc).mp hq
        exact ⟨h1, p, List.mem_cons_self, h2⟩
      · obtain ⟨h1, q, h2, h3⟩ := ih.mp ⟨x, hx, hq⟩
        exact ⟨((cl_without ha hc).mp h1).1, q, List.mem_cons_of_mem _ h2, h3⟩
    · rintro ⟨h1, q, h2, h3⟩
      cases hp : X.testBit p with
      | true => exact ⟨_, List.mem_cons_self, (cl_with ha hc).mpr ⟨h1, hp⟩⟩
      | false =>
        have hq : q ∈ ps := by
          rcases List.mem_cons.mp h2 with rfl | h2
          · rw [hp] at h3; cases h3
          · exact h2
        obtain ⟨x, hx, hx2⟩ := ih.mpr ⟨(cl_without ha hc).mpr ⟨h1, hp⟩, q, hq, h3⟩
        exact ⟨x, List.mem_cons_of_mem _ hx, hx2⟩
def Apart (sup : List Nat) (x y : Nat × Nat) : Prop := ∀ X, Cl sup x X → ¬ Cl sup y X
theorem kids_apart {sup : List Nat} {c : Nat} : ∀ (ps : List Nat) (a : Nat), ps.Nodup → (∀ p ∈ ps, a.testBit p = true ∧ c.testBit p = false) → (kids c a ps).Pairwise (Apart sup)
  | [], _, _, _ => .nil
  | p :: ps, a, hn, h => by
    rw [List.nodup_cons] at hn
    obtain ⟨ha, hc⟩ := h p List.mem_cons_self
    have h' : ∀ q ∈ ps, (a ^^^ 2 ^ p).testBit q = true ∧ c.testBit q = false := fun q hq => ⟨(bit_rm (ne_nin hq hn.1)).trans (h q (List.mem_cons_of_mem _ hq)).1, (h q (List.mem_cons_of_mem _ hq)).2⟩
    rw [kids, List.pairwise_cons]
    refine ⟨fun x hx X h1 h2 => ?_, kids_apart ps _ hn.2 h'⟩
    have h3 := ((cl_with ha hc).mp h1).2
    have h4 := ((kids_cl ps _ hn.2 h').mp ⟨x, hx, h2⟩).1
    have h5 := ((cl_without ha hc).mp h4).2
    rw [h3] at h5; cases h5
theorem kids_dis {c : Nat} : ∀ (ps : List Nat) (a : Nat), ps.Nodup → (∀ p ∈ ps, a.testBit p = true ∧ c.testBit p = false) → (∀ i, c.testBit i = true → a.testBit i = false) → ∀ x ∈ kids c a ps, ∀ i, x.1.testBit i = true → x.2.testBit i = false
  | [], _, _, _, _ => by simp [kids]
  | p :: ps, a, hn, h, hd => by
    rw [List.nodup_cons] at hn
    obtain ⟨ha, hc⟩ := h p List.mem_cons_self
    have h' : ∀ q ∈ ps, (a ^^^ 2 ^ p).testBit q = true ∧ c.testBit q = false := fun q hq => ⟨(bit_rm (ne_nin hq hn.1)).trans (h q (List.mem_cons_of_mem _ hq)).1, (h q (List.mem_cons_of_mem _ hq)).2⟩
    have hd' : ∀ i, c.testBit i = true → (a ^^^ 2 ^ p).testBit i = false := fun i hi => by
      by_cases e : i = p
      · subst e; exact bit_rm_self ha
      · rw [bit_rm e]; exact hd i hi
    intro x hx i hi
    rw [kids] at hx
    (rcases List.mem_cons.mp hx with rfl | hx)
    · rcases bit_add.mp hi with h1 | h1
      · exact hd' i h1
      · subst h1; exact bit_rm_self ha
    · exact kids_dis ps _ hn.2 h' hd' x hx i hi
def wt : List (Nat × Nat) → Nat
  | [] => 0
  | x :: r => 2 ^ pc x.2 + wt r
theorem wt_app : ∀ a b : List (Nat × Nat), wt (a ++ b) = wt a + wt b
  | [], b => by simp [wt]
  | x :: a, b => by rw [List.cons_append, wt, wt, wt_app a b]; omega
theorem kids_wt {c : Nat} : ∀ (ps : List Nat) (a : Nat), ps.Nodup → (∀ p ∈ ps, a.testBit p = true) → wt (kids c a ps) < 2 ^ pc a
  | [], a, _, _ => by rw [kids, wt]; exact Nat.two_pow_pos _
  | p :: ps, a, hn, h => by
    rw [List.nodup_cons] at hn
    have ih := kids_wt (c := c) ps (a ^^^ 2 ^ p) hn.2 fun q hq => (bit_rm (ne_nin hq hn.1)).trans (h q (List.mem_cons_of_mem _ hq))
    have e := pc_xor (h p List.mem_cons_self)
    rw [kids, wt]
    dsimp only
    rw [← e, Nat.pow_succ]
    omega
/-- which support isn't met yet, cut down to what is allowed: any one -/
def Missed (sup : List Nat) (ms : Nat → Nat → Option Nat) : Prop := ∀ c a, (ms c a = none → Hits sup c) ∧ ∀ b, ms c a = some b → ∃ S ∈ sup, S &&& c = 0 ∧ b = S &&& a
def run (sup : List Nat) (ms : Nat → Nat → Option Nat) : Nat → List (Nat × Nat) → List Nat → Option (List Nat)
  | 0, _, _ => none
  | n + 1, st, f => match st.getLast? with
    | none => some f
    | some (c, a) => if idle sup c then run sup ms n st.dropLast f else match ms c a with
      | none => run sup ms n st.dropLast (f ++ [c])
      | some b => run sup ms n (st.dropLast ++ kids c a (places b)) f
theorem last_split {α : Type} {l : List α} {x : α} (h : l.getLast? = some x) : l = l.dropLast ++ [x] := by
  obtain ⟨r, e⟩ := List.getLast?_eq_some_iff.mp h
  subst e
  simp
theorem places_nodup (n : Nat) : (places n).Nodup := (places_sorted n).imp fun h => Nat.ne_of_lt h
theorem kid_ok {sup : List Nat} {c a b : Nat} {S : Nat} (h1 : S &&& c = 0) (h2 : b = S &&& a) : ∀ p ∈ places b, a.testBit p = true ∧ c.testBit p = false := by
  intro p hp
  rw [mem_places, h2, Nat.testBit_and, Bool.and_eq_true] at hp
  refine ⟨hp.2, ?_⟩
  cases q : c.testBit p with
  | false => rfl
  | true =>
    have : (S &&& c).testBit p = true := by rw [Nat.testBit_and, hp.1, q]; rfl
    rw [h1] at this; simp at this
theorem run_some {sup : List Nat} {ms : Nat → Nat → Option Nat} (hm : Missed sup ms) : ∀ (n : Nat) (st : List (Nat × Nat)) (f : List Nat), wt st < n → ∃ f', run sup ms n st f = some f'
  | 0, _, _, h => by omega
  | n + 1, st, f, h => by
    rw [run]
    cases e : st.getLast? with
    | none => exact ⟨f, rfl⟩
    | some x =>
      obtain ⟨c, a⟩ := x
      have es := last_split e
      have ew : wt st = wt st.dropLast + 2 ^ pc a := by
        have := congrArg wt es
        rw [wt_app] at this
        simpa [wt] using this
      have hp := Nat.two_pow_pos (pc a)
      dsimp only
      split
      · exact run_some hm n _ _ (by omega)
      · cases eb : ms c a with
        | none => exact run_some hm n _ _ (by omega)
        | some b =>
          obtain ⟨S, hS, h1, h2⟩ := (hm c a).2 b eb
          have hk := kids_wt (c := c) (places b) a (places_nodup b) fun p hp => (kid_ok (sup := sup) h1 h2 p hp).1
          refine run_some hm n _ _ ?_
          rw [wt_app]
          omega
theorem run_ok {sup : List Nat} {ms : Nat → Nat → Option Nat} (hm : Missed sup ms) : ∀ (n : Nat) (st : List (Nat × Nat)) (f f' : List Nat), run sup ms n st f = some f' → st.Pairwise (Apart sup) → f.Nodup → (∀ X ∈ f, ∀ x ∈ st, ¬ Cl sup x X) →
    f'.Nodup ∧ ∀ X, X ∈ f' ↔ X ∈ f ∨ ∃ x ∈ st, Cl sup x X
  | 0, _, _, _, h, _, _, _ => by cases h
  | n + 1, st, f, f', h, hp, hf, hd => by
    rw [run] at h
    cases e : st.getLast? with
    | none =>
      rw [e] at h
      cases h
      have : st = [] := List.getLast?_eq_none_iff.mp e
      subst this
      exact ⟨hf, fun X => by simp⟩
    | some x =>
      obtain ⟨c, a⟩ := x
      rw [e] at h
      dsimp only at h
      have es := last_split e
      have mem : ∀ y, y ∈ st ↔ y ∈ st.dropLast ∨ y = (c, a) := fun y => by
        have h0 : y ∈ st ↔ y ∈ st.dropLast ++ [(c, a)] := by rw [← es]
        rw [h0]; simp
      have hp2 : st.dropLast.Pairwise (Apart sup) ∧ ∀ y ∈ st.dropLast, Apart sup y (c, a) := by
        have h0 : (st.dropLast ++ [(c, a)]).Pairwise (Apart sup) := by rw [← es]; exact hp
        rw [List.pairwise_append] at h0
        exact ⟨h0.1, fun y hy => h0.2.2 y hy _ (by simp)⟩
      split at h
      · rename_i hi
        obtain ⟨r1, r2⟩ := run_ok hm n _ _ _ h hp2.1 hf fun X hX y hy => hd X hX y ((mem y).mpr (.inl hy))
        refine ⟨r1, fun X => (r2 X).trans ?_⟩
        constructor
        · rintro (z | ⟨y, hy, z⟩)
          · exact .inl z
          · exact .inr ⟨y, (mem y).mpr (.inl hy), z⟩
        · rintro (z | ⟨y, hy, z⟩)
          · exact .inl z
          · rcases (mem y).mp hy with hy | rfl
            · exact .inr ⟨y, hy, z⟩
            · exact absurd z (idle_none hi)
      · rename_i hi
        have hi' : idle sup c = false := by simpa using hi
        cases eb : ms c a with
        | none =>
          rw [eb] at h
          dsimp only at h
          have hc := (hm c a).1 eb
          have hl := fun X => leaf_one (a := a) (X := X) hi' hc
          have hnf : c ∉ f := fun z => hd c z (c, a) ((mem _).mpr (.inr rfl)) ((hl c).mpr rfl)
          obtain ⟨r1, r2⟩ := run_ok hm n _ _ _ h hp2.1 (by rw [List.nodup_append]; exact ⟨hf, by simp, fun x hx y hy => by
            have : y = c := by simpa using hy
            subst this
            exact fun z => hnf (z ▸ hx)⟩) (fun X hX y hy => by
              rcases List.mem_append.mp hX with hX | hX
              · exact hd X hX y ((mem y).mpr (.inl hy))
              · have : X = c := by simpa using hX
                subst this
                exact fun z => hp2.2 y hy X z ((hl X).mpr rfl))
          refine ⟨r1, fun X => (r2 X).trans ?_⟩
          rw [List.mem_append]
          constructor
          · rintro ((z | z) | ⟨y, hy, z⟩)
            · exact .inl z
            · have : X = c := by simpa using z
              exact .inr ⟨(c, a), (mem _).mpr (.inr rfl), (hl X).mpr this⟩
            · exact .inr ⟨y, (mem y).mpr (.inl hy), z⟩
          · rintro (z | ⟨y, hy, z⟩)
            · exact .inl (.inl z)
            · rcases (mem y).mp hy with hy | rfl
              · exact .inr ⟨y, hy, z⟩
              · exact .inl (.inr (by simp [(hl X).mp z]))
        | some b =>
          rw [eb] at h
          dsimp only at h
          obtain ⟨S, hS, h1, h2⟩ := (hm c a).2 b eb
          have hk := kid_ok (sup := sup) h1 h2
          have hcl := fun X => kids_cl (sup := sup) (c := c) (X := X) (places b) a (places_nodup b) hk
          have hall : ∀ X, Cl sup (c, a) X → ∃ p ∈ places b, X.testBit p = true := by
            intro X hX
            obtain ⟨i, h3, h4⟩ := hX.2.2.1 S hS
            refine ⟨i, (mem_places b i).mpr ?_, h4⟩
            rw [h2, Nat.testBit_and, h3]
            rcases hX.2.1 i h4 with h5 | h5
            · have : (S &&& c).testBit i = true := by rw [Nat.testBit_and, h3, h5]; rfl
              rw [h1] at this; simp at this
            · simpa using h5
          obtain ⟨r1, r2⟩ := run_ok hm n _ _ _ h (by
            rw [List.pairwise_append]
            exact ⟨hp2.1, kids_apart _ _ (places_nodup b) hk, fun y hy z hz X h3 h4 => hp2.2 y hy X h3 ((hcl X).mp ⟨z, hz, h4⟩).1⟩) hf (fun X hX y hy => by
              (rcases List.mem_append.mp hy with hy | hy)
              · exact hd X hX y ((mem y).mpr (.inl hy))
              · exact fun z => hd X hX (c, a) ((mem _).mpr (.inr rfl)) ((hcl X).mp ⟨y, hy, z⟩).1)
          refine ⟨r1, fun X => (r2 X).trans ?_⟩
          constructor
          · rintro (z | ⟨y, hy, z⟩)
            · exact .inl z
            · rcases List.mem_append.mp hy with hy | hy
              · exact .inr ⟨y, (mem y).mpr (.inl hy), z⟩
              · exact .inr ⟨(c, a), (mem _).mpr (.inr rfl), ((hcl X).mp ⟨y, hy, z⟩).1⟩
          · rintro (z | ⟨y, hy, z⟩)
            · exact .inl z
            · rcases (mem y).mp hy with hy | rfl
              · exact .inr ⟨y, List.mem_append_left _ hy, z⟩
              · obtain ⟨y, hy, hz⟩ := (hcl X).mpr ⟨z, hall X z⟩
                exact .inr ⟨y, List.mem_append_right _ hy, hz⟩
def every (sup : List Nat) : Nat := sup.foldl (· ||| ·) 0
theorem every_bit : ∀ (sup : List Nat) (a i : Nat), (sup.foldl (· ||| ·) a).testBit i = true ↔ a.testBit i = true ∨ ∃ S ∈ sup, S.testBit i = true
  | [], a, i => by simp
  | S :: r, a, i => by
    rw [List.foldl_cons, every_bit r, Nat.testBit_or, Bool.or_eq_true]
    constructor
    · rintro ((h | h) | ⟨S', h, h2⟩)
      · exact .inl h
      · exact .inr ⟨S, List.mem_cons_self, h⟩
      · exact .inr ⟨S', List.mem_cons_of_mem _ h, h2⟩
    · rintro (h | ⟨S', h, h2⟩)
      · exact .inl (.inl h)
      · (rcases List.mem_cons.mp h with rfl | h)
        · exact .inl (.inr h2)
        · exact .inr ⟨S', h, h2⟩
theorem start_cl {sup : List Nat} {X : Nat} : Cl sup (0, every sup) X ↔ MinH sup X := by
  constructor
  · exact fun h => h.2.2
  · intro h
    refine ⟨fun i hi => by simp at hi, fun i hi => .inr ?_, h⟩
    obtain ⟨S, hS, h2, _⟩ := needed h hi
    exact (every_bit sup 0 i).mpr (.inr ⟨S, hS, h2⟩)
theorem run_all {sup : List Nat} {ms : Nat → Nat → Option Nat} (hm : Missed sup ms) {n : Nat} (hn : 2 ^ pc (every sup) < n) : ∃ f, run sup ms n [(0, every sup)] [] = some f ∧ f.Nodup ∧ ∀ X, X ∈ f ↔ MinH sup X := by
  obtain ⟨f, hf⟩ := run_some hm n [(0, every sup)] [] (by simpa [wt] using hn)
  obtain ⟨h1, h2⟩ := run_ok hm n _ _ _ hf (by simp) (by simp) (by simp)
  refine ⟨f, hf, h1, fun X => (h2 X).trans ?_⟩
  simp [start_cl]
end Bits
end

section
set_option linter.all false
namespace K47
open PySem Dm Bits
abbrev nI (i : Nat) : D := .int (i : Int)
theorem iand_neg (a : Nat) (h : 0 < a) : iand (a : Int) (-(a : Int)) = some ((a - (a &&& (a - 1)) : Nat) : Int) := by
  obtain ⟨b, rfl⟩ : ∃ b, a = b + 1 := ⟨a - 1, by omega⟩
  have e : -((b + 1 : Nat) : Int) = Int.negSucc b := rfl
  rw [e]
  show some (((b + 1 : Nat) : Int) - (((b + 1) &&& b : Nat) : Int)) = _
  have h2 : (b + 1) &&& b ≤ b + 1 := Nat.and_le_left
  rw [Nat.add_sub_cancel]
  congr 1
  omega
theorem ints_of_nat : ∀ xs : List Nat, D.grL (xs.map nI) = true := fun xs => by
  rw [grL_iff]; intro x hx; obtain ⟨i, _, rfl⟩ := List.mem_map.mp hx; rfl
theorem rcv_lst {m : M} {l : Nat} {xs : List D} (h : m[l]? = some (.lst xs)) : rcv m .list (.ref l) = true := by simp [rcv, h]
theorem append_at {m : M} {l : Nat} {xs : List D} (y : D) (h : m[l]? = some (.lst xs)) (hl : xs.length < lineN) : mAppend (.ref l) [y] m = some (.non, m.set l (.lst (xs ++ [y]))) := by
  unfold mAppend; dsimp only; rw [h]; dsimp only; rw [if_pos hl]
/-- places_of: the loop -/
theorem places_loop (m : M) : ∀ (a fuel : Nat) (acc : List Nat) (x : Option D), pc a < fuel → acc.length + pc a < 100000 →
    ∃ x', whGo (nrm (eOp (oCmp fun i j => decide (j < i)) (eVar 0) (eC (.int 0)))) (sSeq (sAsg (tName 2) (nrm (eOp (oBit iand) (eVar 0) (eUn oNeg (eVar 0)))))
    (sSeq (sExpr (eMeth .list mAppend (eVar 1) (aCons (eOp oSub (eMeth .int mBits (eVar 2) aNil) (eC (.int 1))) aNil)))
    (sAsg (tName 0) (nrm (eOp (oBit ixor) (eVar 0) (eVar 2)))))) fuel [some (nI a), some (.ref m.length), x] (m ++ [.lst (acc.map nI)]) = some (.nx [some (nI 0), some (.ref m.length), x'], m ++ [.lst ((acc ++ places a).map nI)]) := by
  intro a
  induction a using Nat.strongRecOn with
  | ind a ih =>
    intro fuel acc x hf hl
    obtain ⟨fuel, rfl⟩ : ∃ f, fuel = f + 1 := ⟨fuel - 1, by omega⟩
    rcases Nat.eq_zero_or_pos a with h0 | h0
    · subst h0
      refine ⟨x, ?_⟩
      rw [places_zero, List.append_nil]
      exact wh_f (nrm_gr0 (op_to (v_at rfl) c_at rfl) rfl)
    · obtain ⟨t, h1, h2, h3, h4⟩ := low_bit a h0
      have hlt : a &&& (a - 1) < a := by have := Nat.two_pow_pos t; omega
      have hpc : pc a = pc (a &&& (a - 1)) + 1 := by unfold pc; rw [h4]; rfl
      have hget : (m ++ [Ob.lst (acc.map nI)])[m.length]? = some (.lst (acc.map nI)) := by rw [get_app0]; rfl
      obtain ⟨x', hx'⟩ := ih _ hlt fuel (acc ++ [t]) (some (nI (2 ^ t))) (by omega) (by rw [List.length_append]; simp; omega)
      refine ⟨x', ?_⟩
      rw [h4]
      rw [List.append_assoc] at hx'
      have hb : nbits ((2 ^ t : Nat) : Int) = t + 1 := by
        obtain ⟨q, hq⟩ : ∃ q, 2 ^ t = q + 1 := ⟨2 ^ t - 1, by have := Nat.two_pow_pos t; omega⟩
        rw [hq]
        show (q + 1).log2 + 1 = t + 1
        rw [← hq, Nat.log2_two_pow]
      refine whq (nrm_gr0 (d := .bl true) (op_to (v_at rfl) c_at ?_) rfl) (sq (asg_nm (nrm_gr0 (d := nI (2 ^ t)) (op_to (v_at rfl) (un_to (v_at rfl) rfl) ?_) rfl))
        (sq (expr_nx (meth_to (v_at rfl) (rcv_lst hget) (a_one (op_to (meth_to (v_at rfl) rfl a_nil rfl) c_at (r := (nI t, _)) ?_)) (append_at _ hget (by rw [List.length_map]; show _ < 16777216; omega))))
          (asg_nm (nrm_gr0 (d := nI (a &&& (a - 1))) (op_to (v_at rfl) (v_at rfl) ?_) rfl)))) ?_
      · show some (D.bl (decide ((0 : Int) < (a : Int))), _) = _
        (rw [decide_eq_true (by omega)])
      · show (iand (a : Int) (-(a : Int))).map _ = _
        rw [iand_neg a h0, h1]; rfl
      · show some (D.int ((nbits ((2 ^ t : Nat) : Int) : Int) - 1), _) = _
        rw [hb]
        congr 3
        omega
      · show some (D.int ((a ^^^ 2 ^ t : Nat) : Int), _) = _
        rw [h3]
      · rw [set_app0, List.set_cons_zero]
        rw [List.map_append] at hx'
        exact hx'
theorem s_places (k : Nat) (m : M) (a : Nat) (h : pc a < 10000) : lvl tab (k + 1) 5 [nI a] m = some (.ref m.length, m ++ [.lst ((places a).map nI)]) := by
  obtain ⟨x', hx⟩ := places_loop m a wfuel [] none (by show _ < 1000000000; omega) (by simp; omega)
  rw [show lvl tab (k + 1) 5 = m_places_of (lvl tab k) from rfl, m_places_of]
  refine fn_new0 (r := []) (o := .lst ((places a).map nI)) ?_ (ints_of_nat _)
  refine sq (asg_nm (nrm_new0 (o := .lst []) (r := []) (lst_at a_nil (Nat.zero_le _)) rfl)) ?_
  exact sq hx (ret_rt (v_at rfl))
theorem s_size (k : Nat) (m : M) (a : Nat) (h : a.log2 < 1000000) : ∃ c : Int, lvl tab (k + 1) 4 [nI a] m = some (.int c, m) := by
  refine ⟨(((((Nat.toDigits 2 a).map Char.toNat).toArray.toList.count 49 : Nat)) : Int), ?_⟩
  rw [show lvl tab (k + 1) 4 = m_mask_size (lvl tab k) from rfl, m_mask_size]
  refine fn_gr (r := []) (d := .int _) ?_ rfl
  refine sq (asg_nm (nrm_gr0 (d := .str ⟨((Nat.toDigits 2 a).map Char.toNat).toArray⟩) (un_to (v_at (d := nI a) rfl) ?_) rfl)) ?_
  · show (if a.log2 < 1000000 then _ else none) = _
    rw [if_pos h]
  · rw [List.append_nil]
    exact ret_rt (meth_to (v_at (d := .str ⟨((Nat.toDigits 2 a).map Char.toNat).toArray⟩) rfl) rfl (a_one c_at) rfl)
end K47
end

section
set_option linter.all false
namespace Bits
theorem pc_le : ∀ (k n : Nat), n < 2 ^ k → pc n ≤ k := by
  intro k
  induction k with
  | zero =>
    intro n h
    have : n = 0 := by simpa using h
    subst this
    simp [pc, places_zero]
  | succ k ih =>
    intro n h
    have h2 := ih (n / 2) (by rw [Nat.pow_succ] at h; omega)
    unfold pc at h2 ⊢
    rw [places]
    split
    · simp
    · rw [List.length_append, List.length_map]
      split
      · simp; omega
      · simp; omega
theorem place_lt {n k p : Nat} (h : n < 2 ^ k) (hp : p ∈ places n) : p < k := by
  rw [mem_places] at hp
  have := Nat.ge_two_pow_of_testBit hp
  exact (Nat.pow_lt_pow_iff_right (by decide : 1 < 2)).mp (Nat.lt_of_le_of_lt this h)
end Bits
namespace K47
open PySem Dm Bits
theorem oeq_int (neg : Bool) (a b : Int) (m : M) : oEq neg (.int a) (.int b) m = some (.bl (neg != (a == b)), m) := rfl
theorem fne (b : Bool) : (false != b) = b := by cases b <;> rfl
theorem tne (b : Bool) : (true != b) = !b := by cases b <;> rfl
theorem iand_pred (h : Nat) : iand (h : Int) ((h : Int) - 1) = some ((h &&& (h - 1) : Nat) : Int) := by
  cases h with
  | zero => rfl
  | succ q =>
    have e : ((q + 1 : Nat) : Int) - 1 = (q : Int) := by omega
    rw [e, Nat.add_sub_cancel]
    rfl
theorem beq_cast (a b : Nat) : ((a : Int) == (b : Int)) = (a == b) := by
  by_cases h : a = b
  · subst h; simp
  · have h2 : ¬ (a : Int) = (b : Int) := by omega
    rw [beq_eq_false_iff_ne.mpr h, beq_eq_false_iff_ne.mpr h2]
theorem idle_loop {l : Nat} {m : M} {gd : Gd} (hg : gdOk gd m = true) (c : Nat) : ∀ (sup : List Nat) (a : Nat) (x3 x4 : Option D), ∃ y3 y4,
    forGo gd (tName 3) (sSeq (sAsg (tName 4) (nrm (eOp (oBit iand) (eVar 3) (eVar 1))))
    (sIf (nrm (eOp (oEq false) (eOp (oBit iand) (eVar 4) (eOp oSub (eVar 4) (eC (.int 1)))) (eC (.int 0)))) (sAsg (tName 2) (nrm (eOp (oBit ior) (eVar 2) (eVar 4)))) sNil)) (sup.map nI) [some (.ref l), some (nI c), some (nI a), x3, x4] m = some (.nx [some (.ref l), some (nI c), some (nI (alone c sup a)), y3, y4], m)
  | [], a, x3, x4 => ⟨x3, x4, for_nil hg⟩
  | S :: r, a, x3, x4 => by
    obtain ⟨y3, y4, ih⟩ := idle_loop hg c r (if oneB (S &&& c) then a ||| (S &&& c) else a) (some (nI S)) (some (nI (S &&& c)))
    refine ⟨y3, y4, fcq hg rfl (m2 := m) (e2 := [some (.ref l), some (nI c), some (nI (if oneB (S &&& c) then a ||| (S &&& c) else a)), some (nI S), some (nI (S &&& c))]) ?_ ih⟩
    refine sq (asg_nm (nrm_gr0 (d := nI (S &&& c)) (op_to (v_at (d := nI S) rfl) (v_at (d := nI c) rfl) rfl) rfl)) ?_
    have ht : (nrm (eOp (oEq false) (eOp (oBit iand) (eVar 4) (eOp oSub (eVar 4) (eC (.int 1)))) (eC (.int 0)))) [some (.ref l), some (nI c), some (nI a), some (nI S), some (nI (S &&& c))] m = some (.bl (oneB (S &&& c)), m) := by
      refine nrm_gr0 (op_to (x := nI ((S &&& c) &&& ((S &&& c) - 1))) (m1 := m) (op_to (v_at (d := nI (S &&& c)) rfl) (op_to (v_at (d := nI (S &&& c)) rfl) c_at rfl) ?_) c_at ?_) rfl
      · show (iand ((S &&& c : Nat) : Int) (((S &&& c : Nat) : Int) - 1)).map _ = _
        rw [iand_pred]; rfl
      · rw [oeq_int]
        have e := beq_cast ((S &&& c) &&& ((S &&& c) - 1)) 0
        show some (D.bl (false != ((((S &&& c) &&& ((S &&& c) - 1) : Nat) : Int) == ((0 : Nat) : Int))), m) = _
        rw [e, fne]
        rfl
    cases ho : oneB (S &&& c) with
    | true =>
      rw [ho] at ht
      exact ift ht (asg_nm (nrm_gr0 (d := nI (a ||| (S &&& c))) (op_to (v_at (d := nI a) rfl) (v_at (d := nI (S &&& c)) rfl) rfl) rfl))
    | false =>
      rw [ho] at ht
      exact iff' ht rfl
theorem s_idle (k : Nat) {m : M} {l : Nat} {sup : List Nat} (c : Nat) (h : m[l]? = some (.lst (sup.map nI))) : lvl tab (k + 1) 10 [.ref l, nI c] m = some (.bl (idle sup c), m) := by
  obtain ⟨y3, y4, hx⟩ := idle_loop (l := l) (gd_one h) c sup 0 none none
  rw [show lvl tab (k + 1) 10 = m_has_idle (lvl tab k) from rfl, m_has_idle]
  refine fn_gr (r := []) (d := .bl _) ?_ rfl
  rw [List.append_nil]
  refine sq (asg_nm (nrm_gr0 (d := nI 0) c_at rfl)) ?_
  refine sq (frq (seq_ref (v_at (d := .ref l) rfl) h) hx) (ret_rt (op_to (v_at (d := nI (alone c sup 0)) rfl) (v_at (d := nI c) rfl) ?_))
  rw [oeq_int, beq_cast, tne]
  rfl
/-! missed -/
def size (n : Nat) : Int := (((((Nat.toDigits 2 n).map Char.toNat).toArray.toList.count 49 : Nat)) : Int)
theorem s_size' (k : Nat) (m : M) (a : Nat) (h : a < 2 ^ 1000) : lvl tab (k + 1) 4 [nI a] m = some (.int (size a), m) := by
  have hl : a.log2 < 1000000 := by
    by_cases h0 : a = 0
    · subst h0; decide
    · have := (Nat.log2_lt h0).mpr h
      omega
  rw [show lvl tab (k + 1) 4 = m_mask_size (lvl tab k) from rfl, m_mask_size]
  refine fn_gr (r := []) (d := .int _) ?_ rfl
  refine sq (asg_nm (nrm_gr0 (d := .str ⟨((Nat.toDigits 2 a).map Char.toNat).toArray⟩) (un_to (v_at (d := nI a) rfl) ?_) rfl)) ?_
  · show (if a.log2 < 1000000 then _ else none) = _
    rw [if_pos hl]
  · rw [List.append_nil]
    exact ret_rt (meth_to (v_at (d := .str ⟨((Nat.toDigits 2 a).map Char.toNat).toArray⟩) rfl) rfl (a_one c_at) rfl)
def msGo (c a : Nat) : List Nat → Option Nat → Int → Option Nat
  | [], b, _ => b
  | S :: r, b, f => if S &&& c == 0 then (if b.isNone || decide (size (S &&& a) < f) then msGo c a r (some (S &&& a)) (size (S &&& a)) else msGo c a r b f) else msGo c a r b f
def ms (sup : List Nat) (c a : Nat) : Option Nat := msGo c a sup none 0
theorem msGo_ok (c a : Nat) : ∀ (sup : List Nat) (b : Option Nat) (f : Int), (msGo c a sup b f = none → b = none ∧ Hits sup c) ∧ ∀ x, msGo c a sup b f = some x → b = some x ∨ ∃ S ∈ sup, S &&& c = 0 ∧ x = S &&& a
  | [], b, f => ⟨fun h => ⟨h, fun S hS => by simp at hS⟩, fun x h => .inl h⟩
  | S :: r, b, f => by
    rw [msGo]
    by_cases h0 : (S &&& c == 0) = true
    · rw [if_pos h0]
      have hz : S &&& c = 0 := by simpa using h0
      split
      · obtain ⟨h1, h2⟩ := msGo_ok c a r (some (S &&& a)) (size (S &&& a))
        refine ⟨fun h => (by cases (h1 h).1), fun x hx => ?_⟩
        rcases h2 x hx with h | ⟨S', h3, h4⟩
        · cases h; exact .inr ⟨S, List.mem_cons_self, hz, rfl⟩
        · exact .inr ⟨S', List.mem_cons_of_mem _ h3, h4⟩
      · rename_i hb
        obtain ⟨h1, h2⟩ := msGo_ok c a r b f
        refine ⟨fun h => ?_, fun x hx => (h2 x hx).imp id fun ⟨S', h3, h4⟩ => ⟨S', List.mem_cons_of_mem _ h3, h4⟩⟩
        have := (h1 h).1
        subst this
        simp at hb
    · rw [if_neg h0]
      obtain ⟨h1, h2⟩ := msGo_ok c a r b f
      refine ⟨fun h => ⟨(h1 h).1, fun S' hS' => ?_⟩, fun x hx => (h2 x hx).imp id fun ⟨S', h3, h4⟩ => ⟨S', List.mem_cons_of_mem _ h3, h4⟩⟩
      rcases List.mem_cons.mp hS' with rfl | hS'
      · refine Classical.byContradiction fun hn => h0 ?_
        rw [beq_iff_eq]
        apply Nat.eq_of_testBit_eq
        intro i
        rw [Nat.zero_testBit, Nat.testBit_and]
        cases q1 : S'.testBit i <;> cases q2 : c.testBit i <;> first | rfl | exact absurd ⟨i, q1, q2⟩ hn
      · exact (h1 h).2 S' hS'
theorem ms_ok (sup : List Nat) : Missed sup (ms sup) := fun c a => by
  obtain ⟨h1, h2⟩ := msGo_ok c a sup none 0
  exact ⟨fun h => (h1 h).2, fun b h => (h2 b h).resolve_left (by simp)⟩
def optD : Option Nat → D
  | none => .non
  | some b => nI b
theorem optD_gr (b : Option Nat) : (optD b).gr = true := by cases b <;> rfl
theorem missed_loop {k l : Nat} {m : M} {gd : Gd} (hg : gdOk gd m = true) (c a : Nat) : ∀ (sup : List Nat) (b : Option Nat) (f : Int) (x5 x6 : Option D), (∀ S ∈ sup, S < 2 ^ 1000) → ∃ y4 y5 y6,
    forGo gd (tName 5) (sIf (nrm (eOp (oEq false) (eOp (oBit iand) (eVar 5) (eVar 1)) (eC (.int 0)))) (sSeq (sAsg (tName 6) (nrm (ePrim (lvl tab (k + 1) 4) (aCons (eOp (oBit iand) (eVar 5) (eVar 2)) aNil))))
    (sIf (nrm (eOr (eUn (oIsN false) (eVar 3)) (eOp (oCmp fun i j => decide (i < j)) (eVar 6) (eVar 4)))) (sSeq (sAsg (tName 3) (nrm (eOp (oBit iand) (eVar 5) (eVar 2))))
    (sAsg (tName 4) (nrm (eVar 6)))) sNil)) sNil) (sup.map nI) [some (.ref l), some (nI c), some (nI a), some (optD b), some (.int f), x5, x6] m = some (.nx [some (.ref l), some (nI c), some (nI a), some (optD (msGo c a sup b f)), y4, y5, y6], m)
  | [], b, f, x5, x6, _ => ⟨_, _, _, for_nil hg⟩
  | S :: r, b, f, x5, x6, hs => by
    have hr : ∀ S ∈ r, S < 2 ^ 1000 := fun S h => hs S (List.mem_cons_of_mem _ h)
    have hsa : S &&& a < 2 ^ 1000 := Nat.lt_of_le_of_lt Nat.and_le_left (hs S List.mem_cons_self)
    have ht : (nrm (eOp (oEq false) (eOp (oBit iand) (eVar 5) (eVar 1)) (eC (.int 0)))) [some (.ref l), some (nI c), some (nI a), some (optD b), some (.int f), some (nI S), x6] m = some (.bl (S &&& c == 0), m) := by
      refine nrm_gr0 (op_to (x := nI (S &&& c)) (m1 := m) (op_to (v_at (d := nI S) rfl) (v_at (d := nI c) rfl) rfl) c_at ?_) rfl
      rw [oeq_int]
      show some (D.bl (false != (((S &&& c : Nat) : Int) == ((0 : Nat) : Int))), m) = _
      rw [beq_cast, fne]
    rw [msGo]
    by_cases h0 : (S &&& c == 0) = true
    · rw [if_pos h0]
      rw [h0] at ht
      have ha : (sAsg (tName 6) (nrm (ePrim (lvl tab (k + 1) 4) (aCons (eOp (oBit iand) (eVar 5) (eVar 2)) aNil)))) [some (.ref l), some (nI c), some (nI a), some (optD b), some (.int f), some (nI S), x6] m = some (.nx [some (.ref l), some (nI c), some (nI a), some (optD b), some (.int f), some (nI S), some (.int (size (S &&& a)))], m) :=
        asg_nm (nrm_gr0 (d := .int _) (prim_to (a_one (d := nI (S &&& a)) (op_to (v_at (d := nI S) rfl) (v_at (d := nI a) rfl) rfl)) (s_size' k m _ hsa)) rfl)
      have ht2 : (nrm (eOr (eUn (oIsN false) (eVar 3)) (eOp (oCmp fun i j => decide (i < j)) (eVar 6) (eVar 4)))) [some (.ref l), some (nI c), some (nI a), some (optD b), some (.int f), some (nI S), some (.int (size (S &&& a)))] m = some (.bl (b.isNone || decide (size (S &&& a) < f)), m) := by
        refine nrm_gr0 ?_ rfl
        cases b <;> rfl
      split
      · rename_i hb
        rw [hb] at ht2
        obtain ⟨y4, y5, y6, ih⟩ := missed_loop (k := k) hg c a r (some (S &&& a)) (size (S &&& a)) (some (nI S)) (some (.int (size (S &&& a)))) hr
        refine ⟨y4, y5, y6, fcq hg rfl (m2 := m) (ift ht (sq ha (ift ht2 (sq (asg_nm (nrm_gr0 (d := nI (S &&& a)) (op_to (v_at (d := nI S) rfl) (v_at (d := nI a) rfl) rfl) rfl)) (asg_nm (nrm_gr0 (d := .int (size (S &&& a))) (v_at rfl) rfl)))))) ih⟩
      · rename_i hb
        have hb' : (b.isNone || decide (size (S &&& a) < f)) = false := Bool.eq_false_iff.mpr hb
        rw [hb'] at ht2
        obtain ⟨y4, y5, y6, ih⟩ := missed_loop (k := k) hg c a r b f (some (nI S)) (some (.int (size (S &&& a)))) hr
        exact ⟨y4, y5, y6, fcq hg rfl (m2 := m) (ift ht (sq ha (iff' ht2 rfl))) ih⟩
    · rw [if_neg h0]
      have h0' : (S &&& c == 0) = false := by simpa using h0
      rw [h0'] at ht
      obtain ⟨y4, y5, y6, ih⟩ := missed_loop (k := k) hg c a r b f (some (nI S)) x6 hr
      exact ⟨y4, y5, y6, fcq hg rfl (m2 := m) (iff' ht rfl) ih⟩
theorem s_missed (k : Nat) {m : M} {l : Nat} {sup : List Nat} (c a : Nat) (h : m[l]? = some (.lst (sup.map nI))) (hs : ∀ S ∈ sup, S < 2 ^ 1000) : lvl tab (k + 2) 9 [.ref l, nI c, nI a] m = some (optD (ms sup c a), m) := by
  obtain ⟨y4, y5, y6, hx⟩ := missed_loop (k := k) (l := l) (gd_one h) c a sup none 0 none none hs
  rw [show lvl tab (k + 2) 9 = m_missed (lvl tab (k + 1)) from rfl, m_missed]
  refine fn_gr (r := []) (d := optD _) ?_ (optD_gr _)
  rw [List.append_nil]
  refine sq (asg_nm (nrm_gr0 (d := .non) c_at rfl)) ?_
  refine sq (asg_nm (nrm_gr0 (d := .int 0) c_at rfl)) ?_
  exact sq (frq (seq_ref (v_at (d := .ref l) rfl) h) hx) (ret_rt (v_at (d := optD (ms sup c a)) rfl))
end K47
end

section
set_option linter.all false
namespace K47
open PySem Dm Bits
def stD (x : Nat × Nat) : D := .tup [nI x.1, nI x.2]
theorem stD_gr : ∀ st : List (Nat × Nat), D.grL (st.map stD) = true := fun xs => by
  rw [grL_iff]; intro x hx; obtain ⟨i, _, rfl⟩ := List.mem_map.mp hx; rfl
theorem every_loop {gd : Gd} {m : M} (hg : gdOk gd m = true) {e0 : Option D} {r : Dm.Env} : ∀ (sup : List Nat) (e : Nat) (x2 : Option D), ∃ y2,
    forGo gd (tName 2) (sAsg (tName 1) (nrm (eOp (oBit ior) (eVar 1) (eVar 2)))) (sup.map nI) (e0 :: some (nI e) :: x2 :: r) m = some (.nx (e0 :: some (nI (sup.foldl (· ||| ·) e)) :: y2 :: r), m)
  | [], e, x2 => ⟨x2, for_nil hg⟩
  | S :: sup, e, x2 => by
    obtain ⟨y2, ih⟩ := every_loop (e0 := e0) (r := r) hg sup (e ||| S) (some (nI S))
    exact ⟨y2, fcq hg rfl (m2 := m) (asg_nm (nrm_gr0 (d := nI (e ||| S)) (op_to (v_at (d := nI e) rfl) (v_at (d := nI S) rfl) rfl) rfl)) ih⟩
theorem shl_one (p : Nat) (hp : p ≤ 1000000) (m : M) : oShl (.int 1) (nI p) m = some (nI (2 ^ p), m) := by
  show (if 0 ≤ (p : Int) ∧ (p : Int) ≤ 1000000 ∧ (1 : Int).natAbs < 2 ^ 64 then some (D.int (1 * 2 ^ (p : Int).toNat), m) else none) = _
  rw [if_pos ⟨by omega, by omega, by decide⟩]
  simp [nI]
theorem kids_loop {gd : Gd} {m r : M} (hg : ∀ xs, gdOk gd (m ++ .lst xs :: r) = true) {e0 e1 e2 e4 : Option D} (c : Nat) : ∀ (ps : List Nat) (a : Nat) (st : List (Nat × Nat)) (x7 : Option D), (∀ p ∈ ps, p < 1000) → st.length + ps.length < 16777216 → ∃ y6 y7,
    forGo gd (tName 7) (sSeq (sAsg (tName 6) (nrm (eOp (oBit ixor) (eVar 6) (eOp oShl (eC (.int 1)) (eVar 7)))))
    (sExpr (eMeth .list mAppend (eVar 3) (aCons (eTup (aCons (eOp (oBit ior) (eVar 5) (eOp oShl (eC (.int 1)) (eVar 7))) (aCons (eVar 6) aNil))) aNil)))) (ps.map nI) [e0, e1, e2, some (.ref m.length), e4, some (nI c), some (nI a), x7] (m ++ .lst (st.map stD) :: r)
      = some (.nx [e0, e1, e2, some (.ref m.length), e4, some (nI c), y6, y7], m ++ .lst ((st ++ kids c a ps).map stD) :: r)
  | [], a, st, x7, _, _ => ⟨_, _, by rw [kids, List.append_nil]; exact for_nil (hg _)⟩
  | p :: ps, a, st, x7, hp, hl => by
    rw [List.length_cons] at hl
    obtain ⟨y6, y7, ih⟩ := kids_loop hg (e0 := e0) (e1 := e1) (e2 := e2) (e4 := e4) c ps (a ^^^ 2 ^ p) (st ++ [(c ||| 2 ^ p, a ^^^ 2 ^ p)]) (some (nI p)) (fun q hq => hp q (List.mem_cons_of_mem _ hq)) (by rw [List.length_append]; simp; omega)
    have h1 := hp p List.mem_cons_self
    have hget : (m ++ Ob.lst (st.map stD) :: r)[m.length]? = some (.lst (st.map stD)) := by rw [get_app0]; rfl
    refine ⟨y6, y7, fcq (hg _) rfl (m2 := m ++ .lst ((st ++ [(c ||| 2 ^ p, a ^^^ 2 ^ p)]).map stD) :: r) (e2 := [e0, e1, e2, some (.ref m.length), e4, some (nI c), some (nI (a ^^^ 2 ^ p)), some (nI p)]) (sq (asg_nm (nrm_gr0 (d := nI (a ^^^ 2 ^ p)) (op_to (v_at (d := nI a) rfl) (op_to c_at (v_at (d := nI p) rfl) (shl_one p (by omega) _)) rfl) rfl))
      ((expr_nx (meth_to (v_at (d := .ref m.length) rfl) (rcv_lst hget) (a_one (tup_at (a_cons (op_to (v_at (d := nI c) rfl) (op_to c_at (v_at (d := nI p) rfl) (shl_one p (by omega) _)) (r := (nI (c ||| 2 ^ p), _)) rfl) (a_one (v_at (d := nI (a ^^^ 2 ^ p)) rfl))) (show 2 ≤ 16777216 by decide))) (append_at _ hget (by rw [List.length_map]; show _ < 16777216; omega)))).trans ?_)) ?_⟩
    · rw [set_app0, List.set_cons_zero, List.map_append]; rfl
    · rw [List.append_assoc] at ih
      exact ih
theorem len_wt : ∀ st : List (Nat × Nat), st.length ≤ wt st
  | [] => Nat.zero_le _
  | x :: r => by rw [List.length_cons, wt]; have := len_wt r; have := Nat.two_pow_pos (pc x.2); omega
theorem kids_len (c : Nat) : ∀ (ps : List Nat) (a : Nat), (kids c a ps).length = ps.length
  | [], _ => rfl
  | p :: ps, a => by rw [kids, List.length_cons, List.length_cons, kids_len c ps]
theorem cm_loop (k : Nat) {m : M} {l : Nat} {sup : List Nat} (h : m[l]? = some (.lst (sup.map nI))) (hs : ∀ S ∈ sup, S < 2 ^ 1000) : ∀ (n : Nat) (st : List (Nat × Nat)) (f f' : List Nat) (junk : M) (x1 x2 x5 x6 x7 : Option D), run sup (ms sup) n st f = some f' → wt st + f.length ≤ 1048576 → ∃ env' junk', env'[4]? = some (some (.ref (m.length + 1))) ∧
    whGo (nrm (eOp (oCmp fun i j => decide (j < i)) (ePrim pLen (aCons (eVar 3) aNil)) (eC (.int 0)))) (sSeq (sAsg (tTup ((tName 5) :: ((tName 6) :: []))) (nrm (eMeth .list mPop (eVar 3) aNil)))
    (sSeq (sIf (nrm (ePrim (lvl tab (k + 2) 10) (aCons (eVar 0) (aCons (eVar 5) aNil)))) sCnt sNil)
    (sSeq (sAsg (tName 2) (nrm (ePrim (lvl tab (k + 2) 9) (aCons (eVar 0) (aCons (eVar 5) (aCons (eVar 6) aNil))))))
    (sIf (nrm (eUn (oIsN false) (eVar 2))) (sExpr (eMeth .list mAppend (eVar 4) (aCons (eVar 5) aNil))) (sFor (iSeq (ePrim (lvl tab (k + 2) 5) (aCons (eVar 2) aNil))) (tName 7) (sSeq (sAsg (tName 6) (nrm (eOp (oBit ixor) (eVar 6) (eOp oShl (eC (.int 1)) (eVar 7)))))
    (sExpr (eMeth .list mAppend (eVar 3) (aCons (eTup (aCons (eOp (oBit ior) (eVar 5) (eOp oShl (eC (.int 1)) (eVar 7))) (aCons (eVar 6) aNil))) aNil)))))))))
      n [some (.ref l), x1, x2, some (.ref m.length), some (.ref (m.length + 1)), x5, x6, x7] (m ++ .lst (st.map stD) :: .lst (f.map nI) :: junk) = some (.nx env', m ++ .lst [] :: .lst (f'.map nI) :: junk')
  | 0, st, f, f', _, _, _, _, _, _, hr, _ => by cases hr
  | n + 1, st, f, f', junk, x1, x2, x5, x6, x7, hr, hw => by
    rw [Bits.run] at hr
    have hget : (m ++ Ob.lst (st.map stD) :: .lst (f.map nI) :: junk)[m.length]? = some (.lst (st.map stD)) := by rw [get_app0]; rfl
    have hlen := len_lst hget
    cases e : st.getLast? with
    | none =>
      rw [e] at hr
      cases hr
      have : st = [] := List.getLast?_eq_none_iff.mp e
      subst this
      exact ⟨_, junk, rfl, wh_f (nrm_gr0 (d := .bl false) (op_to (prim_to (a_one (v_at (d := .ref m.length) rfl)) hlen) c_at rfl) rfl)⟩
    | some x =>
      obtain ⟨c, a⟩ := x
      rw [e] at hr
      dsimp only at hr
      have es := last_split e
      generalize st.dropLast = st0 at es hr
      subst es
      have ew : wt (st0 ++ [(c, a)]) = wt st0 + 2 ^ pc a := by rw [wt_app]; simp [wt]
      have hpos := Nat.two_pow_pos (pc a)
      have lw := len_wt st0
      have ht : (nrm (eOp (oCmp fun i j => decide (j < i)) (ePrim pLen (aCons (eVar 3) aNil)) (eC (.int 0)))) [some (.ref l), x1, x2, some (.ref m.length), some (.ref (m.length + 1)), x5, x6, x7] (m ++ .lst ((st0 ++ [(c, a)]).map stD) :: .lst (f.map nI) :: junk) = some (.bl true, m ++ .lst ((st0 ++ [(c, a)]).map stD) :: .lst (f.map nI) :: junk) := by
        refine nrm_gr0 (op_to (prim_to (a_one (v_at (d := .ref m.length) rfl)) hlen) c_at ?_) rfl
        show some (D.bl (decide ((0 : Int) < (((st0 ++ [(c, a)]).map stD).length : Int))), _) = _
        rw [decide_eq_true (by rw [List.length_map, List.length_append, List.length_singleton]; omega)]
      have hpop : (sAsg (tTup ((tName 5) :: ((tName 6) :: []))) (nrm (eMeth .list mPop (eVar 3) aNil))) [some (.ref l), x1, x2, some (.ref m.length), some (.ref (m.length + 1)), x5, x6, x7] (m ++ .lst ((st0 ++ [(c, a)]).map stD) :: .lst (f.map nI) :: junk) = some (.nx [some (.ref l), x1, x2, some (.ref m.length), some (.ref (m.length + 1)), some (nI c), some (nI a), x7], m ++ .lst (st0.map stD) :: .lst (f.map nI) :: junk) := by
        refine asg_t (nrm_mut (d := stD (c, a)) (m1 := m ++ .lst (st0.map stD) :: .lst (f.map nI) :: junk) (meth_to (v_at (d := .ref m.length) rfl) (rcv_lst hget) a_nil ((pop_at (xs := st0.map stD) (y := stD (c, a)) (by rw [hget, List.map_append]; rfl)).trans ?_)) ?_ (by simp) rfl) rfl
        · rw [set_app0, List.set_cons_zero]
        · have := stb_set (m := m ++ .lst ((st0 ++ [(c, a)]).map stD) :: .lst (f.map nI) :: junk) m.length (o := .lst (st0.map stD)) (stD_gr st0) (stb_self _)
          rwa [set_app0, List.set_cons_zero] at this
      have hsup : (m ++ Ob.lst (st0.map stD) :: .lst (f.map nI) :: junk)[l]? = some (.lst (sup.map nI)) := get_old h _
      have hidle := s_idle (k + 1) c hsup
      have hif : (nrm (ePrim (lvl tab (k + 2) 10) (aCons (eVar 0) (aCons (eVar 5) aNil)))) [some (.ref l), x1, x2, some (.ref m.length), some (.ref (m.length + 1)), some (nI c), some (nI a), x7] (m ++ .lst (st0.map stD) :: .lst (f.map nI) :: junk) = some (.bl (idle sup c), m ++ .lst (st0.map stD) :: .lst (f.map nI) :: junk) :=
        nrm_gr0 (prim_to (a_cons (v_at (d := .ref l) rfl) (a_one (v_at (d := nI c) rfl))) hidle) rfl
      by_cases hi : idle sup c = true
      · rw [if_pos hi] at hr
        rw [hi] at hif
        obtain ⟨env', junk', h4, ih⟩ := cm_loop k h hs n st0 f f' junk x1 x2 (some (nI c)) (some (nI a)) x7 hr (by omega)
        exact ⟨env', junk', h4, whc ht ((seq_nx hpop).trans (seq_ct (ift hif rfl))) ih⟩
      · rw [if_neg hi] at hr
        rw [Bool.eq_false_iff.mpr hi] at hif
        have hms := s_missed k c a hsup hs
        have hm2 : (sAsg (tName 2) (nrm (ePrim (lvl tab (k + 2) 9) (aCons (eVar 0) (aCons (eVar 5) (aCons (eVar 6) aNil)))))) [some (.ref l), x1, x2, some (.ref m.length), some (.ref (m.length + 1)), some (nI c), some (nI a), x7] (m ++ .lst (st0.map stD) :: .lst (f.map nI) :: junk) = some (.nx [some (.ref l), x1, some (optD (ms sup c a)), some (.ref m.length), some (.ref (m.length + 1)), some (nI c), some (nI a), x7], m ++ .lst (st0.map stD) :: .lst (f.map nI) :: junk) :=
          asg_nm (nrm_gr0 (prim_to (a_cons (v_at (d := .ref l) rfl) (a_cons (v_at (d := nI c) rfl) (a_one (v_at (d := nI a) rfl)))) hms) (optD_gr _))
        cases eb : ms sup c a with
        | none =>
          rw [eb] at hr hm2
          dsimp only at hr
          have hgf : (m ++ Ob.lst (st0.map stD) :: .lst (f.map nI) :: junk)[m.length + 1]? = some (.lst (f.map nI)) := by rw [get_app]; rfl
          obtain ⟨env', junk', h4, ih⟩ := cm_loop k h hs n st0 (f ++ [c]) f' junk x1 (some .non) (some (nI c)) (some (nI a)) x7 hr (by rw [List.length_append, List.length_singleton]; omega)
          refine ⟨env', junk', h4, whq ht (sq hpop (sq (iff' hif rfl) (sq hm2 (ift (nrm_gr0 (d := .bl true) (un_to (v_at (d := .non) rfl) rfl) rfl) (expr_nx (meth_to (v_at (d := .ref (m.length + 1)) rfl) (rcv_lst hgf) (a_one (v_at (d := nI c) rfl)) (append_at _ hgf (by rw [List.length_map]; show _ < 16777216; omega)))))))) ?_⟩
          rw [set_app, List.set_cons_succ, List.set_cons_zero]
          rw [List.map_append] at ih
          exact ih
        | some b =>
          rw [eb] at hr hm2
          dsimp only at hr
          obtain ⟨S, hS, g1, g2⟩ := (ms_ok sup c a).2 b eb
          have hb : b < 2 ^ 1000 := by rw [g2]; exact Nat.lt_of_le_of_lt Nat.and_le_left (hs S hS)
          have hk := kids_wt (c := c) (places b) a (places_nodup b) fun p hp => (kid_ok (sup := sup) g1 g2 p hp).1
          have hkl := len_wt (kids c a (places b))
          rw [kids_len] at hkl
          have hpl := s_places (k + 1) (m ++ .lst (st0.map stD) :: .lst (f.map nI) :: junk) b (Nat.lt_of_le_of_lt (pc_le 1000 b hb) (by decide))
          obtain ⟨y6, y7, hkd⟩ := kids_loop (gd := [((m ++ Ob.lst (st0.map stD) :: .lst (f.map nI) :: junk).length, .lst ((places b).map nI))]) (m := m) (r := .lst (f.map nI) :: junk ++ [.lst ((places b).map nI)])
            (fun xs => gd_one (by
              have e : m ++ Ob.lst xs :: (.lst (f.map nI) :: junk ++ [.lst ((places b).map nI)]) = (m ++ Ob.lst xs :: .lst (f.map nI) :: junk) ++ [.lst ((places b).map nI)] := by simp
              have e2 : (m ++ Ob.lst (st0.map stD) :: .lst (f.map nI) :: junk).length = (m ++ Ob.lst xs :: .lst (f.map nI) :: junk).length := by simp
              rw [e, e2, get_app0]; rfl)) (e0 := some (.ref l)) (e1 := x1) (e2 := some (nI b)) (e4 := some (.ref (m.length + 1))) c (places b) a st0 x7 (fun p hp => place_lt hb hp) (by omega)
          obtain ⟨env', junk', h4, ih⟩ := cm_loop k h hs n (st0 ++ kids c a (places b)) f f' (junk ++ [.lst ((places b).map nI)]) x1 (some (nI b)) (some (nI c)) y6 y7 hr (by rw [wt_app]; omega)
          refine ⟨env', junk', h4, whq ht (sq hpop (sq (iff' hif rfl) (sq hm2 (iff' (nrm_gr0 (d := .bl false) (un_to (v_at (d := nI b) rfl) rfl) rfl) (frq (seq_ref (prim_to (a_one (v_at (d := nI b) rfl)) hpl) (by rw [get_app0]; rfl)) ?_))))) ih⟩
          have e : (m ++ Ob.lst (st0.map stD) :: .lst (f.map nI) :: junk) ++ [.lst ((places b).map nI)] = m ++ Ob.lst (st0.map stD) :: (.lst (f.map nI) :: junk ++ [.lst ((places b).map nI)]) := by simp
          rw [e]
          exact hkd
theorem s_cut (k : Nat) {m : M} {l : Nat} {sup : List Nat} (h : m[l]? = some (.lst (sup.map nI))) (hs : ∀ S ∈ sup, S < 2 ^ 1000) (hp : pc (every sup) ≤ 20) : ∃ f : List Nat, f.Nodup ∧ (∀ X, X ∈ f ↔ MinH sup X) ∧ lvl tab (k + 3) 11 [.ref l] m = some (.ref m.length, m ++ [.lst (f.map nI)]) := by
  have hw : 2 ^ pc (every sup) ≤ 1048576 := Nat.le_trans (Nat.pow_le_pow_right (by decide) hp) (by decide)
  obtain ⟨f, hf, h1, h2⟩ := run_all (ms_ok sup) (n := wfuel) (show _ < 1000000000 by omega)
  refine ⟨f, h1, h2, ?_⟩
  obtain ⟨y2, he⟩ := every_loop (gd_one h) (e0 := some (.ref l)) (r := [none, none, none, none, none]) sup 0 none
  obtain ⟨env', junk', h4, hx⟩ := cm_loop k h hs wfuel [(0, every sup)] [] f [] (some (nI (every sup))) y2 none none none hf (by simp [wt]; exact hw)
  rw [show lvl tab (k + 3) 11 = m_cut_masks (lvl tab (k + 2)) from rfl, m_cut_masks]
  refine fn_new (i := 1) (r := .lst [] :: .lst (f.map nI) :: junk') (o := .lst (f.map nI)) ?_ rfl (ints_of_nat _)
  refine sq (asg_nm (nrm_gr0 (d := nI 0) c_at rfl)) ?_
  refine sq (frq (seq_ref (v_at (d := .ref l) rfl) h) he) ?_
  refine sq (asg_nm (nrm_new0 (o := .lst [stD (0, every sup)]) (r := []) (lst_at (a_one (tup_at (a_cons c_at (a_one (v_at (d := nI (every sup)) rfl))) (show 2 ≤ 16777216 by decide))) (show 1 ≤ 16777216 by decide)) rfl)) ?_
  refine sq (asg_nm (nrm_new (m := m ++ [.lst [stD (0, every sup)]]) (i := 0) (o := .lst []) (r := [.lst []]) (lst_at a_nil (Nat.zero_le _)) rfl rfl)) ?_
  refine sq (e1 := env') (m1 := m ++ .lst [] :: .lst (f.map nI) :: junk') ?_ (ret_rt (v_at h4))
  have e : (m ++ [Ob.lst [stD (0, every sup)]]) ++ [.lst []] = m ++ .lst ([(0, every sup)].map stD) :: .lst (([] : List Nat).map nI) :: [] := by simp
  rw [e, List.length_append, List.length_singleton]
  exact hx
end K47
end

section
set_option linter.all false
namespace Sets
open Bits
/-! ## the least sets that meet each support, as ascending lists -/
abbrev SA (t : List Int) : Prop := t.Pairwise (· < ·)
def HitT (why : List (List Int)) (t : List Int) : Prop := ∀ s ∈ why, ∃ x ∈ s, x ∈ t
def MinT (why : List (List Int)) (t : List Int) : Prop := SA t ∧ HitT why t ∧ ∀ u : List Int, (∀ x ∈ u, x ∈ t) → HitT why u → ∀ x ∈ t, x ∈ u
theorem sa_ext : ∀ {a b : List Int}, SA a → SA b → (∀ x, x ∈ a ↔ x ∈ b) → a = b := fun {a b} ha hb h =>
  List.Perm.eq_of_pairwise (le := (· < ·)) (fun x y _ _ h1 h2 => by omega) ha hb
    ((List.perm_ext_iff_of_nodup (ha.imp fun h => by omega) (hb.imp fun h => by omega)).mpr h)
theorem SA.nodup {a : List Int} (h : SA a) : a.Nodup := h.imp fun h => by omega
theorem hit_congr {w w' : List (List Int)} (h : ∀ s, s ∈ w ↔ s ∈ w') {t : List Int} : HitT w t ↔ HitT w' t := ⟨fun q s hs => q s ((h s).mpr hs), fun q s hs => q s ((h s).mp hs)⟩
theorem min_congr {w w' : List (List Int)} (h : ∀ s, s ∈ w ↔ s ∈ w') {t : List Int} : MinT w t ↔ MinT w' t :=
  ⟨fun ⟨a, b, c⟩ => ⟨a, (hit_congr h).mp b, fun u hu q => c u hu ((hit_congr h).mpr q)⟩, fun ⟨a, b, c⟩ => ⟨a, (hit_congr h).mpr b, fun u hu q => c u hu ((hit_congr h).mp q)⟩⟩
theorem min_exists {w : List (List Int)} : ∀ (n : Nat) (u : List Int), u.length ≤ n → SA u → HitT w u → ∃ t, MinT w t ∧ ∀ x ∈ t, x ∈ u
  | 0, u, hl, ha, hu => by
    have : u = [] := List.length_eq_zero_iff.mp (by omega)
    subst this
    exact ⟨[], ⟨ha, hu, fun _ _ _ x hx => by simp at hx⟩, fun x hx => hx⟩
  | n + 1, u, hl, ha, hu => by
    by_cases h : ∃ x ∈ u, HitT w (u.filter fun y => decide (y ≠ x))
    · obtain ⟨x, hx, hh⟩ := h
      have hlt : (u.filter fun y => decide (y ≠ x)).length < u.length := by
        rw [List.length_filter_lt_length_iff_exists]
        exact ⟨x, hx, by simp⟩
      obtain ⟨t, h1, h2⟩ := min_exists n _ (by omega) (ha.filter _) hh
      exact ⟨t, h1, fun y hy => (List.mem_filter.mp (h2 y hy)).1⟩
    · refine ⟨u, ⟨ha, hu, fun v hv hh x hx => ?_⟩, fun x hx => hx⟩
      refine Classical.byContradiction fun hn => h ⟨x, hx, fun s hs => ?_⟩
      obtain ⟨y, h1, h2⟩ := hh s hs
      exact ⟨y, h1, List.mem_filter.mpr ⟨hv y h2, by simp; intro e; exact hn (e ▸ h2)⟩⟩
/-- each member of a least set is needed -/
theorem neededT {w : List (List Int)} {t : List Int} (h : MinT w t) {x : Int} (hx : x ∈ t) : ∃ s ∈ w, x ∈ s := by
  (refine Classical.byContradiction fun hn => ?_)
  have hh : HitT w (t.filter fun y => decide (y ≠ x)) := by
    intro s hs
    obtain ⟨y, h1, h2⟩ := h.2.1 s hs
    exact ⟨y, h1, List.mem_filter.mpr ⟨h2, by simp; intro e; exact hn ⟨s, hs, e ▸ h1⟩⟩⟩
  have := h.2.2 _ (fun y hy => (List.mem_filter.mp hy).1) hh x hx
  simp at this
def Anti (A : List (List Int)) : Prop := ∀ a ∈ A, ∀ b ∈ A, (∀ x ∈ a, x ∈ b) → a = b
/-- the least sets of the least sets -/
theorem dual {A L : List (List Int)} {U : List Int} (hU : SA U) (hA : ∀ a ∈ A, SA a ∧ ∀ x ∈ a, x ∈ U) (anti : Anti A) (hL : ∀ t, t ∈ L ↔ MinT A t) (t : List Int) : MinT L t ↔ t ∈ A := by
  have minU : ∀ u : List Int, (∀ a ∈ A, ∃ x ∈ a, x ∉ u) → ∃ s ∈ L, ∀ x ∈ s, x ∉ u := by
    intro u hu
    have hh : HitT A (U.filter fun y => decide (y ∉ u)) := fun a ha => by
      obtain ⟨x, h1, h2⟩ := hu a ha
      exact ⟨x, h1, List.mem_filter.mpr ⟨(hA a ha).2 x h1, by simpa using h2⟩⟩
    obtain ⟨s, h1, h2⟩ := min_exists _ _ (Nat.le_refl _) (hU.filter _) hh
    exact ⟨s, (hL s).mpr h1, fun x hx => by simpa using (List.mem_filter.mp (h2 x hx)).2⟩
  constructor
  · rintro ⟨h1, h2, h3⟩
    have hex : ∃ a ∈ A, ∀ x ∈ a, x ∈ t := by
      (refine Classical.byContradiction fun hn => ?_)
      obtain ⟨s, hs, h4⟩ := minU t fun a ha => Classical.byContradiction fun h5 => hn ⟨a, ha, fun x hx => Classical.byContradiction fun h6 => h5 ⟨x, hx, h6⟩⟩
      obtain ⟨x, h5, h6⟩ := h2 s hs
      exact h4 x h5 h6
    obtain ⟨a, ha, hsub⟩ := hex
    have := h3 a hsub fun s hs => by
      obtain ⟨x, h5, h6⟩ := ((hL s).mp hs).2.1 a ha
      exact ⟨x, h6, h5⟩
    rw [sa_ext h1 (hA a ha).1 fun x => ⟨this x, hsub x⟩]
    exact ha
  · intro ha
    refine ⟨(hA t ha).1, fun s hs => ?_, fun u hu hh x hx => ?_⟩
    · obtain ⟨x, h5, h6⟩ := ((hL s).mp hs).2.1 t ha
      exact ⟨x, h6, h5⟩
    · refine Classical.byContradiction fun hn => ?_
      obtain ⟨s, hs, h4⟩ := minU u fun a ha' => Classical.byContradiction fun h5 => by
        have hsub : ∀ y ∈ a, y ∈ u := fun y hy => Classical.byContradiction fun h6 => h5 ⟨y, hy, h6⟩
        have e := anti a ha' t ha fun y hy => hu y (hsub y hy)
        subst e
        exact hn (hsub x hx)
      obtain ⟨y, h5, h6⟩ := hh s hs
      exact h4 y h5 h6
/-! ## masks of lists -/
section
variable (parts : List Int)
def maskL (t : List Int) : Nat := (t.map fun x => 2 ^ parts.idxOf x).foldl (· + ·) 0
def conv (X : Nat) : List Int := (places X).map fun i => parts.getD i 0
end
variable {parts : List Int}
theorem get_idx {x : Int} (h : x ∈ parts) : parts.getD (parts.idxOf x) 0 = x := by
  have hl := List.idxOf_lt_length_iff.mpr h
  rw [List.getD_eq_getElem?_getD, List.getElem?_eq_getElem hl, Option.getD_some]
  exact List.getElem_idxOf hl
theorem get_lt (hp : SA parts) {i j : Nat} (hi : i < j) (hj : j < parts.length) : parts.getD i 0 < parts.getD j 0 := by
  rw [List.getD_eq_getElem?_getD, List.getD_eq_getElem?_getD, List.getElem?_eq_getElem hj, List.getElem?_eq_getElem (Nat.lt_trans hi hj)]
  exact List.pairwise_iff_getElem.mp hp i j _ hj hi
theorem get_inj (hp : SA parts) {i j : Nat} (hi : i < parts.length) (hj : j < parts.length) (e : parts.getD i 0 = parts.getD j 0) : i = j := by
  rcases Nat.lt_trichotomy i j with h | h | h
  · have := get_lt hp h hj; omega
  · exact h
  · have := get_lt hp h hi; omega
theorem get_mem {i : Nat} (hi : i < parts.length) : parts.getD i 0 ∈ parts := by
  (rw [List.getD_eq_getElem?_getD, List.getElem?_eq_getElem hi])
  exact List.getElem_mem hi
theorem idx_get (hp : SA parts) {i : Nat} (hi : i < parts.length) : parts.idxOf (parts.getD i 0) = i :=
  get_inj hp (List.idxOf_lt_length_iff.mpr (get_mem hi)) hi (get_idx (get_mem hi))
theorem mask_bit (hp : SA parts) {t : List Int} (ht : SA t) (hs : ∀ x ∈ t, x ∈ parts) (i : Nat) : (maskL parts t).testBit i = true ↔ i < parts.length ∧ parts.getD i 0 ∈ t := by
  have e : maskL parts t = ((t.map fun x => parts.idxOf x).map (2 ^ ·)).foldl (· + ·) 0 := by unfold maskL; rw [List.map_map]; rfl
  have nd : (t.map fun x => parts.idxOf x).Nodup := by
    rw [List.nodup_iff_pairwise_ne, List.pairwise_map]
    refine List.Pairwise.imp_of_mem (fun {a b} ha hb h => ?_) ht
    intro e
    have h1 := get_idx (hs a ha)
    have h2 := get_idx (hs b hb)
    rw [e, h2] at h1
    omega
  rw [e, sum_bits _ 0 nd (fun _ _ => by simp) i]
  simp only [Nat.zero_testBit, Bool.false_or, decide_eq_true_eq, List.mem_map]
  constructor
  · rintro ⟨x, hx, rfl⟩
    exact ⟨List.idxOf_lt_length_iff.mpr (hs x hx), by rw [get_idx (hs x hx)]; exact hx⟩
  · rintro ⟨h1, h2⟩
    exact ⟨_, h2, idx_get hp h1⟩
theorem mem_conv {X : Nat} {x : Int} : x ∈ conv parts X ↔ ∃ i, X.testBit i = true ∧ parts.getD i 0 = x := by
  unfold conv
  rw [List.mem_map]
  exact ⟨fun ⟨i, h, e⟩ => ⟨i, (mem_places X i).mp h, e⟩, fun ⟨i, h, e⟩ => ⟨i, (mem_places X i).mpr h, e⟩⟩
def Low (n X : Nat) : Prop := ∀ i, X.testBit i = true → i < n
theorem conv_sa (hp : SA parts) {X : Nat} (hX : Low parts.length X) : SA (conv parts X) := by
  unfold conv SA
  rw [List.pairwise_map]
  refine List.Pairwise.imp_of_mem (fun {a b} ha hb h => ?_) (places_sorted X)
  exact get_lt hp h (hX b ((mem_places X b).mp hb))
theorem conv_mask (hp : SA parts) {t : List Int} (ht : SA t) (hs : ∀ x ∈ t, x ∈ parts) : Low parts.length (maskL parts t) ∧ conv parts (maskL parts t) = t := by
  have hl : Low parts.length (maskL parts t) := fun i hi => ((mask_bit hp ht hs i).mp hi).1
  refine ⟨hl, sa_ext (conv_sa hp hl) ht fun x => ?_⟩
  rw [mem_conv]
  constructor
  · rintro ⟨i, h, rfl⟩
    exact ((mask_bit hp ht hs i).mp h).2
  · intro hx
    refine ⟨parts.idxOf x, (mask_bit hp ht hs _).mpr ⟨List.idxOf_lt_length_iff.mpr (hs x hx), ?_⟩, get_idx (hs x hx)⟩
    rw [get_idx (hs x hx)]; exact hx
theorem conv_inj (hp : SA parts) {X Y : Nat} (hX : Low parts.length X) (hY : Low parts.length Y) (e : conv parts X = conv parts Y) : X = Y := by
  have key : ∀ {X Y : Nat}, Low parts.length X → Low parts.length Y → conv parts X = conv parts Y → ∀ i, X.testBit i = true → Y.testBit i = true := by
    intro X Y hX hY e i hi
    have h1 : parts.getD i 0 ∈ conv parts Y := by rw [← e]; exact mem_conv.mpr ⟨i, hi, rfl⟩
    obtain ⟨j, h2, h3⟩ := mem_conv.mp h1
    rw [get_inj hp (hX i hi) (hY j h2) h3.symm]
    exact h2
  apply Nat.eq_of_testBit_eq
  intro i
  cases hx : X.testBit i with
  | true => exact (key hX hY e i hx).symm
  | false =>
    cases hy : Y.testBit i with
    | false => rfl
    | true => rw [key hY hX e.symm i hy] at hx; cases hx
section
variable {why : List (List Int)}
theorem hit_conv (hp : SA parts) (hw : ∀ s ∈ why, SA s ∧ ∀ x ∈ s, x ∈ parts) {X : Nat} (hX : Low parts.length X) : Hits (why.map (maskL parts)) X ↔ HitT why (conv parts X) := by
  constructor
  · intro h s hs
    obtain ⟨i, h1, h2⟩ := h _ (List.mem_map.mpr ⟨s, hs, rfl⟩)
    exact ⟨_, ((mask_bit hp (hw s hs).1 (hw s hs).2 i).mp h1).2, mem_conv.mpr ⟨i, h2, rfl⟩⟩
  · intro h S hS
    obtain ⟨s, hs, rfl⟩ := List.mem_map.mp hS
    obtain ⟨x, h1, h2⟩ := h s hs
    obtain ⟨i, h3, rfl⟩ := mem_conv.mp h2
    exact ⟨i, (mask_bit hp (hw s hs).1 (hw s hs).2 i).mpr ⟨hX i h3, h1⟩, h3⟩
theorem minH_low (hp : SA parts) (hw : ∀ s ∈ why, SA s ∧ ∀ x ∈ s, x ∈ parts) {X : Nat} (h : MinH (why.map (maskL parts)) X) : Low parts.length X := by
  intro i hi
  obtain ⟨S, hS, h1, _⟩ := needed h hi
  obtain ⟨s, hs, rfl⟩ := List.mem_map.mp hS
  exact ((mask_bit hp (hw s hs).1 (hw s hs).2 i).mp h1).1
theorem min_conv (hp : SA parts) (hw : ∀ s ∈ why, SA s ∧ ∀ x ∈ s, x ∈ parts) {X : Nat} (hX : Low parts.length X) : MinH (why.map (maskL parts)) X ↔ MinT why (conv parts X) := by
  constructor
  · rintro ⟨h1, h2⟩
    refine ⟨conv_sa hp hX, (hit_conv hp hw hX).mp h1, fun u hu hh x hx => ?_⟩
    -- the part of u within parts, as a mask
    have hs : SA (parts.filter fun y => decide (y ∈ u)) := hp.filter _
    have hsub : ∀ y ∈ parts.filter (fun y => decide (y ∈ u)), y ∈ parts := fun y hy => (List.mem_filter.mp hy).1
    obtain ⟨hl, e⟩ := conv_mask hp hs hsub
    have hit : Hits (why.map (maskL parts)) (maskL parts (parts.filter fun y => decide (y ∈ u))) := by
      rw [hit_conv hp hw hl, e]
      intro s hs'
      obtain ⟨y, h3, h4⟩ := hh s hs'
      exact ⟨y, h3, List.mem_filter.mpr ⟨(hw s hs').2 y h3, by simpa using h4⟩⟩
    have hsubm : sub (maskL parts (parts.filter fun y => decide (y ∈ u))) X := by
      intro i hi
      obtain ⟨h5, h6⟩ := (mask_bit hp hs hsub i).mp hi
      have h7 := hu _ (by simpa using (List.mem_filter.mp h6).2)
      obtain ⟨j, h8, h9⟩ := mem_conv.mp h7
      rw [← get_inj hp (hX j h8) h5 h9]; exact h8
    have e2 := h2 _ hsubm hit
    rw [← e2, e] at hx
    simpa using (List.mem_filter.mp hx).2
  · rintro ⟨_, h1, h2⟩
    refine ⟨(hit_conv hp hw hX).mpr h1, fun Y hY hh => ?_⟩
    have hYl : Low parts.length Y := fun i hi => hX i (hY i hi)
    have h3 := h2 (conv parts Y) (fun x hx => by
      obtain ⟨i, h4, h5⟩ := mem_conv.mp hx
      exact mem_conv.mpr ⟨i, hY i h4, h5⟩) ((hit_conv hp hw hYl).mp hh)
    refine conv_inj hp hYl hX (sa_ext (conv_sa hp hYl) (conv_sa hp hX) fun x => ⟨fun hx => ?_, h3 x⟩)
    obtain ⟨i, h4, h5⟩ := mem_conv.mp hx
    exact mem_conv.mpr ⟨i, hY i h4, h5⟩
/-- from masks to lists -/
theorem list_of_masks (hp : SA parts) (hw : ∀ s ∈ why, SA s ∧ ∀ x ∈ s, x ∈ parts) {f : List Nat} (hn : f.Nodup) (hf : ∀ X, X ∈ f ↔ MinH (why.map (maskL parts)) X) : (f.map (conv parts)).Nodup ∧ ∀ t, t ∈ f.map (conv parts) ↔ MinT why t := by
  have hlow : ∀ X ∈ f, Low parts.length X := fun X hX => minH_low hp hw ((hf X).mp hX)
  constructor
  · rw [List.nodup_iff_pairwise_ne, List.pairwise_map]
    refine List.Pairwise.imp_of_mem (fun {a b} ha hb h => ?_) (List.nodup_iff_pairwise_ne.mp hn)
    exact fun e => h (conv_inj hp (hlow a ha) (hlow b hb) e)
  · intro t
    rw [List.mem_map]
    constructor
    · rintro ⟨X, hX, rfl⟩
      exact (min_conv hp hw (hlow X hX)).mp ((hf X).mp hX)
    · intro ht
      have hs : ∀ x ∈ t, x ∈ parts := fun x hx => by
        obtain ⟨s, h1, h2⟩ := neededT ht hx
        exact (hw s h1).2 x h2
      obtain ⟨hl, e⟩ := conv_mask hp ht.1 hs
      exact ⟨_, (hf _).mpr ((min_conv hp hw hl).mpr (by rw [e]; exact ht)), e⟩
end
theorem sub_le {a b : Nat} (h : sub a b) : a ≤ b := by
  have e : a &&& b = a := by
    apply Nat.eq_of_testBit_eq
    intro i
    rw [Nat.testBit_and]
    cases q : a.testBit i with
    | false => rfl
    | true => rw [h i q]; rfl
  have := Nat.and_le_right (n := a) (m := b)
  omega
theorem exists_minH {sup : List Nat} : ∀ X, Hits sup X → ∃ Y, sub Y X ∧ MinH sup Y := by
  intro X
  induction X using Nat.strongRecOn with
  | ind X ih =>
    intro h
    by_cases hm : ∃ Y, sub Y X ∧ Hits sup Y ∧ Y ≠ X
    · obtain ⟨Y, h1, h2, h3⟩ := hm
      have hlt : Y < X := by have := sub_le h1; omega
      obtain ⟨Z, h4, h5⟩ := ih Y hlt h2
      exact ⟨Z, fun i hi => h1 i (h4 i hi), h5⟩
    · exact ⟨X, fun _ h => h, h, fun Y h1 h2 => Classical.byContradiction fun h3 => hm ⟨Y, h1, h2, h3⟩⟩
end Sets
end

section
set_option linter.all false
namespace K47
open PySem Dm Bits Sets
def dT (t : List Int) : D := .tup (t.map .int)
def dW (w : List (List Int)) : D := .tup (w.map dT)
/-! ## orders -/
theorem le_int (a b : Int) : D.le (.int a) (.int b) = decide (a ≤ b) := by
  show (!decide (b < a)) = _
  rw [← decide_not]
  congr 1
  simp [Int.not_lt]
theorem gr_dT (t : List Int) : (dT t).gr = true := ints_gr t
theorem gr_dW (w : List (List Int)) : (dW w).gr = true := by
  show D.grL _ = true
  rw [grL_iff]; intro x hx; obtain ⟨t, _, rfl⟩ := List.mem_map.mp hx; exact gr_dT t
theorem rd_gr {m : M} {d : D} (h : d.gr = true) : rd m d = some d := by
  cases d with
  | ref l => cases h
  | _ => simp only [rd]; rw [if_pos h]
theorem keys_rd {m : M} : ∀ {xs : List D}, (∀ x ∈ xs, x.gr = true) → keysBy (fun d m => (rd m d).map fun k => (k, m)) m xs = some (xs.map fun x => (x, x))
  | [], _ => rfl
  | x :: r, h => by
    rw [keysBy, rd_gr (h x List.mem_cons_self), Option.map_some]
    dsimp only
    rw [if_pos rfl, keys_rd fun y hy => h y (List.mem_cons_of_mem _ hy)]
    rfl
theorem sortBy_map {α : Type} (L : List α) (f g : α → D) (r : α → α → Bool) (h : ∀ a ∈ L, ∀ b ∈ L, r a b = D.le (g a) (g b)) : sortBy (L.map fun x => (f x, g x)) = (L.mergeSort r).map f := by
  unfold sortBy
  rw [← List.map_mergeSort (r := r) (f := fun x => (f x, g x)) (fun a ha b hb => h a ha b hb), List.map_map]
  rfl
theorem sorted_ref {α : Type} {m : M} {l : Nat} (L : List α) (f : α → D) (r : α → α → Bool) (h : ∀ a ∈ L, ∀ b ∈ L, r a b = D.le (f a) (f b)) (hg : ∀ a ∈ L, (f a).gr = true) (hs : sortable (L.map f) = true ∨ L.length ≤ 1) (hm : m[l]? = some (.lst (L.map f))) :
    pSortedA [.ref l] m = some (.ref m.length, m ++ [.lst ((L.mergeSort r).map f)]) := by
  have e : pSortedA [.ref l] m = pSorted [.ref l] m := rfl
  rw [e]
  unfold pSorted lstOf
  dsimp only
  rw [hm]
  dsimp only
  rw [keys_rd (fun x hx => by obtain ⟨a, ha, rfl⟩ := List.mem_map.mp hx; exact hg a ha)]
  dsimp only
  rw [if_pos, List.map_map]
  · have := sortBy_map L f f r h
    rw [show ((fun x => (x, x)) ∘ f) = fun x => (f x, f x) from rfl, this]
  · have e2 : ((L.map f).map fun x => (x, x)).map (fun x => x.2) = L.map f := by rw [List.map_map, List.map_map]; rfl
    rw [e2, Bool.or_eq_true]
    rcases hs with hs | hs
    · exact .inl hs
    · exact .inr (decide_eq_true (by rw [List.length_map, List.length_map]; exact hs))
theorem sorted_tup {α : Type} {m : M} (L : List α) (f : α → D) (r : α → α → Bool) (h : ∀ a ∈ L, ∀ b ∈ L, r a b = D.le (f a) (f b)) (hg : ∀ a ∈ L, (f a).gr = true) (hs : sortable (L.map f) = true) :
    pSortedA [.tup (L.map f)] m = some (.ref m.length, m ++ [.lst ((L.mergeSort r).map f)]) := by
  unfold pSortedA
  dsimp only
  rw [keys_rd (fun x hx => by obtain ⟨a, ha, rfl⟩ := List.mem_map.mp hx; exact hg a ha)]
  dsimp only
  have e2 : ((L.map f).map fun x => (x, x)).map (fun x => x.2) = L.map f := by rw [List.map_map, List.map_map]; rfl
  rw [e2, if_pos hs, List.map_map]
  have := sortBy_map L f f r h
  rw [show ((fun x => (x, x)) ∘ f) = fun x => (f x, f x) from rfl, this]
theorem alkL_ints : ∀ a b : List Int, D.alkL (a.map .int) (b.map .int) = true
  | [], _ => by simp [D.alkL]
  | _ :: _, [] => by simp [D.alkL]
  | x :: a, y :: b => by
    rw [List.map_cons, List.map_cons, D.alkL, alkL_ints a b]; rfl
theorem shp_int (i : Int) : (D.int i).shp = true := rfl
theorem txtL_ints : ∀ a : List Int, D.txtL (a.map .int) = true
  | [] => rfl
  | x :: a => by rw [List.map_cons, D.txtL, txtL_ints a]; rfl
theorem depL_ints : ∀ a : List Int, D.depL (a.map .int) = 0
  | [] => rfl
  | x :: a => by rw [List.map_cons, D.depL, depL_ints a]; rfl
theorem shp_dT (t : List Int) : (dT t).shp = true := by
  unfold D.shp
  rw [gr_dT]
  show (true && D.txtL (t.map .int) && decide (D.depL (t.map .int) + 1 ≤ 60)) = true
  rw [txtL_ints, depL_ints]; rfl
theorem srt_ints (ns : List Int) : sortable (ns.map .int) = true := by
  unfold sortable
  (rw [Bool.and_eq_true, Bool.and_eq_true])
  refine ⟨⟨?_, ?_⟩, ?_⟩
  · rw [List.all_eq_true]; intro x hx
    (rw [List.all_eq_true]; intro y hy)
    obtain ⟨i, _, rfl⟩ := List.mem_map.mp hx
    obtain ⟨j, _, rfl⟩ := List.mem_map.mp hy
    rfl
  · rw [Bool.or_eq_true]; right
    rw [List.all_eq_true]; intro x hx
    obtain ⟨i, _, rfl⟩ := List.mem_map.mp hx
    rfl
  · rw [List.all_eq_true]; intro x hx
    obtain ⟨i, _, rfl⟩ := List.mem_map.mp hx
    rfl
theorem sortable_dT (w : List (List Int)) (h : ∀ t ∈ w, t ≠ []) : sortable (w.map dT) = true := by
  unfold sortable
  (rw [Bool.and_eq_true, Bool.and_eq_true])
  refine ⟨⟨?_, ?_⟩, ?_⟩
  · rw [List.all_eq_true]; intro x hx
    (rw [List.all_eq_true]; intro y hy)
    obtain ⟨i, _, rfl⟩ := List.mem_map.mp hx
    obtain ⟨j, _, rfl⟩ := List.mem_map.mp hy
    exact alkL_ints i j
  · rw [Bool.or_eq_true]; left
    rw [List.all_eq_true]; intro x hx
    obtain ⟨i, hi, rfl⟩ := List.mem_map.mp hx
    cases i with
    | nil => exact absurd rfl (h _ hi)
    | cons a r => rfl
  · rw [List.all_eq_true]; intro x hx
    obtain ⟨i, _, rfl⟩ := List.mem_map.mp hx
    exact shp_dT i
/-- lists of whole numbers in order -/
def lexle (a b : List Int) : Bool := D.le (dT a) (dT b)
def canon (L : List (List Int)) : List (List Int) := L.mergeSort lexle
def ltI : List Int → List Int → Bool
  | [], [] => false
  | [], _ :: _ => true
  | _ :: _, [] => false
  | x :: xs, y :: ys => if x = y then ltI xs ys else decide (x < y)
theorem lt_dT : ∀ a b : List Int, D.lt (dT a) (dT b) = ltI a b := by
  have key : ∀ a b : List Int, D.ltL (a.map .int) (b.map .int) = ltI a b := by
    intro a
    induction a with
    | nil => intro b; cases b <;> rfl
    | cons x a ih =>
      intro b
      cases b with
      | nil => rfl
      | cons y b =>
        rw [List.map_cons, List.map_cons, D.ltL, ih b, ltI]
        show (if (x == y) = true then _ else decide (x < y)) = _
        by_cases h : x = y
        · (rw [if_pos (by simpa using h), if_pos h])
        · (rw [if_neg (by simpa using h), if_neg h])
  exact fun a b => key a b
theorem ltI_irrefl : ∀ a, ltI a a = false
  | [] => rfl
  | x :: a => by rw [ltI, if_pos rfl]; exact ltI_irrefl a
theorem ltI_trans : ∀ a b c, ltI a b = true → ltI b c = true → ltI a c = true
  | [], [], c, h, _ => by cases h
  | [], _ :: _, [], _, h => by cases h
  | [], _ :: _, _ :: _, _, _ => (rfl)
  | _ :: _, [], _, h, _ => (by cases h)
  | _ :: _, _ :: _, [], _, h => by cases h
  | x :: a, y :: b, z :: c, h1, h2 => by
    rw [ltI] at h1 h2 ⊢
    split at h1
    · rename_i e1
      split at h2
      · rename_i e2
        rw [if_pos (e1.trans e2)]
        exact ltI_trans a b c h1 h2
      · rename_i e2
        rw [if_neg (by omega)]
        subst e1; exact h2
    · rename_i e1
      split at h2
      · rename_i e2
        subst e2
        rw [if_neg e1]; exact h1
      · rename_i e2
        have h1 := of_decide_eq_true h1
        have h2 := of_decide_eq_true h2
        rw [if_neg (by omega)]
        (exact decide_eq_true (by omega))
theorem ltI_total : ∀ a b, ltI a b = true ∨ a = b ∨ ltI b a = true
  | [], [] => .inr (.inl rfl)
  | [], _ :: _ => .inl rfl
  | _ :: _, [] => .inr (.inr rfl)
  | x :: a, y :: b => by
    rw [ltI, ltI]
    by_cases h : x = y
    · subst h
      rw [if_pos rfl, if_pos rfl]
      rcases ltI_total a b with h | h | h
      · exact .inl h
      · subst h; exact .inr (.inl rfl)
      · exact .inr (.inr h)
    · rw [if_neg h, if_neg (Ne.symm h)]
      rcases Int.lt_trichotomy x y with z | z | z
      · exact .inl (decide_eq_true z)
      · exact absurd z h
      · exact .inr (.inr (decide_eq_true z))
theorem lexle_iff (a b : List Int) : lexle a b = true ↔ ltI b a = false := by
  unfold lexle D.le
  rw [lt_dT]
  cases ltI b a <;> simp
theorem canon_perm (L : List (List Int)) : (canon L).Perm L := List.mergeSort_perm _ _
theorem mem_canon {L : List (List Int)} {t : List Int} : t ∈ canon L ↔ t ∈ L := (canon_perm L).mem_iff
theorem canon_eq {L1 L2 : List (List Int)} (h1 : L1.Nodup) (h2 : L2.Nodup) (h : ∀ t, t ∈ L1 ↔ t ∈ L2) : canon L1 = canon L2 := by
  have tr : ∀ a b c : List Int, lexle a b = true → lexle b c = true → lexle a c = true := by
    intro a b c q1 q2
    rw [lexle_iff] at q1 q2 ⊢
    cases q3 : ltI c a with
    | false => rfl
    | true =>
      rcases ltI_total b c with z | z | z
      · rw [ltI_trans b c a z q3] at q1; cases q1
      · subst z; rw [q3] at q1; cases q1
      · rw [z] at q2; cases q2
  have tot : ∀ a b : List Int, (lexle a b || lexle b a) = true := by
    intro a b
    rw [Bool.or_eq_true, lexle_iff, lexle_iff]
    rcases ltI_total a b with z | z | z
    · left
      cases q : ltI b a with
      | false => rfl
      | true => have := ltI_trans a b a z q; rw [ltI_irrefl] at this; cases this
    · subst z; left; exact ltI_irrefl _
    · right
      cases q : ltI a b with
      | false => rfl
      | true => have := ltI_trans b a b z q; rw [ltI_irrefl] at this; cases this
  refine List.Perm.eq_of_pairwise (le := fun a b => lexle a b = true) (fun a b _ _ q1 q2 => ?_) (List.pairwise_mergeSort tr tot L1) (List.pairwise_mergeSort tr tot L2)
    ((canon_perm L1).trans (((List.perm_ext_iff_of_nodup h1 h2).mpr h).trans (canon_perm L2).symm))
  rw [lexle_iff] at q1 q2
  rcases ltI_total a b with z | z | z
  · rw [z] at q2; cases q2
  · exact z
  · rw [z] at q1; cases q1
theorem canon_nodup {L : List (List Int)} (h : L.Nodup) : (canon L).Nodup := (canon_perm L).nodup_iff.mpr h
end K47
end

section
set_option linter.all false
namespace K47
open PySem Dm Bits Sets
/-! ## ordered_parts -/
def ad (acc : List Int) (x : Int) : List Int := if x ∈ acc then acc else acc ++ [x]
def kv (acc : List Int) : List (D × D) := acc.map fun x => (.int x, .bl true)
theorem ad_len (acc : List Int) (x : Int) : (ad acc x).length ≤ acc.length + 1 := by
  unfold ad; split
  · omega
  · (rw [List.length_append]; simp)
theorem mem_ad {acc : List Int} {x y : Int} : y ∈ ad acc x ↔ y ∈ acc ∨ y = x := by
  unfold ad; split
  · rename_i h; exact ⟨.inl, fun q => q.elim id fun e => e ▸ h⟩
  · simp
theorem ad_nodup {acc : List Int} {x : Int} (h : acc.Nodup) : (ad acc x).Nodup := by
  unfold ad; split
  · exact h
  · rename_i hn
    rw [List.nodup_append]
    refine ⟨h, by simp, fun a ha b hb => ?_⟩
    have : b = x := by simpa using hb
    subst this
    exact fun e => hn (e ▸ ha)
theorem ads_facts : ∀ (t acc : List Int), (t.foldl ad acc).length ≤ acc.length + t.length ∧ (acc.Nodup → (t.foldl ad acc).Nodup) ∧ ∀ y, y ∈ t.foldl ad acc ↔ y ∈ acc ∨ y ∈ t
  | [], acc => ⟨by simp, fun h => h, fun y => by simp⟩
  | x :: t, acc => by
    obtain ⟨h1, h2, h3⟩ := ads_facts t (ad acc x)
    have h4 := ad_len acc x
    refine ⟨by rw [List.foldl_cons, List.length_cons]; omega, fun h => h2 (ad_nodup h), fun y => ?_⟩
    rw [List.foldl_cons, h3, mem_ad, List.mem_cons]
    constructor
    · rintro ((h | h) | h)
      · exact .inl h
      · exact .inr (.inl h)
      · exact .inr (.inr h)
    · rintro (h | h | h)
      · exact .inl (.inl h)
      · exact .inl (.inr h)
      · exact .inr h
theorem dput_kv (acc : List Int) (x : Int) : dput (kv acc) (.int x) (.bl true) = kv (ad acc x) := by
  unfold dput ad kv
  have e : ((acc.map fun x => ((D.int x, D.bl true) : D × D)).any fun p => decide (p.1 = D.int x)) = decide (x ∈ acc) := by
    rw [List.any_map]
    induction acc with
    | nil => simp
    | cons y r ih =>
      rw [List.any_cons, ih]
      by_cases h : y = x
      · subst h; simp
      · have h2 : ¬ x = y := fun z => h z.symm
        simp [h, h2]
  rw [e]
  by_cases h : x ∈ acc
  · rw [if_pos (by simpa using h), if_pos h, List.map_map]
    apply List.map_congr_left
    intro y hy
    show (if D.int y = D.int x then (D.int y, D.bl true) else (D.int y, D.bl true)) = _
    split <;> rfl
  · rw [if_neg (by simpa using h), if_neg h, List.map_append]
    rfl
theorem parts_in {m : M} {e0 e1 e2 e3 : Option D} : ∀ (t acc : List Int) (x4 : Option D), acc.length + t.length < 16777216 →
    dcGo [] (tName 4) (eC (.bl true)) (nrm (eVar 4)) (nrm (eC (.bl true))) [e0, e1, e2, e3, x4] (t.map .int) (kv acc) m = some (kv (t.foldl ad acc), m)
  | [], acc, x4, _ => by rw [List.map_nil, dcGo, if_pos (gd_nil m)]; rfl
  | x :: t, acc, x4, hl => by
    rw [List.length_cons] at hl
    have h1 := ad_len acc x
    rw [List.map_cons, dcGo, if_pos (gd_nil m)]
    have h2 : nrm (eVar 4) [e0, e1, e2, e3, some (.int x)] m = some (.int x, m) := nrm_gr0 (v_at rfl) rfl
    have h3 : nrm (eC (.bl true)) [e0, e1, e2, e3, some (.int x)] m = some (.bl true, m) := nrm_gr0 c_at rfl
    show (match nrm (eVar 4) [e0, e1, e2, e3, some (.int x)] m with
      | some (k, m2) => match nrm (eC (.bl true)) [e0, e1, e2, e3, some (.int x)] m2 with
        | some (v, m3) => if (kv acc).length < lineN && keyFor (kv acc) k then dcGo [] (tName 4) (eC (.bl true)) (nrm (eVar 4)) (nrm (eC (.bl true))) [e0, e1, e2, e3, x4] (t.map .int) (dput (kv acc) k v) m3 else none
        | none => none
      | none => none) = _
    rw [h2]; dsimp only; rw [h3]; dsimp only
    rw [if_pos, dput_kv, List.foldl_cons]
    · exact parts_in t (ad acc x) x4 (by omega)
    · rw [Bool.and_eq_true]
      exact ⟨decide_eq_true (by show (acc.map _).length < 16777216; rw [List.length_map]; omega), rfl⟩
theorem parts_out {m : M} {e0 e1 e2 : Option D} : ∀ (w : List (List Int)) (acc : List Int) (x3 x4 : Option D), acc.length + w.flatten.length < 16777216 →
    dc2Go [] (tName 3) (eC (.bl true)) (iSeq (eVar 3)) [4] (tName 4) (eC (.bl true)) (nrm (eVar 4)) (nrm (eC (.bl true))) [e0, e1, e2, x3, x4] (w.map dT) (kv acc) m = some (kv (w.flatten.foldl ad acc), m)
  | [], acc, x3, x4, _ => by rw [List.map_nil, dc2Go, if_pos (gd_nil m)]; rfl
  | t :: w, acc, x3, x4, hl => by
    rw [List.flatten_cons, List.length_append] at hl
    have h1 := (ads_facts t acc).1
    rw [List.map_cons, dc2Go, if_pos (gd_nil m)]
    have hi : iSeq (eVar 3) [e0, e1, e2, some (dT t), x4] m = some (t.map .int, [], m) := seq_tup (v_at rfl)
    show (match iSeq (eVar 3) [e0, e1, e2, some (dT t), x4] m with
      | some (ds1, gd1, m2) => match dcGo gd1 (tName 4) (eC (.bl true)) (nrm (eVar 4)) (nrm (eC (.bl true))) (wipeE [e0, e1, e2, some (dT t), x4] [4]) ds1 (kv acc) m2 with
        | some (acc1, m3) => dc2Go [] (tName 3) (eC (.bl true)) (iSeq (eVar 3)) [4] (tName 4) (eC (.bl true)) (nrm (eVar 4)) (nrm (eC (.bl true))) [e0, e1, e2, x3, x4] (w.map dT) acc1 m3
        | none => none
      | none => none) = _
    rw [hi]
    dsimp only
    rw [show wipeE [e0, e1, e2, some (dT t), x4] [4] = [e0, e1, e2, some (dT t), none] from rfl, parts_in t acc none (by omega)]
    dsimp only
    rw [parts_out w _ x3 x4 (by omega), List.flatten_cons, List.foldl_append]
def partsOf (w : List (List Int)) : List Int := (w.flatten.foldl ad []).mergeSort fun a b => decide (a ≤ b)
theorem partsOf_ok (w : List (List Int)) : SA (partsOf w) ∧ (∀ x, x ∈ partsOf w ↔ ∃ s ∈ w, x ∈ s) ∧ (partsOf w).length ≤ w.flatten.length := by
  obtain ⟨h1, h2, h3⟩ := ads_facts w.flatten []
  have hp : (partsOf w).Perm (w.flatten.foldl ad []) := List.mergeSort_perm _ _
  have hs : (partsOf w).Pairwise fun a b => decide (a ≤ b) = true := List.pairwise_mergeSort (fun a b c h1 h2 => decide_eq_true (by have := of_decide_eq_true h1; have := of_decide_eq_true h2; omega)) (fun a b => by
    rw [Bool.or_eq_true]
    rcases Int.le_total a b with h | h
    · exact .inl (decide_eq_true h)
    · exact .inr (decide_eq_true h)) _
  have hn : (partsOf w).Nodup := hp.nodup_iff.mpr (h2 .nil)
  refine ⟨?_, fun x => ?_, ?_⟩
  · refine (hs.and (List.nodup_iff_pairwise_ne.mp hn)).imp fun h => ?_
    have := of_decide_eq_true h.1
    have := h.2
    omega
  · rw [hp.mem_iff, h3, List.mem_flatten]
    simp
  · rw [hp.length_eq]
    simpa using h1
theorem s_parts (k : Nat) (m : M) (w : List (List Int)) (hl : w.flatten.length < 16777216) : lvl tab (k + 1) 6 [c_WHYS, dW w] m = some (.ref m.length, m ++ [.lst ((partsOf w).map .int)]) := by
  rw [show lvl tab (k + 1) 6 = m_ordered_parts (lvl tab k) from rfl, m_ordered_parts]
  refine fn_new (i := 2) (r := [.dct (kv (w.flatten.foldl ad [])), .lst ((w.flatten.foldl ad []).map .int), .lst ((partsOf w).map .int)]) (o := .lst ((partsOf w).map .int)) ?_ rfl (ints_gr _)
  refine sq (asg_nm (nrm_new0 (o := .dct (kv (w.flatten.foldl ad []))) (r := []) ?_ ?_)) ?_
  · have hi : iSeq (eVar 1) [some c_WHYS, some (dW w), none, none, none] m = some (w.map dT, [], m) := seq_tup (v_at rfl)
    show eDc2 _ _ _ _ _ _ _ _ _ _ [some c_WHYS, some (dW w), none, none, none] m = _
    unfold eDc2
    rw [hi]
    dsimp only
    rw [show wipeE [some c_WHYS, some (dW w), none, none, none] [3, 4] = [some c_WHYS, some (dW w), none, none, none] from rfl]
    have := parts_out (m := m) (e0 := some c_WHYS) (e1 := some (dW w)) (e2 := none) w [] none none (by simpa using hl)
    rw [show ([] : List (D × D)) = kv [] from rfl, this]
  · show ((kv _).all fun p => p.1.gr && p.2.gr) = true
    unfold kv
    rw [List.all_map, List.all_eq_true]
    intro x _; rfl
  · refine sq (iff' (m1 := m ++ [.dct (kv (w.flatten.foldl ad []))]) (nrm_gr0 (d := .bl false) (op_to (op_to (v_at (d := c_WHYS) rfl) c_at (r := (.str (Str.ofString "whys"), _)) rfl) c_at ?_) rfl) rfl) ?_
    · show oEq false (.str (Str.ofString "whys")) (.str (Str.ofString "reasons")) _ = _
      unfold oEq
      rw [rd_gr rfl, rd_gr rfl]
      dsimp only
      rw [if_pos (by decide +kernel)]
      have : D.eq (.str (Str.ofString "whys")) (.str (Str.ofString "reasons")) = false := by decide +kernel
      rw [this]; rfl
    · refine ret_rt (prim_to (a_one (d := .ref (m.length + 1)) (m1 := m ++ [.dct (kv (w.flatten.foldl ad [])), .lst ((w.flatten.foldl ad []).map .int)]) (prim_to (a_one (v_at (d := .ref m.length) rfl)) ?_)) ?_)
      · unfold pList
        dsimp only
        rw [get_app0]
        simp [kv]
      · have h := sorted_ref (m := m ++ [.dct (kv (w.flatten.foldl ad [])), .lst ((w.flatten.foldl ad []).map .int)]) (l := m.length + 1) (w.flatten.foldl ad []) D.int (fun a b => decide (a ≤ b)) (fun a _ b _ => (le_int a b).symm) (fun _ _ => rfl) (.inl (srt_ints _)) (by rw [get_app]; rfl)
        rw [h]
        simp [partsOf]
end K47
end

section
set_option linter.all false
namespace K47
open PySem Dm Bits Sets
/-! ## masks_of -/
def bkv : Nat → List Int → List (D × D)
  | _, [] => []
  | i, x :: r => (.int x, nI (2 ^ i)) :: bkv (i + 1) r
theorem bkv_get : ∀ (xs : List Int) (i : Nat) (x : Int), x ∈ xs → dget (bkv i xs) (.int x) = some (nI (2 ^ (i + xs.idxOf x)))
  | [], _, _, h => by simp at h
  | y :: r, i, x, h => by
    unfold dget bkv
    rw [List.find?_cons]
    by_cases e : y = x
    · subst e
      simp
    · have h2 : x ∈ r := (List.mem_cons.mp h).resolve_left fun z => e z.symm
      have ih := bkv_get r (i + 1) x h2
      unfold dget at ih
      rw [show (decide (((D.int y, nI (2 ^ i)) : D × D).1 = D.int x)) = false from decide_eq_false (by intro q; injection q with q; exact e q)]
      dsimp only
      rw [ih, List.idxOf_cons]
      rw [show (y == x) = false from beq_eq_false_iff_ne.mpr e]
      simp only [cond_false]
      congr 3
      omega
theorem dput_new {kvs : List (D × D)} {k v : D} (h : ∀ p ∈ kvs, p.1 ≠ k) : dput kvs k v = kvs ++ [(k, v)] := by
  unfold dput
  rw [if_neg]
  rw [List.any_eq_true]
  rintro ⟨p, hp, e⟩
  exact h p hp (of_decide_eq_true e)
theorem bits_loop {m : M} {gd : Gd} (hg : gdOk gd m = true) {e0 e1 e2 e5 : Option D} : ∀ (xs : List Int) (i : Nat) (acc : List (D × D)) (x3 x4 : Option D), (∀ p ∈ acc, ∀ x ∈ xs, p.1 ≠ .int x) → xs.Nodup → i + xs.length ≤ 1000 → acc.length + xs.length < 16777216 →
    dcGo gd (tTup ((tName 3) :: ((tName 4) :: []))) (eC (.bl true)) (nrm (eVar 4)) (nrm (eOp oShl (eC (.int 1)) (eVar 3))) [e0, e1, e2, x3, x4, e5] (numb i (xs.map .int)) acc m = some (acc ++ bkv i xs, m)
  | [], i, acc, x3, x4, _, _, _, _ => by rw [List.map_nil, numb, dcGo, if_pos hg, bkv, List.append_nil]
  | x :: r, i, acc, x3, x4, ha, hn, hi, hl => by
    rw [List.nodup_cons] at hn
    rw [List.length_cons] at hi hl
    rw [List.map_cons, numb, dcGo, if_pos hg]
    have h2 : nrm (eVar 4) [e0, e1, e2, some (nI i), some (.int x), e5] m = some (.int x, m) := nrm_gr0 (v_at rfl) rfl
    have h3 : nrm (eOp oShl (eC (.int 1)) (eVar 3)) [e0, e1, e2, some (nI i), some (.int x), e5] m = some (nI (2 ^ i), m) := nrm_gr0 (op_to c_at (v_at (d := nI i) rfl) (shl_one i (by omega) m)) rfl
    show (match nrm (eVar 4) [e0, e1, e2, some (nI i), some (.int x), e5] m with
      | some (k, m2) => match nrm (eOp oShl (eC (.int 1)) (eVar 3)) [e0, e1, e2, some (nI i), some (.int x), e5] m2 with
        | some (v, m3) => if acc.length < lineN && keyFor acc k then dcGo gd (tTup ((tName 3) :: ((tName 4) :: []))) (eC (.bl true)) (nrm (eVar 4)) (nrm (eOp oShl (eC (.int 1)) (eVar 3))) [e0, e1, e2, x3, x4, e5] (numb (i + 1) (r.map .int)) (dput acc k v) m3 else none
        | none => none
      | none => none) = _
    rw [h2]; dsimp only; rw [h3]; dsimp only
    rw [if_pos (by rw [Bool.and_eq_true]; exact ⟨decide_eq_true (by show acc.length < 16777216; omega), rfl⟩), dput_new fun p hp => ha p hp x List.mem_cons_self,
      bits_loop hg r (i + 1) _ x3 x4 (fun p hp y hy => ?_) hn.2 (by omega) (by rw [List.length_append]; simp; omega), bkv, List.append_assoc, List.singleton_append]
    (rcases List.mem_append.mp hp with hp | hp)
    · exact ha p hp y (List.mem_cons_of_mem _ hy)
    · have : p = (.int x, nI (2 ^ i)) := by simpa using hp
      subst this
      intro e
      injection e with e
      exact hn.1 (e ▸ hy)
theorem sum_cast : ∀ (xs : List Nat) (a : Nat), ((xs.foldl (· + ·) a : Nat) : Int) = (a : Int) + (xs.map fun (n : Nat) => (n : Int)).sum
  | [], a => by simp
  | x :: r, a => by rw [List.foldl_cons, sum_cast r, List.map_cons, List.sum_cons]; omega
theorem intsOf_map : ∀ ns : List Int, intsOf (ns.map .int) = some ns
  | [] => rfl
  | x :: r => by rw [List.map_cons, intsOf, intsOf_map r]; rfl
theorem s_masks (k : Nat) {m : M} {lp : Nat} {parts : List Int} {w : List (List Int)} (h : m[lp]? = some (.lst (parts.map .int))) (hn : parts.Nodup) (hp : parts.length ≤ 1000) (hw : ∀ s ∈ w, ∀ x ∈ s, x ∈ parts) (hl : ∀ s ∈ w, s.length ≤ 1000) (hwl : w.length ≤ 1000000) :
    lvl tab (k + 1) 7 [dW w, .ref lp] m = some (.ref m.length, m ++ [.lst ((w.map (maskL parts)).map nI)]) := by
  rw [show lvl tab (k + 1) 7 = m_masks_of (lvl tab k) from rfl, m_masks_of]
  refine fn_new (i := 1) (r := [.dct (bkv 0 parts), .lst ((w.map (maskL parts)).map nI)]) (o := .lst ((w.map (maskL parts)).map nI)) ?_ rfl (ints_of_nat _)
  have hgr : ∀ (xs : List Int) (i : Nat), ((bkv i xs).all fun p => p.1.gr && p.2.gr) = true := by
    intro xs
    induction xs with
    | nil => intro i; rfl
    | cons x r ih => intro i; rw [bkv, List.all_cons, ih]; rfl
  refine sq (asg_nm (nrm_new0 (o := .dct (bkv 0 parts)) (r := []) ?_ (hgr _ _))) ?_
  · have hi : iEnumL (eVar 1) [some (dW w), some (.ref lp), none, none, none, none] m = some (numb 0 (parts.map .int), [(lp, .lst (parts.map .int))], m) := by
      unfold iEnumL
      rw [show eVar 1 [some (dW w), some (.ref lp), none, none, none, none] m = some (.ref lp, m) from rfl]
      dsimp only [seqG]
      rw [h]; rfl
    show eDc _ _ _ _ _ _ [some (dW w), some (.ref lp), none, none, none, none] m = _
    unfold eDc
    rw [hi]
    dsimp only
    rw [show wipeE [some (dW w), some (.ref lp), none, none, none, none] [3, 4] = [some (dW w), some (.ref lp), none, none, none, none] from rfl,
      bits_loop (gd_one h) parts 0 [] none none (fun p hp => by simp at hp) hn (by omega) (by simp; omega)]
    rfl
  · have hd : (m ++ [Ob.dct (bkv 0 parts)])[m.length]? = some (.dct (bkv 0 parts)) := by rw [get_app0]; rfl
    refine ret_rt ((lcM (m1 := m ++ [Ob.dct (bkv 0 parts)]) (gd := []) w dT (fun t => nI (maskL parts t)) (seq_tup (v_at rfl)) rfl (fun t ht => ⟨_, rfl, ?_⟩) (by show _ ≤ 16777216; omega)).trans ?_)
    · refine nrm_gr (r := [.lst (t.map fun x => nI (2 ^ parts.idxOf x))]) (prim_to (a_one (d := .ref (m ++ [Ob.dct (bkv 0 parts)]).length) (m1 := (m ++ [Ob.dct (bkv 0 parts)]) ++ [.lst (t.map fun x => nI (2 ^ parts.idxOf x))]) ?_) ?_) rfl
      · refine lcM (m1 := m ++ [Ob.dct (bkv 0 parts)]) (gd := []) t D.int (fun x => nI (2 ^ parts.idxOf x)) (seq_tup (v_at (d := dT t) rfl)) rfl (fun x hx => ⟨_, rfl, nrm_gr0 (op_to (v_at (d := .ref m.length) rfl) (v_at (d := .int x) rfl) ?_) rfl⟩) (by show _ ≤ 16777216; have := hl t ht; omega)
        unfold oIx
        dsimp only
        rw [hd]
        dsimp only
        rw [if_pos (show keyFor _ _ = true from rfl), bkv_get parts 0 x (hw t ht x hx), Nat.zero_add]; rfl
      · unfold pSum
        dsimp only
        rw [get_app0]
        show (intsOf (t.map fun x => D.int ((2 ^ parts.idxOf x : Nat) : Int))).map _ = _
        rw [show (t.map fun x => D.int ((2 ^ parts.idxOf x : Nat) : Int)) = (t.map fun x => ((2 ^ parts.idxOf x : Nat) : Int)).map .int from by rw [List.map_map]; rfl, intsOf_map]
        have := sum_cast (t.map fun x => 2 ^ parts.idxOf x) 0
        rw [List.map_map] at this
        show some (D.int _, _) = some (nI (maskL parts t), _)
        unfold nI maskL
        rw [this]
        simp [Function.comp_def]
    · simp [Function.comp_def]
/-! ## members_of -/
theorem keysBy_map {α : Type} {h : D → M → Option (D × M)} {m : M} (g k : α → D) : ∀ (L : List α), (∀ a ∈ L, h (g a) m = some (k a, m)) → keysBy h m (L.map g) = some (L.map fun a => (g a, k a))
  | [], _ => rfl
  | a :: L, q => by
    rw [List.map_cons, keysBy, q a List.mem_cons_self]
    dsimp only
    rw [if_pos rfl, keysBy_map g k L fun x hx => q x (List.mem_cons_of_mem _ hx)]
    rfl
theorem ltL_conv {parts : List Int} (hp : SA parts) : ∀ a b : List Nat, (∀ i ∈ a, i < parts.length) → (∀ i ∈ b, i < parts.length) → D.ltL (a.map nI) (b.map nI) = ltI (a.map fun i => parts.getD i 0) (b.map fun i => parts.getD i 0)
  | [], [], _, _ => rfl
  | [], _ :: _, _, _ => rfl
  | _ :: _, [], _, _ => rfl
  | x :: a, y :: b, ha, hb => by
    have ih := ltL_conv hp a b (fun i hi => ha i (List.mem_cons_of_mem _ hi)) (fun i hi => hb i (List.mem_cons_of_mem _ hi))
    have hx := ha x List.mem_cons_self
    have hy := hb y List.mem_cons_self
    rw [List.map_cons, List.map_cons, List.map_cons, List.map_cons, D.ltL, ltI, ih]
    show (if ((x : Int) == (y : Int)) = true then _ else decide ((x : Int) < (y : Int))) = _
    rw [beq_cast]
    by_cases h : x = y
    · subst h; rw [if_pos (by simp), if_pos rfl]
    · have h2 : ¬ parts.getD x 0 = parts.getD y 0 := fun e => h (get_inj hp hx hy e)
      rw [if_neg (by simpa using h), if_neg h2]
      rcases Nat.lt_trichotomy x y with z | z | z
      · have := get_lt hp z hy
        rw [decide_eq_true (by omega : (x : Int) < (y : Int)), decide_eq_true this]
      · exact absurd z h
      · have := get_lt hp z hx
        rw [decide_eq_false (by omega : ¬ (x : Int) < (y : Int)), decide_eq_false (by omega)]
theorem nrm_keep {e : ES} {env : Dm.Env} {m m1 : M} {l : Nat} {o : Ob} (h : e env m = some (.ref l, m1)) (hl : m.length ≤ l) (ho : m1[l]? = some o) (hg : o.gr = false) : nrm e env m = some (.ref l, m1) := by
  unfold nrm
  rw [h, Option.map_some]
  unfold norm
  split
  · dsimp only
    rw [if_neg (by omega), ho]
    dsimp only
    rw [if_neg (by rw [hg]; simp)]
  · rfl
theorem s_members (k : Nat) {m : M} {lm lp : Nat} {parts : List Int} {f : List Nat} (hm : m[lm]? = some (.lst (f.map nI))) (h : m[lp]? = some (.lst (parts.map .int))) (hp : SA parts) (hpl : parts.length ≤ 1000) (hf : ∀ X ∈ f, Low parts.length X) (hfl : f.length ≤ 10000000) :
    lvl tab (k + 2) 8 [.ref lm, .ref lp] m = some (dW (canon (f.map (conv parts))), m) := by
  rw [show lvl tab (k + 2) 8 = m_members_of (lvl tab (k + 1)) from rfl, m_members_of]
  have hlow : ∀ X ∈ f, X < 2 ^ 1000 := fun X hX => Nat.lt_of_lt_of_le (Nat.lt_pow_two_of_testBit X fun i hi => by
    cases q : X.testBit i with
    | false => rfl
    | true => have := hf X hX i q; omega) (Nat.pow_le_pow_right (by decide) hpl)
  let g : Nat → D := fun i => .ref (m.length + i)
  let kk : Nat → D := fun i => .fl ((places (f.getD i 0)).map nI)
  let r : Nat → Nat → Bool := fun i j => D.le (kk i) (kk j)
  let Ls := (List.range f.length).mergeSort r
  have hLs : ∀ i ∈ Ls, i < f.length := fun i hi => by
    have : i ∈ List.range f.length := (List.mergeSort_perm _ _).mem_iff.mp hi
    simpa using this
  have hmem : ∀ i, i < f.length → f.getD i 0 ∈ f := fun i hi => by
    rw [List.getD_eq_getElem?_getD, List.getElem?_eq_getElem hi]; exact List.getElem_mem hi
  -- found
  have step : ∃ l' r', (nrm (ePrim pSortedA (aCons (eLc [3] (iSeq (eVar 0)) (tName 3) (eC (.bl true)) (nrm (ePrim (lvl tab (k + 1) 5) (aCons (eVar 3) aNil)))) aNil))) [some (.ref lm), some (.ref lp), none, none, none, none] m = some (.ref l', m ++ r') ∧ (m ++ r')[l']? = some (.lst (Ls.map g)) ∧ ∀ i, i < f.length → (m ++ r')[m.length + i]? = some (.lst ((places (f.getD i 0)).map nI)) := by
    have hlc := lcN (own := [3]) (it := iSeq (eVar 0)) (tg := tName 3) (elt := nrm (ePrim (lvl tab (k + 1) 5) (aCons (eVar 3) aNil))) (env := [some (.ref lm), some (.ref lp), none, none, none, none]) (m := m) (m1 := m) (gd := [(lm, .lst (f.map nI))]) f nI (fun X => .lst ((places X).map nI))
      (seq_ref (v_at rfl) hm) (fun r => gd_one (get_old hm r)) (fun X hX r => ⟨_, rfl, nrm_new0 (r := []) (prim_to (a_one (v_at (d := nI X) rfl)) (s_places k (m ++ r) X (Nat.lt_of_le_of_lt (pc_le 1000 X (hlow X hX)) (by decide)))) (ints_of_nat _)⟩) (by show _ ≤ 16777216; omega)
    let mu : M := m ++ f.map (fun X => Ob.lst ((places X).map nI)) ++ [.lst ((List.range f.length).map g)]
    have hi : ∀ i, i < f.length → mu[m.length + i]? = some (.lst ((places (f.getD i 0)).map nI)) := by
      intro i hi
      show (m ++ f.map (fun X => Ob.lst ((places X).map nI)) ++ [.lst ((List.range f.length).map g)])[m.length + i]? = _
      rw [List.append_assoc, get_app, List.getElem?_append_left (by simpa using hi), List.getElem?_map, List.getD_eq_getElem?_getD, List.getElem?_eq_getElem hi]
      rfl
    have hk := keysBy_map (h := fun d m => (rd m d).map fun k => (k, m)) (m := mu) g kk (List.range f.length) (fun i hi' => by
      have hi2 := hi i (by simpa using hi')
      show (rd mu (.ref (m.length + i))).map _ = _
      unfold rd
      dsimp only
      rw [hi2]
      dsimp only
      rw [if_pos (ints_of_nat _)]
      rfl)
    have hsort : pSortedA [.ref (m.length + f.length)] mu = some (.ref mu.length, mu ++ [.lst (Ls.map g)]) := by
      have e : pSortedA [.ref (m.length + f.length)] mu = pSorted [.ref (m.length + f.length)] mu := rfl
      rw [e]
      unfold pSorted lstOf
      dsimp only
      have hg2 : mu[m.length + f.length]? = some (.lst ((List.range f.length).map g)) := by
        show (m ++ f.map (fun X => Ob.lst ((places X).map nI)) ++ [.lst ((List.range f.length).map g)])[m.length + f.length]? = _
        have := get_app0 (m ++ f.map (fun X => Ob.lst ((places X).map nI))) [.lst ((List.range f.length).map g)]
        rw [List.length_append, List.length_map] at this
        rw [this]; rfl
      rw [hg2]
      dsimp only
      rw [hk]
      dsimp only
      rw [if_pos, sortBy_map (List.range f.length) g kk r (fun _ _ _ _ => rfl)]
      rw [Bool.or_eq_true]; left
      rw [List.map_map]
      unfold sortable
      (rw [Bool.and_eq_true, Bool.and_eq_true])
      have al : ∀ a b : List Nat, D.alkL (a.map nI) (b.map nI) = true := by
        intro a
        induction a with
        | nil => intro b; simp [D.alkL]
        | cons x a ih =>
          intro b
          cases b with
          | nil => simp [D.alkL]
          | cons y b => rw [List.map_cons, List.map_cons, D.alkL, ih]; rfl
      have tx : ∀ a : List Nat, D.txtL (a.map nI) = true ∧ D.depL (a.map nI) = 0 := by
        intro a
        induction a with
        | nil => exact ⟨rfl, rfl⟩
        | cons x a ih => rw [List.map_cons, D.txtL, D.depL, ih.1, ih.2]; exact ⟨rfl, rfl⟩
      refine ⟨⟨?_, ?_⟩, ?_⟩
      · rw [List.all_eq_true]; intro x hx
        (rw [List.all_eq_true]; intro y hy)
        obtain ⟨i, _, rfl⟩ := List.mem_map.mp hx
        obtain ⟨j, _, rfl⟩ := List.mem_map.mp hy
        exact al _ _
      · rw [Bool.or_eq_true]; right
        rw [List.all_eq_true]; intro x hx
        obtain ⟨i, _, rfl⟩ := List.mem_map.mp hx
        rfl
      · rw [List.all_eq_true]; intro x hx
        obtain ⟨i, _, rfl⟩ := List.mem_map.mp hx
        show (D.grL ((places (f.getD i 0)).map nI) && D.txtL ((places (f.getD i 0)).map nI) && decide (D.depL ((places (f.getD i 0)).map nI) + 1 ≤ 60)) = true
        rw [ints_of_nat, (tx _).1, (tx _).2]; rfl
    have hall : (ePrim pSortedA (aCons (eLc [3] (iSeq (eVar 0)) (tName 3) (eC (.bl true)) (nrm (ePrim (lvl tab (k + 1) 5) (aCons (eVar 3) aNil)))) aNil)) [some (.ref lm), some (.ref lp), none, none, none, none] m = some (.ref mu.length, mu ++ [.lst (Ls.map g)]) :=
      prim_to (a_one hlc) hsort
    by_cases h0 : f = []
    · subst h0
      have hz : Ls.map g = [] := by
        show (([] : List Nat).mergeSort r).map g = []
        rw [List.mergeSort_nil]; rfl
      refine ⟨m.length, [.lst (Ls.map g)], nrm_new (i := 1) (r := [.lst [], .lst (Ls.map g)]) (o := .lst (Ls.map g)) (hall.trans ?_) rfl (by rw [hz]; rfl), by rw [get_app0]; rfl, fun i hi => by simp at hi⟩
      simp [mu]
    · refine ⟨mu.length, f.map (fun X => Ob.lst ((places X).map nI)) ++ [.lst ((List.range f.length).map g)] ++ [.lst (Ls.map g)], ?_, ?_, ?_⟩
      · rw [nrm_keep (o := .lst (Ls.map g)) hall (by simp [mu]) (by rw [get_app0]; rfl)]
        · simp [mu]
        · show D.grL (Ls.map g) = false
          have hne : Ls ≠ [] := by
            intro e
            have h2 : Ls.length = f.length := by
              show ((List.range f.length).mergeSort r).length = _
              rw [List.length_mergeSort, List.length_range]
            rw [e] at h2
            exact h0 (List.length_eq_zero_iff.mp h2.symm)
          cases hL : Ls with
          | nil => exact absurd hL hne
          | cons a b => rfl
      · have := get_app0 mu [.lst (Ls.map g)]
        rw [show m ++ (f.map (fun X => Ob.lst ((places X).map nI)) ++ [.lst ((List.range f.length).map g)] ++ [.lst (Ls.map g)]) = mu ++ [.lst (Ls.map g)] from by simp [mu], this]; rfl
      · intro i hi'
        rw [show m ++ (f.map (fun X => Ob.lst ((places X).map nI)) ++ [.lst ((List.range f.length).map g)] ++ [.lst (Ls.map g)]) = mu ++ [.lst (Ls.map g)] from by simp [mu]]
        exact get_old (hi i hi') _
  obtain ⟨l', r', h1, h2, h3⟩ := step
  have hpart : ∀ rr : M, (m ++ rr)[lp]? = some (.lst (parts.map .int)) := fun rr => get_old h rr
  have fin : Ls.map (fun i => conv parts (f.getD i 0)) = canon (f.map (conv parts)) := by
    show ((List.range f.length).mergeSort r).map (fun i => conv parts (f.getD i 0)) = (f.map (conv parts)).mergeSort lexle
    rw [List.map_mergeSort (s := lexle)]
    · congr 1
      apply List.ext_getElem?
      intro i
      (rw [List.getElem?_map, List.getElem?_map])
      by_cases hi : i < f.length
      · rw [List.getElem?_range hi, List.getElem?_eq_getElem hi, Option.map_some, Option.map_some, List.getD_eq_getElem?_getD, List.getElem?_eq_getElem hi]; rfl
      · rw [List.getElem?_eq_none (by simpa using hi), List.getElem?_eq_none (by simpa using hi)]; rfl
    · intro a ha b hb
      have ha' : a < f.length := by simpa using ha
      have hb' : b < f.length := by simpa using hb
      show D.le (kk a) (kk b) = lexle (conv parts (f.getD a 0)) (conv parts (f.getD b 0))
      show (!D.ltL ((places (f.getD b 0)).map nI) ((places (f.getD a 0)).map nI)) = (!D.lt (dT _) (dT _))
      rw [lt_dT, ltL_conv hp _ _ (fun i hi => hf _ (hmem b hb') i ((mem_places _ i).mp hi)) (fun i hi => hf _ (hmem a ha') i ((mem_places _ i).mp hi))]
      rfl
  refine fn_gr (r := r' ++ [.lst (Ls.map fun i => dT (conv parts (f.getD i 0)))]) (d := dW _) ?_ (gr_dW _)
  refine sq (asg_nm h1) (ret_rt (prim_to (a_one (lcM (m1 := m ++ r') Ls g (fun i => dT (conv parts (f.getD i 0))) (seq_ref (v_at rfl) h2) (gd_one h2) (fun i hi => ⟨_, rfl, ?_⟩) ?_)) ?_))
  · have hi' := h3 i (hLs i hi)
    refine nrm_gr (r := [.lst ((places (f.getD i 0)).map fun j => D.int (parts.getD j 0))]) (prim_to (a_one (lcM (m1 := m ++ r') (places (f.getD i 0)) nI (fun j => D.int (parts.getD j 0)) (seq_ref (v_at (d := .ref (m.length + i)) rfl) hi') (gd_one hi') (fun j hj => ⟨_, rfl, nrm_gr0 (op_to (v_at (d := .ref lp) rfl) (v_at (d := nI j) rfl) ?_) rfl⟩) ?_)) ?_) (gr_dT _)
    · have hj' : j < parts.length := hf _ (hmem i (hLs i hi)) j ((mem_places _ j).mp hj)
      unfold oIx
      dsimp only
      rw [hpart r']
      dsimp only
      unfold atIx ixOf
      rw [if_pos (by omega), if_pos (by rw [List.length_map]; omega), Option.bind_some, Int.toNat_natCast, List.getElem?_map, List.getElem?_eq_getElem hj', List.getD_eq_getElem?_getD, List.getElem?_eq_getElem hj']
      rfl
    · have := pc_le 1000 _ (hlow _ (hmem i (hLs i hi)))
      show pc _ ≤ 16777216
      omega
    · unfold pTuple
      dsimp only
      rw [get_app0]
      show some (D.tup _, _) = some (dT (conv parts (f.getD i 0)), _)
      unfold dT conv
      rw [List.map_map]
      rfl
  · show ((List.range f.length).mergeSort r).length ≤ 16777216
    rw [List.length_mergeSort, List.length_range]; omega
  · unfold pTuple
    dsimp only
    rw [get_app0]
    show some (D.tup _, _) = some (dW (canon (f.map (conv parts))), _)
    unfold dW
    rw [← fin, List.map_map, List.append_assoc]
    rfl
end K47
end

section
set_option linter.all false
namespace K47
open PySem Dm Bits Sets
/-- what a why must be like -/
structure Good (w : List (List Int)) : Prop where
  sa : ∀ s ∈ w, SA s
  few : ∀ s ∈ w, s.length ≤ 1000
  many : w.length ≤ 1000000
  flat : w.flatten.length < 16777216
  parts : (partsOf w).length ≤ 20
theorem s_cuts (k : Nat) (m : M) {w : List (List Int)} (h : Good w) : ∃ L : List (List Int), L.Nodup ∧ (∀ t, t ∈ L ↔ MinT w t) ∧ lvl tab (k + 4) 12 [dW w] m = some (dW (canon L), m) := by
  obtain ⟨p1, p2, p3⟩ := partsOf_ok w
  have hw : ∀ s ∈ w, SA s ∧ ∀ x ∈ s, x ∈ partsOf w := fun s hs => ⟨h.sa s hs, fun x hx => (p2 x).mpr ⟨s, hs, hx⟩⟩
  have h20 := h.parts
  have hlowm : ∀ S ∈ w.map (maskL (partsOf w)), Low 20 S := fun S hS i hi => by
    obtain ⟨s, hs, rfl⟩ := List.mem_map.mp hS
    have := ((mask_bit p1 (hw s hs).1 (hw s hs).2 i).mp hi).1
    omega
  have hsm : ∀ S ∈ w.map (maskL (partsOf w)), S < 2 ^ 20 := fun S hS => Nat.lt_pow_two_of_testBit S fun i hi => by
    cases q : S.testBit i with
    | false => rfl
    | true => have := hlowm S hS i q; omega
  have hev : pc (every (w.map (maskL (partsOf w)))) ≤ 20 := by
    refine pc_le 20 _ (Nat.lt_pow_two_of_testBit _ fun i hi => ?_)
    cases q : (every (w.map (maskL (partsOf w)))).testBit i with
    | false => rfl
    | true =>
      rcases (every_bit _ 0 i).mp q with q | ⟨S, hS, q⟩
      · simp at q
      · have := hlowm S hS i q; omega
  -- parts, masks, cut masks
  have e1 := s_parts (k + 2) m w h.flat
  have g1 : (m ++ [Ob.lst ((partsOf w).map .int)])[m.length]? = some (.lst ((partsOf w).map .int)) := by rw [get_app0]; rfl
  have e2 := s_masks (k + 2) (m := m ++ [Ob.lst ((partsOf w).map .int)]) (lp := m.length) (w := w) g1 p1.nodup (by omega) (fun s hs => (hw s hs).2) h.few h.many
  have g2 : (m ++ [Ob.lst ((partsOf w).map .int)] ++ [Ob.lst ((w.map (maskL (partsOf w))).map nI)])[(m ++ [Ob.lst ((partsOf w).map .int)]).length]? = some (.lst ((w.map (maskL (partsOf w))).map nI)) := by rw [get_app0]; rfl
  obtain ⟨f, f1, f2, e3⟩ := s_cut k g2 (fun S hS => Nat.lt_of_lt_of_le (hsm S hS) (Nat.pow_le_pow_right (by decide) (by decide))) hev
  obtain ⟨L1, L2⟩ := list_of_masks p1 hw f1 f2
  refine ⟨f.map (conv (partsOf w)), L1, L2, ?_⟩
  have hfl : ∀ X ∈ f, Low (partsOf w).length X := fun X hX => minH_low p1 hw ((f2 X).mp hX)
  have hf20 : f.length ≤ 1048576 := by
    have hsub : ∀ X ∈ f, X < 2 ^ 20 := fun X hX => Nat.lt_pow_two_of_testBit X fun i hi => by
      cases q : X.testBit i with
      | false => rfl
      | true => have := hfl X hX i q; omega
    have := List.Nodup.length_le_of_subset (l₂ := List.range (2 ^ 20)) f1 fun X hX => List.mem_range.mpr (hsub X hX)
    simpa using this
  have g3 : (m ++ [Ob.lst ((partsOf w).map .int)] ++ [Ob.lst ((w.map (maskL (partsOf w))).map nI)] ++ [Ob.lst (f.map nI)])[(m ++ [Ob.lst ((partsOf w).map .int)] ++ [Ob.lst ((w.map (maskL (partsOf w))).map nI)]).length]? = some (.lst (f.map nI)) := by rw [get_app0]; rfl
  have e4 := s_members (k + 1) g3 (get_old (get_old g1 _) _) p1 (by omega) hfl (by omega)
  rw [show lvl tab (k + 4) 12 = m_cuts (lvl tab (k + 3)) from rfl, m_cuts]
  refine fn_gr (r := [Ob.lst ((partsOf w).map .int)] ++ [Ob.lst ((w.map (maskL (partsOf w))).map nI)] ++ [Ob.lst (f.map nI)]) (d := dW _) ?_ (gr_dW _)
  refine sq (asg_nm (nrm_new0 (r := []) (prim_to (a_cons c_at (a_one (v_at (d := dW w) rfl))) e1) (ints_gr _))) (ret_rt (prim_to (a_cons (prim_to (a_one (prim_to (a_cons (v_at (d := dW w) rfl) (a_one (v_at (d := .ref m.length) rfl))) e2)) e3) (a_one (v_at (d := .ref m.length) rfl))) (e4.trans ?_)))
  simp
/-! least_cut -/
def leastGo : List (List Int) → Option (List Int) → Option (List Int)
  | [], b => b
  | c :: r, b => leastGo r (match b with | none => some c | some t => if c.length < t.length then some c else some t)
def optT : Option (List Int) → D
  | none => .non
  | some t => dT t
theorem optT_gr (b : Option (List Int)) : (optT b).gr = true := by cases b <;> first | rfl | exact gr_dT _
theorem least_loop {m : M} {e0 : Option D} : ∀ (w : List (List Int)) (b : Option (List Int)) (x2 : Option D), ∃ y2,
    forGo [] (tName 2) (sIf (nrm (eOr (eUn (oIsN false) (eVar 1)) (eOp (oCmp fun i j => decide (i < j)) (ePrim pLen (aCons (eVar 2) aNil)) (ePrim pLen (aCons (eVar 1) aNil))))) (sAsg (tName 1) (nrm (eVar 2))) sNil) (w.map dT) [e0, some (optT b), x2] m = some (.nx [e0, some (optT (leastGo w b)), y2], m)
  | [], b, x2 => ⟨x2, for_nil rfl⟩
  | c :: r, b, x2 => by
    cases b with
    | none =>
      obtain ⟨y2, ih⟩ := least_loop (m := m) (e0 := e0) r (some c) (some (dT c))
      exact ⟨y2, fcq rfl rfl (m2 := m) (ift (nrm_gr0 (d := .bl true) (by rfl) rfl) (asg_nm (nrm_gr0 (d := dT c) (v_at rfl) (gr_dT c)))) ih⟩
    | some t =>
      have ht : (nrm (eOr (eUn (oIsN false) (eVar 1)) (eOp (oCmp fun i j => decide (i < j)) (ePrim pLen (aCons (eVar 2) aNil)) (ePrim pLen (aCons (eVar 1) aNil))))) [e0, some (dT t), some (dT c)] m = some (.bl (decide (c.length < t.length)), m) := by
        refine nrm_gr0 ?_ rfl
        unfold eOr
        rw [show eUn (oIsN false) (eVar 1) [e0, some (dT t), some (dT c)] m = some (.bl false, m) from rfl]
        dsimp only
        refine op_to (x := .int c.length) (y := .int t.length) (m1 := m) (m2 := m) ?_ ?_ ?_
        · show some (D.int ((c.map D.int).length : Int), m) = _
          rw [List.length_map]
        · show some (D.int ((t.map D.int).length : Int), m) = _
          rw [List.length_map]
        · show some (D.bl (decide ((c.length : Int) < (t.length : Int))), m) = _
          by_cases q : c.length < t.length
          · rw [decide_eq_true q, decide_eq_true (by omega)]
          · rw [decide_eq_false q, decide_eq_false (by omega)]
      by_cases q : c.length < t.length
      · rw [decide_eq_true q] at ht
        obtain ⟨y2, ih⟩ := least_loop (m := m) (e0 := e0) r (some c) (some (dT c))
        refine ⟨y2, fcq rfl rfl (m2 := m) (ift ht (asg_nm (nrm_gr0 (d := dT c) (v_at rfl) (gr_dT c)))) (ih.trans ?_)⟩
        rw [leastGo, if_pos q]
      · rw [decide_eq_false q] at ht
        obtain ⟨y2, ih⟩ := least_loop (m := m) (e0 := e0) r (some t) (some (dT c))
        refine ⟨y2, fcq rfl rfl (m2 := m) (iff' ht rfl) (ih.trans ?_)⟩
        rw [leastGo, if_neg q]
theorem s_least (k : Nat) (m : M) {w c : List (List Int)} (h : lvl tab (k + 4) 12 [dW w] m = some (dW c, m)) : lvl tab (k + 5) 13 [dW w] m = some (optT (leastGo c none), m) := by
  rw [show lvl tab (k + 5) 13 = m_least_cut (lvl tab (k + 4)) from rfl, m_least_cut]
  obtain ⟨y2, hx⟩ := least_loop (m := m) (e0 := some (dW w)) c none none
  refine fn_gr (r := []) (d := optT _) ?_ (optT_gr _)
  rw [List.append_nil]
  refine sq (asg_nm (nrm_gr0 (d := .non) c_at rfl)) ?_
  exact sq (frq (seq_tup (prim_to (a_one (v_at (d := dW w) rfl)) h)) hx) (ret_rt (v_at (d := optT (leastGo c none)) rfl))
/-! _law_least -/
theorem minL_facts : ∀ (r : List Int) (x : Int), (r.foldl min x ≤ x) ∧ (∀ y ∈ r, r.foldl min x ≤ y) ∧ (r.foldl min x = x ∨ r.foldl min x ∈ r)
  | [], x => ⟨Int.le_refl _, fun y hy => by simp at hy, .inl rfl⟩
  | z :: r, x => by
    obtain ⟨h1, h2, h3⟩ := minL_facts r (min x z)
    rw [List.foldl_cons]
    refine ⟨by omega, fun y hy => ?_, ?_⟩
    · (rcases List.mem_cons.mp hy with rfl | hy)
      · omega
      · exact h2 y hy
    · rcases h3 with h3 | h3
      · rcases Int.le_total x z with q | q
        · left; rw [h3]; omega
        · right; rw [h3]; rw [show min x z = z by omega]; exact List.mem_cons_self
      · exact .inr (List.mem_cons_of_mem _ h3)
/-- the first with the fewest -/
theorem leastGo_first : ∀ (w : List (List Int)) (t : List Int), ∃ b, leastGo w (some t) = some b ∧ ∃ pre post, t :: w = pre ++ b :: post ∧ (∀ c ∈ pre, b.length < c.length) ∧ ∀ c ∈ post, b.length ≤ c.length
  | [], t => ⟨t, rfl, [], [], rfl, by simp, by simp⟩
  | c :: r, t => by
    rw [leastGo]
    by_cases q : c.length < t.length
    · rw [if_pos q]
      obtain ⟨b, h1, pre, post, h2, h3, h4⟩ := leastGo_first r c
      refine ⟨b, h1, t :: pre, post, by rw [h2]; rfl, fun x hx => ?_, h4⟩
      (rcases List.mem_cons.mp hx with rfl | hx)
      · cases pre with
        | nil =>
          have e : c = b := by simp at h2; exact h2.1
          rw [← e]; exact q
        | cons y pre =>
          have : c = y := by simp at h2; exact h2.1
          have := h3 y List.mem_cons_self
          subst c
          omega
      · exact h3 x hx
    · rw [if_neg q]
      obtain ⟨b, h1, pre, post, h2, h3, h4⟩ := leastGo_first r t
      cases pre with
      | nil =>
        have e : t = b ∧ r = post := by simpa using h2
        refine ⟨b, h1, [], c :: post, by rw [e.1, e.2]; rfl, by simp, fun x hx => ?_⟩
        (rcases List.mem_cons.mp hx with rfl | hx)
        · rw [← e.1]; omega
        · exact h4 x hx
      | cons y pre =>
        have e : t = y ∧ r = pre ++ b :: post := by simpa using h2
        refine ⟨b, h1, t :: c :: pre, post, by rw [e.2]; rfl, fun x hx => ?_, h4⟩
        have hb := h3 y List.mem_cons_self
        (rcases List.mem_cons.mp hx with rfl | hx)
        · rw [e.1]; exact hb
        · rcases List.mem_cons.mp hx with rfl | hx
          · rw [← e.1] at hb; omega
          · exact h3 x (List.mem_cons_of_mem _ hx)
theorem ll_loop {m : M} {e0 : Option D} (n : Nat) : ∀ (pre : List (List Int)) (b : List Int) (post : List (List Int)) (x2 : Option D), (∀ c ∈ pre, c.length ≠ n) → b.length = n →
    forGo [] (tName 2) (sIf (nrm (eOp (oEq false) (ePrim pLen (aCons (eVar 2) aNil)) (eVar 1))) (sRet (eVar 2)) sNil) ((pre ++ b :: post).map dT) [e0, some (nI n), x2] m = some (.rt (dT b), m) := by
  have ht : ∀ (c : List Int), (nrm (eOp (oEq false) (ePrim pLen (aCons (eVar 2) aNil)) (eVar 1))) [e0, some (nI n), some (dT c)] m = some (.bl (c.length == n), m) := fun c => by
    refine nrm_gr0 (op_to (x := .int c.length) (y := nI n) (m1 := m) (m2 := m) ?_ (v_at rfl) ?_) rfl
    · show some (D.int ((c.map D.int).length : Int), m) = _
      rw [List.length_map]
    · rw [oeq_int, beq_cast, fne]
  intro pre
  induction pre with
  | nil =>
    intro b post x2 _ hb
    have := ht b
    rw [hb, beq_self_eq_true] at this
    exact for_rt rfl rfl (ift this (ret_rt (v_at rfl)))
  | cons c pre ih =>
    intro b post x2 hp hb
    have := ht c
    rw [show (c.length == n) = false from beq_eq_false_iff_ne.mpr (hp c List.mem_cons_self)] at this
    exact fcq rfl rfl (m2 := m) (iff' this rfl) (ih b post (some (dT c)) (fun x hx => hp x (List.mem_cons_of_mem _ hx)) hb)
theorem s_lawleast (k : Nat) (m : M) (c : List (List Int)) (hc : c.length ≤ 16777216) : lvl tab (k + 1) 28 [dW c] m = some (optT (leastGo c none), m) := by
  rw [show lvl tab (k + 1) 28 = m__law_least (lvl tab k) from rfl, m__law_least]
  have hlc := lcM (own := [2]) (it := iSeq (eVar 0)) (tg := tName 2) (elt := nrm (ePrim pLen (aCons (eVar 2) aNil))) (env := [some (dW c), none, none]) (m := m) (m1 := m) (gd := []) c dT (fun t => nI t.length) (seq_tup (v_at rfl)) rfl (fun t _ => ⟨_, rfl, nrm_gr0 (prim_to (a_one (v_at (d := dT t) rfl)) (by
    show some (D.int ((t.map D.int).length : Int), m) = _
    rw [List.length_map])) rfl⟩) hc
  cases c with
  | nil =>
    refine fn_gr (r := []) (d := .non) ?_ rfl
    rw [List.append_nil]
    refine sq (asg_nm (nrm_gr (r := [.lst []]) (d := .int 0) (prim_to (a_cons hlc (a_one c_at)) ?_) rfl)) ?_
    · unfold pMinD
      dsimp only
      rw [get_app0]; rfl
    · exact sq (frq (seq_tup (v_at (d := dW []) rfl)) (for_nil rfl)) (ret_rt c_at)
  | cons t w =>
    obtain ⟨b, h1, pre, post, h2, h3, h4⟩ := leastGo_first w t
    have hmin : ((t :: w).map fun s => (s.length : Int)).tail.foldl min (t.length : Int) = (b.length : Int) := by
      rw [List.map_cons, List.tail_cons]
      obtain ⟨q1, q2, q3⟩ := minL_facts (w.map fun s => (s.length : Int)) (t.length : Int)
      have hb : ∀ c ∈ t :: w, b.length ≤ c.length := fun c hc => by
        rw [h2] at hc
        (rcases List.mem_append.mp hc with hc | hc)
        · have := h3 c hc; omega
        · (rcases List.mem_cons.mp hc with rfl | hc)
          · exact Nat.le_refl _
          · exact h4 c hc
      have hbm : b ∈ t :: w := by rw [h2]; simp
      have le1 : (w.map fun s => (s.length : Int)).foldl min (t.length : Int) ≤ (b.length : Int) := by
        rcases List.mem_cons.mp hbm with e | e
        · rw [e]; exact q1
        · exact q2 _ (List.mem_map.mpr ⟨b, e, rfl⟩)
      rcases q3 with q3 | q3
      · have := hb t List.mem_cons_self; omega
      · obtain ⟨s, hs, e⟩ := List.mem_map.mp q3
        have := hb s (List.mem_cons_of_mem _ hs); omega
    refine fn_gr (r := []) (d := optT (leastGo (t :: w) none)) ?_ (optT_gr _)
    rw [List.append_nil]
    refine sq (asg_nm (nrm_gr (r := [.lst ((t :: w).map fun s => nI s.length)]) (d := nI b.length) (prim_to (a_cons hlc (a_one c_at)) ?_) rfl)) ?_
    · unfold pMinD
      dsimp only
      rw [get_app0]
      show (intsOf ((t :: w).map fun s => nI s.length)).bind _ = _
      rw [show ((t :: w).map fun s => nI s.length) = ((t :: w).map fun s => (s.length : Int)).map D.int from by rw [List.map_map]; rfl, intsOf_map, Option.bind_some]
      have hm : minL ((t :: w).map fun s => (s.length : Int)) = some (b.length : Int) := by rw [← hmin]; rfl
      rw [hm]; rfl
    · have e : leastGo (t :: w) none = some b := by rw [leastGo]; exact h1
      rw [e]
      have := ll_loop (m := m) (e0 := some (dW (t :: w))) b.length pre b post none (fun c hc => by have := h3 c hc; omega) rfl
      rw [← h2] at this
      exact seq_rt (frq (seq_tup (v_at (d := dW (t :: w)) rfl)) this)
end K47
end

section
set_option linter.all false
namespace K47
open PySem Dm Bits Sets
theorem rng_nat (n : Nat) : rng 0 (n : Int) = (List.range n).map nI := by
  unfold rng
  rw [show ((n : Int) - 0).toNat = n by omega]
  apply List.map_congr_left
  intro i _
  show D.int (0 + (i : Int)) = D.int (i : Int)
  rw [Int.zero_add]
theorem places_range {n k : Nat} (h : Low n k) : (List.range n).filter (fun j => k.testBit j) = places k := by
  refine List.Perm.eq_of_pairwise (le := (· < ·)) (fun x y _ _ h1 h2 => by omega) (List.pairwise_lt_range.filter _) (places_sorted k)
    ((List.perm_ext_iff_of_nodup (List.nodup_range.filter _) (places_nodup k)).mpr fun i => ?_)
  rw [List.mem_filter, List.mem_range, mem_places]
  exact ⟨fun q => q.2, fun q => ⟨h i q, q⟩⟩
theorem bit_test (k j : Nat) (m : M) : oShr (nI k) (nI j) m = some (nI (k / 2 ^ j), m) := by
  show (if 0 ≤ (j : Int) then some (D.int ((k : Int) / 2 ^ (j : Int).toNat), m) else none) = _
  (rw [if_pos (by omega), Int.toNat_natCast])
  simp [nI]
theorem bit_one (k j : Nat) : ((((k / 2 ^ j &&& 1 : Nat) : Int)) == ((1 : Nat) : Int)) = k.testBit j := by
  rw [beq_cast, Nat.and_one_is_mod, Nat.testBit_eq_decide_div_mod_eq]
  rfl
theorem shp_bools (bs : List Bool) : (D.fl (bs.map .bl)).shp = true := by
  have h1 : D.grL (bs.map .bl) = true := by rw [grL_iff]; intro x hx; obtain ⟨i, _, rfl⟩ := List.mem_map.mp hx; rfl
  have h2 : ∀ bs : List Bool, D.txtL (bs.map .bl) = true ∧ D.depL (bs.map .bl) = 0 := by
    intro bs
    induction bs with
    | nil => exact ⟨rfl, rfl⟩
    | cons x a ih => rw [List.map_cons, D.txtL, D.depL, ih.1, ih.2]; exact ⟨rfl, rfl⟩
  show (D.grL (bs.map .bl) && D.txtL (bs.map .bl) && decide (D.depL (bs.map .bl) + 1 ≤ 60)) = true
  rw [h1, (h2 bs).1, (h2 bs).2]; rfl
theorem oin_bools (neg c : Bool) {m : M} {l : Nat} {bs : List Bool} (h : m[l]? = some (.lst (bs.map .bl))) : oIn neg (.bl c) (.ref l) m = some (.bl (neg != bs.any (· == c)), m) := by
  unfold oIn
  dsimp only
  rw [h]
  dsimp only
  rw [if_pos (by rw [shp_bools]; rfl), List.any_map]
  rfl
theorem oin_dT (x : Int) (t : List Int) (m : M) : oIn false (.int x) (dT t) m = some (.bl (decide (x ∈ t)), m) := by
  unfold oIn dT
  dsimp only
  have := shp_dT t
  unfold dT at this
  rw [if_pos (by rw [this]; rfl), fne, List.any_map]
  congr 3
  induction t with
  | nil => rfl
  | cons y r ih =>
    rw [List.any_cons, ih (shp_dT r)]
    show ((y == x) || decide (x ∈ r)) = _
    by_cases h : y = x
    · subst h; simp
    · have h2 : ¬ x = y := fun z => h z.symm
      simp [h, h2]
theorem any_tt {α : Type} (l : List α) (f : α → Bool) : l.any ((fun x => x == true) ∘ f) = l.any f := by
  induction l with
  | nil => rfl
  | cons a l ih => rw [List.any_cons, List.any_cons, ih]; congr 1; show (f a == true) = f a; cases f a <;> rfl
/-- the numbers of a mask -/
theorem mine_at {m : M} {ln : Nat} {ns : List Int} (h : m[ln]? = some (.lst (ns.map .int))) (hl : ns.length ≤ 1000) {k : Nat} (hk : Low ns.length k) {e0 e2 e4 e5 e6 e7 e8 e9 : Option D} :
    eLc [6] (iRng1 (ePrim pLen (aCons (eVar 1) aNil))) (tName 6) (nrm (eOp (oEq false) (eOp (oBit iand) (eOp oShr (eVar 3) (eVar 6)) (eC (.int 1))) (eC (.int 1)))) (nrm (eOp oIx (eVar 1) (eVar 6))) [e0, some (.ref ln), e2, some (nI k), e4, e5, e6, e7, e8, e9] m = some (.ref m.length, m ++ [.lst ((conv ns k).map .int)]) := by
  have hi : iRng1 (ePrim pLen (aCons (eVar 1) aNil)) [e0, some (.ref ln), e2, some (nI k), e4, e5, e6, e7, e8, e9] m = some ((List.range ns.length).map nI, [], m) := by
    rw [rng1_at (j := (ns.length : Int)) (m1 := m) (prim_to (a_one (v_at (d := .ref ln) rfl)) (by rw [len_lst h, List.length_map])) (by show -4611686018427387904 ≤ _; omega) (by show _ < 4611686018427387904; omega), rng_nat]
  refine (lcF (List.range ns.length) nI (fun j => D.int (ns.getD j 0)) (fun j => k.testBit j) hi rfl (fun j hj => ⟨_, rfl, ?_, fun _ => ?_⟩) (by rw [List.length_range]; show _ ≤ 16777216; omega)).trans ?_
  · refine nrm_gr0 (op_to (x := nI (k / 2 ^ j &&& 1)) (m1 := m) (op_to (op_to (v_at (d := nI k) rfl) (v_at (d := nI j) rfl) (bit_test k j m)) c_at rfl) c_at ?_) rfl
    rw [oeq_int]
    show some (D.bl (false != ((((k / 2 ^ j &&& 1 : Nat) : Int)) == ((1 : Nat) : Int))), m) = _
    rw [bit_one, fne]
  · have hj' : j < ns.length := by simpa using hj
    refine nrm_gr0 (op_to (v_at (d := .ref ln) rfl) (v_at (d := nI j) rfl) ?_) rfl
    unfold oIx
    dsimp only
    rw [h]
    dsimp only
    unfold atIx ixOf
    rw [if_pos (by omega), if_pos (by rw [List.length_map]; omega), Option.bind_some, Int.toNat_natCast, List.getElem?_map, List.getElem?_eq_getElem hj', List.getD_eq_getElem?_getD, List.getElem?_eq_getElem hj']
    rfl
  · rw [places_range hk]
    unfold conv
    rw [List.map_map]
    rfl
/-- the masks found so far -/
def mks (w : List (List Int)) (ns : List Int) : Nat → List Nat
  | 0 => []
  | k + 1 => if !((mks w ns k).any fun o => k &&& o == o) && (w.all fun s => (conv ns k).any fun x => decide (x ∈ s)) then mks w ns k ++ [k] else mks w ns k
theorem and_eq_sub {a b : Nat} : (a &&& b == b) = true ↔ sub b a := by
  rw [beq_iff_eq]
  constructor
  · intro h i hi
    have : (a &&& b).testBit i = true := by rw [h]; exact hi
    rw [Nat.testBit_and, Bool.and_eq_true] at this
    exact this.1
  · intro h
    apply Nat.eq_of_testBit_eq
    intro i
    rw [Nat.testBit_and]
    cases q : b.testBit i with
    | false => simp
    | true => rw [h i q]; rfl
theorem mks_len (w : List (List Int)) (ns : List Int) : ∀ k, (mks w ns k).length ≤ k
  | 0 => Nat.le_refl _
  | k + 1 => by
    have := mks_len w ns k
    rw [mks]; split
    · (rw [List.length_append]; simp; omega)
    · omega
theorem low_of_lt {n k : Nat} (h : k < 2 ^ n) : Low n k := fun i hi => by
  have := Nat.ge_two_pow_of_testBit hi
  exact (Nat.pow_lt_pow_iff_right (by decide : 1 < 2)).mp (Nat.lt_of_le_of_lt this h)
theorem mks_ok {w : List (List Int)} {ns : List Int} (hp : SA ns) (hw : ∀ s ∈ w, SA s ∧ ∀ x ∈ s, x ∈ ns) : ∀ k, k ≤ 2 ^ ns.length → (mks w ns k).Nodup ∧ ∀ X, X ∈ mks w ns k ↔ X < k ∧ MinH (w.map (maskL ns)) X
  | 0, _ => ⟨.nil, fun X => by simp [mks]⟩
  | k + 1, hk => by
    obtain ⟨h1, h2⟩ := mks_ok hp hw k (by omega)
    have hlow : Low ns.length k := low_of_lt (by omega)
    have hit : (w.all fun s => (conv ns k).any fun x => decide (x ∈ s)) = true ↔ Hits (w.map (maskL ns)) k := by
      rw [hit_conv hp hw hlow, List.all_eq_true]
      constructor
      · intro h s hs
        obtain ⟨x, h3, h4⟩ := List.any_eq_true.mp (h s hs)
        exact ⟨x, of_decide_eq_true h4, h3⟩
      · intro h s hs
        obtain ⟨x, h3, h4⟩ := h s hs
        exact List.any_eq_true.mpr ⟨x, h4, decide_eq_true h3⟩
    have iff : (!((mks w ns k).any fun o => k &&& o == o) && (w.all fun s => (conv ns k).any fun x => decide (x ∈ s))) = true ↔ MinH (w.map (maskL ns)) k := by
      rw [Bool.and_eq_true, hit, Bool.not_eq_true']
      constructor
      · rintro ⟨h3, h4⟩
        obtain ⟨Y, h5, h6⟩ := exists_minH k h4
        by_cases e : Y = k
        · subst e; exact h6
        · have hlt : Y < k := by have := sub_le h5; omega
          have : ((mks w ns k).any fun o => k &&& o == o) = true := List.any_eq_true.mpr ⟨Y, (h2 Y).mpr ⟨hlt, h6⟩, and_eq_sub.mpr h5⟩
          rw [h3] at this; cases this
      · intro h3
        refine ⟨?_, h3.1⟩
        cases q : ((mks w ns k).any fun o => k &&& o == o) with
        | false => rfl
        | true =>
          obtain ⟨Y, h4, h5⟩ := List.any_eq_true.mp q
          obtain ⟨h6, h7⟩ := (h2 Y).mp h4
          have := h3.2 Y (and_eq_sub.mp h5) h7.1
          omega
    rw [mks]
    by_cases hm : MinH (w.map (maskL ns)) k
    · rw [if_pos (iff.mpr hm)]
      refine ⟨?_, fun X => ?_⟩
      · rw [List.nodup_append]
        refine ⟨h1, by simp, fun a ha b hb => ?_⟩
        have : b = k := by simpa using hb
        subst this
        have := ((h2 a).mp ha).1
        omega
      · rw [List.mem_append, h2]
        constructor
        · rintro (⟨q1, q2⟩ | q)
          · exact ⟨by omega, q2⟩
          · have : X = k := by simpa using q
            subst this; exact ⟨by omega, hm⟩
        · rintro ⟨q1, q2⟩
          by_cases e : X = k
          · right; simp [e]
          · exact .inl ⟨by omega, q2⟩
    · rw [if_neg fun q => hm (iff.mp q)]
      refine ⟨h1, fun X => (h2 X).trans ⟨fun ⟨q1, q2⟩ => ⟨by omega, q2⟩, fun ⟨q1, q2⟩ => ⟨?_, q2⟩⟩⟩
      by_cases e : X = k
      · subst e; exact absurd q2 hm
      · omega
theorem cuts_loop {m : M} {ln : Nat} {ns : List Int} {w : List (List Int)} (h : m[ln]? = some (.lst (ns.map .int))) (hl : ns.length ≤ 20) (hwl : w.length ≤ 1000000) {e5 : Option D} : ∀ (n k : Nat) (junk : M) (x3 x4 x6 x7 x8 x9 : Option D), k + n ≤ 2 ^ ns.length → ∃ y3 y4 junk',
    forGo [] (tName 3) (sSeq (sAsg (tName 4) (nrm (eLc [6] (iRng1 (ePrim pLen (aCons (eVar 1) aNil))) (tName 6) (nrm (eOp (oEq false) (eOp (oBit iand) (eOp oShr (eVar 3) (eVar 6)) (eC (.int 1))) (eC (.int 1)))) (nrm (eOp oIx (eVar 1) (eVar 6))))))
    (sIf (nrm (eOp (oIn true) (eC (.bl true)) (eLc [7] (iSeq (eVar 2)) (tName 7) (eC (.bl true)) (nrm (eOp (oEq false) (eOp (oBit iand) (eVar 3) (eVar 7)) (eVar 7)))))) (sIf (nrm (eOp (oIn true) (eC (.bl false)) (eLc [8] (iSeq (eVar 0)) (tName 8) (eC (.bl true)) (nrm (eOp (oIn false) (eC (.bl true)) (eLc [9] (iSeq (eVar 4)) (tName 9) (eC (.bl true)) (nrm (eOp (oIn false) (eVar 9) (eVar 8))))))))) (sExpr (eMeth .list mAppend (eVar 2) (aCons (eVar 3) aNil))) sNil) sNil)) ((List.range' k n).map nI)
      [some (dW w), some (.ref ln), some (.ref m.length), x3, x4, e5, x6, x7, x8, x9] (m ++ .lst ((mks w ns k).map nI) :: junk) = some (.nx [some (dW w), some (.ref ln), some (.ref m.length), y3, y4, e5, x6, x7, x8, x9], m ++ .lst ((mks w ns (k + n)).map nI) :: junk')
  | 0, k, junk, x3, x4, x6, x7, x8, x9, _ => ⟨x3, x4, junk, for_nil rfl⟩
  | n + 1, k, junk, x3, x4, x6, x7, x8, x9, hk => by
    have hp20 : 2 ^ ns.length ≤ 2 ^ 20 := Nat.pow_le_pow_right (by decide) hl
    have hp20' : (2 : Nat) ^ 20 = 1048576 := by decide
    have hlow : Low ns.length k := low_of_lt (by omega)
    have hclen : (conv ns k).length ≤ 1000 := by
      have := pc_le 20 k (by omega)
      unfold conv
      rw [List.length_map]
      unfold pc at this
      omega
    have hml := mks_len w ns k
    have hget : ∀ r : M, (m ++ Ob.lst ((mks w ns k).map nI) :: r)[m.length]? = some (.lst ((mks w ns k).map nI)) := fun r => by rw [get_app0]; rfl
    -- mine
    let mu : M := m ++ .lst ((mks w ns k).map nI) :: junk
    have hmu : mu ++ [.lst ((conv ns k).map .int)] = m ++ .lst ((mks w ns k).map nI) :: (junk ++ [.lst ((conv ns k).map .int)]) := by simp [mu]
    have hmine : (mu ++ [Ob.lst ((conv ns k).map .int)])[mu.length]? = some (.lst ((conv ns k).map .int)) := by rw [get_app0]; rfl
    have hmks : (mu ++ [Ob.lst ((conv ns k).map .int)])[m.length]? = some (.lst ((mks w ns k).map nI)) := get_old (hget junk) _
    have h1 : (sAsg (tName 4) (nrm (eLc [6] (iRng1 (ePrim pLen (aCons (eVar 1) aNil))) (tName 6) (nrm (eOp (oEq false) (eOp (oBit iand) (eOp oShr (eVar 3) (eVar 6)) (eC (.int 1))) (eC (.int 1)))) (nrm (eOp oIx (eVar 1) (eVar 6)))))) [some (dW w), some (.ref ln), some (.ref m.length), some (nI k), x4, e5, x6, x7, x8, x9] mu = some (.nx [some (dW w), some (.ref ln), some (.ref m.length), some (nI k), some (.ref mu.length), e5, x6, x7, x8, x9], mu ++ [.lst ((conv ns k).map .int)]) :=
      asg_nm (nrm_new0 (r := []) (mine_at (get_old h _) (by omega) hlow) (ints_gr _))
    -- the two tests
    have t1 : (nrm (eOp (oIn true) (eC (.bl true)) (eLc [7] (iSeq (eVar 2)) (tName 7) (eC (.bl true)) (nrm (eOp (oEq false) (eOp (oBit iand) (eVar 3) (eVar 7)) (eVar 7)))))) [some (dW w), some (.ref ln), some (.ref m.length), some (nI k), some (.ref mu.length), e5, x6, x7, x8, x9] (mu ++ [.lst ((conv ns k).map .int)]) = some (.bl (!((mks w ns k).any fun o => k &&& o == o)), mu ++ [.lst ((conv ns k).map .int)]) := by
      refine nrm_gr (r := [.lst ((mks w ns k).map fun o => D.bl (k &&& o == o))]) (op_to c_at (lcM (m1 := mu ++ [.lst ((conv ns k).map .int)]) (mks w ns k) nI (fun o => D.bl (k &&& o == o)) (seq_ref (v_at rfl) hmks) (gd_one hmks) (fun o ho => ⟨_, rfl, nrm_gr0 (op_to (x := nI (k &&& o)) (m1 := mu ++ [.lst ((conv ns k).map .int)]) (op_to (v_at (d := nI k) rfl) (v_at (d := nI o) rfl) rfl) (v_at (d := nI o) rfl) (by rw [oeq_int, beq_cast, fne])) rfl⟩) (by show _ ≤ 16777216; omega)) ?_) rfl
      rw [oin_bools (bs := (mks w ns k).map fun o => k &&& o == o) true true (by rw [get_app0, List.map_map]; rfl), tne, List.any_map, any_tt]
    have t2 : (nrm (eOp (oIn true) (eC (.bl false)) (eLc [8] (iSeq (eVar 0)) (tName 8) (eC (.bl true)) (nrm (eOp (oIn false) (eC (.bl true)) (eLc [9] (iSeq (eVar 4)) (tName 9) (eC (.bl true)) (nrm (eOp (oIn false) (eVar 9) (eVar 8))))))))) [some (dW w), some (.ref ln), some (.ref m.length), some (nI k), some (.ref mu.length), e5, x6, x7, x8, x9] (mu ++ [.lst ((conv ns k).map .int)]) = some (.bl (w.all fun s => (conv ns k).any fun x => decide (x ∈ s)), mu ++ [.lst ((conv ns k).map .int)]) := by
      refine nrm_gr (r := [.lst (w.map fun s => D.bl ((conv ns k).any fun x => decide (x ∈ s)))]) (op_to c_at (lcM (m1 := mu ++ [.lst ((conv ns k).map .int)]) (gd := []) w dT (fun s => D.bl ((conv ns k).any fun x => decide (x ∈ s))) (seq_tup (v_at (d := dW w) rfl)) rfl (fun s hs => ⟨_, rfl, ?_⟩) (by show _ ≤ 16777216; omega)) ?_) rfl
      · refine nrm_gr (r := [.lst ((conv ns k).map fun x => D.bl (decide (x ∈ s)))]) (op_to c_at (lcM (m1 := mu ++ [.lst ((conv ns k).map .int)]) (conv ns k) D.int (fun x => D.bl (decide (x ∈ s))) (seq_ref (v_at (d := .ref mu.length) rfl) hmine) (gd_one hmine) (fun x hx => ⟨_, rfl, nrm_gr0 (op_to (v_at (d := .int x) rfl) (v_at (d := dT s) rfl) (oin_dT x s _)) rfl⟩) (by show _ ≤ 16777216; omega)) ?_) rfl
        rw [oin_bools (bs := (conv ns k).map fun x => decide (x ∈ s)) false true (by rw [get_app0, List.map_map]; rfl), fne, List.any_map, any_tt]
      · rw [oin_bools (bs := w.map fun s => (conv ns k).any fun x => decide (x ∈ s)) true false (by rw [get_app0, List.map_map]; rfl), tne, List.any_map]
        congr 3
        have : ∀ l : List (List Int), (!(l.any ((fun x => x == false) ∘ fun s => (conv ns k).any fun x => decide (x ∈ s)))) = l.all fun s => (conv ns k).any fun x => decide (x ∈ s) := by
          intro l
          induction l with
          | nil => rfl
          | cons s l ih =>
            rw [List.any_cons, List.all_cons, ← ih, Bool.not_or]
            congr 1
            show (!(((conv ns k).any fun x => decide (x ∈ s)) == false)) = _
            cases ((conv ns k).any fun x => decide (x ∈ s)) <;> rfl
        exact this w
    rw [List.range'_succ, List.map_cons]
    have hstep := mks.eq_2 w ns k
    by_cases c1 : (!((mks w ns k).any fun o => k &&& o == o)) = true
    · by_cases c2 : (w.all fun s => (conv ns k).any fun x => decide (x ∈ s)) = true
      · rw [if_pos (by rw [c1, c2]; rfl)] at hstep
        rw [c1] at t1
        rw [c2] at t2
        obtain ⟨y3, y4, junk', ih⟩ := cuts_loop (w := w) h hl hwl (e5 := e5) n (k + 1) (junk ++ [.lst ((conv ns k).map .int)]) (some (nI k)) (some (.ref mu.length)) x6 x7 x8 x9 (by omega)
        rw [show k + 1 + n = k + (n + 1) by omega] at ih
        refine ⟨y3, y4, junk', fcq rfl rfl (e2 := [some (dW w), some (.ref ln), some (.ref m.length), some (nI k), some (.ref mu.length), e5, x6, x7, x8, x9]) (m2 := m ++ .lst ((mks w ns (k + 1)).map nI) :: (junk ++ [.lst ((conv ns k).map .int)])) (sq h1 (ift t1 (ift t2 ((expr_nx (meth_to (v_at (d := .ref m.length) rfl) (rcv_lst hmks) (a_one (v_at (d := nI k) rfl)) (append_at _ hmks (by rw [List.length_map]; show _ < 16777216; omega)))).trans ?_)))) ih⟩
        rw [hmu, set_app0, List.set_cons_zero, hstep, List.map_append]
        rfl
      · have c2' := Bool.eq_false_iff.mpr c2
        rw [if_neg (by rw [c2']; simp)] at hstep
        rw [c1] at t1
        rw [c2'] at t2
        obtain ⟨y3, y4, junk', ih⟩ := cuts_loop (w := w) h hl hwl (e5 := e5) n (k + 1) (junk ++ [.lst ((conv ns k).map .int)]) (some (nI k)) (some (.ref mu.length)) x6 x7 x8 x9 (by omega)
        rw [show k + 1 + n = k + (n + 1) by omega] at ih
        refine ⟨y3, y4, junk', fcq rfl rfl (e2 := [some (dW w), some (.ref ln), some (.ref m.length), some (nI k), some (.ref mu.length), e5, x6, x7, x8, x9]) (m2 := m ++ .lst ((mks w ns (k + 1)).map nI) :: (junk ++ [.lst ((conv ns k).map .int)])) (sq h1 (ift t1 (iff' t2 ?_))) ih⟩
        rw [hmu, hstep]
        rfl
    · have c1' := Bool.eq_false_iff.mpr c1
      rw [if_neg (by rw [c1']; simp)] at hstep
      rw [c1'] at t1
      obtain ⟨y3, y4, junk', ih⟩ := cuts_loop (w := w) h hl hwl (e5 := e5) n (k + 1) (junk ++ [.lst ((conv ns k).map .int)]) (some (nI k)) (some (.ref mu.length)) x6 x7 x8 x9 (by omega)
      rw [show k + 1 + n = k + (n + 1) by omega] at ih
      refine ⟨y3, y4, junk', fcq rfl rfl (e2 := [some (dW w), some (.ref ln), some (.ref m.length), some (nI k), some (.ref mu.length), e5, x6, x7, x8, x9]) (m2 := m ++ .lst ((mks w ns (k + 1)).map nI) :: (junk ++ [.lst ((conv ns k).map .int)])) (sq h1 (iff' t1 ?_)) ih⟩
      rw [hmu, hstep]
      rfl
end K47
end

section
set_option linter.all false
namespace K47
open PySem Dm Bits Sets
theorem found_loop {mu : M} {ln lk : Nat} {ns : List Int} (h : mu[ln]? = some (.lst (ns.map .int))) (hl : ns.length ≤ 20) {ks : List Nat} (hk : mu[lk]? = some (.lst (ks.map nI))) {e0 e2 e4 e6 e7 e8 e9 : Option D} : ∀ (l : List Nat) (acc : List (List Int)) (junk : M) (x3 : Option D), (∀ k ∈ l, Low ns.length k) → acc.length + l.length < 16777216 → ∃ y3 junk',
    forGo [(lk, .lst (ks.map nI))] (tName 3) (sExpr (eMeth .list mAppend (eVar 5) (aCons (ePrim pTuple (aCons (eLc [6] (iRng1 (ePrim pLen (aCons (eVar 1) aNil))) (tName 6) (nrm (eOp (oEq false) (eOp (oBit iand) (eOp oShr (eVar 3) (eVar 6)) (eC (.int 1))) (eC (.int 1)))) (nrm (eOp oIx (eVar 1) (eVar 6)))) aNil)) aNil))) (l.map nI)
      [e0, some (.ref ln), e2, x3, e4, some (.ref mu.length), e6, e7, e8, e9] (mu ++ .lst (acc.map dT) :: junk) = some (.nx [e0, some (.ref ln), e2, y3, e4, some (.ref mu.length), e6, e7, e8, e9], mu ++ .lst ((acc ++ l.map (conv ns)).map dT) :: junk')
  | [], acc, junk, x3, _, _ => ⟨x3, junk, by rw [List.map_nil, List.map_nil, List.append_nil]; exact for_nil (gd_one (get_old hk _))⟩
  | k :: l, acc, junk, x3, hlow, hlen => by
    rw [List.length_cons] at hlen
    have hget : ((mu ++ Ob.lst (acc.map dT) :: junk) ++ [.lst ((conv ns k).map .int)])[mu.length]? = some (.lst (acc.map dT)) := by rw [List.append_assoc, get_app0]; rfl
    have hget0 : (mu ++ Ob.lst (acc.map dT) :: junk)[mu.length]? = some (.lst (acc.map dT)) := by rw [get_app0]; rfl
    obtain ⟨y3, junk', ih⟩ := found_loop h hl hk (e0 := e0) (e2 := e2) (e4 := e4) (e6 := e6) (e7 := e7) (e8 := e8) (e9 := e9) l (acc ++ [conv ns k]) (junk ++ [.lst ((conv ns k).map .int)]) (some (nI k)) (fun x hx => hlow x (List.mem_cons_of_mem _ hx)) (by rw [List.length_append]; simp; omega)
    refine ⟨y3, junk', fcq (gd_one (get_old hk _)) rfl (e2 := [e0, some (.ref ln), e2, some (nI k), e4, some (.ref mu.length), e6, e7, e8, e9]) (m2 := mu ++ .lst ((acc ++ [conv ns k]).map dT) :: (junk ++ [.lst ((conv ns k).map .int)])) ((expr_nx (meth_to (v_at (d := .ref mu.length) rfl) (rcv_lst hget0) (a_one (prim_to (a_one (mine_at (get_old h _) (by omega) (hlow k List.mem_cons_self))) (r := (dT (conv ns k), _)) ?_)) (append_at _ hget (by rw [List.length_map]; show _ < 16777216; omega)))).trans ?_) ?_⟩
    · unfold pTuple
      dsimp only
      rw [get_app0]; rfl
    · rw [List.append_assoc, set_app0, List.cons_append, List.set_cons_zero, List.map_append]
      rfl
    · rw [List.append_assoc] at ih
      exact ih
theorem s_lawcuts (k : Nat) {m : M} {ln : Nat} {ns : List Int} {w : List (List Int)} (h : m[ln]? = some (.lst (ns.map .int))) (hp : SA ns) (hl : ns.length ≤ 20) (hw : ∀ s ∈ w, SA s ∧ ∀ x ∈ s, x ∈ ns) (hwl : w.length ≤ 1000000) :
    ∃ L : List (List Int), L.Nodup ∧ (∀ t, t ∈ L ↔ MinT w t) ∧ L.length ≤ 2 ^ ns.length ∧ lvl tab (k + 1) 27 [dW w, .ref ln] m = some (dW (canon L), m) := by
  obtain ⟨m1, m2⟩ := mks_ok hp hw (2 ^ ns.length) (Nat.le_refl _)
  have hp20 : 2 ^ ns.length ≤ 2 ^ 20 := Nat.pow_le_pow_right (by decide) hl
  have hp20' : (2 : Nat) ^ 20 = 1048576 := by decide
  have hfull : ∀ X, X ∈ mks w ns (2 ^ ns.length) ↔ MinH (w.map (maskL ns)) X := fun X => (m2 X).trans ⟨fun q => q.2, fun q => ⟨Nat.lt_pow_two_of_testBit X fun i hi => by
    cases q2 : X.testBit i with
    | false => rfl
    | true => have := minH_low hp hw q i q2; omega, q⟩⟩
  obtain ⟨L1, L2⟩ := list_of_masks hp hw m1 hfull
  have hml := mks_len w ns (2 ^ ns.length)
  refine ⟨(mks w ns (2 ^ ns.length)).map (conv ns), L1, L2, by rw [List.length_map]; exact hml, ?_⟩
  rw [show lvl tab (k + 1) 27 = m__law_cuts (lvl tab k) from rfl, m__law_cuts]
  obtain ⟨y3, y4, junk, hx⟩ := cuts_loop (w := w) h hl hwl (e5 := none) (2 ^ ns.length) 0 [] none none none none none none (by omega)
  rw [Nat.zero_add, show mks w ns 0 = [] from rfl] at hx
  let mu : M := m ++ .lst ((mks w ns (2 ^ ns.length)).map nI) :: junk
  have hk : mu[m.length]? = some (.lst ((mks w ns (2 ^ ns.length)).map nI)) := by show (m ++ _)[_]? = _; rw [get_app0]; rfl
  obtain ⟨z3, junk2, hy⟩ := found_loop (mu := mu) (get_old h _) hl hk (e0 := some (dW w)) (e2 := some (.ref m.length)) (e4 := y4) (e6 := none) (e7 := none) (e8 := none) (e9 := none) (mks w ns (2 ^ ns.length)) [] [] y3 (fun X hX => minH_low hp hw ((hfull X).mp hX)) (by simp; omega)
  have hfin : (mu ++ .lst ((([] : List (List Int)) ++ (mks w ns (2 ^ ns.length)).map (conv ns)).map dT) :: junk2)[mu.length]? = some (.lst (((mks w ns (2 ^ ns.length)).map (conv ns)).map dT)) := by rw [get_app0]; rfl
  have hsort := sorted_ref ((mks w ns (2 ^ ns.length)).map (conv ns)) dT lexle (fun _ _ _ _ => rfl) (fun a _ => gr_dT a) (by
    by_cases he : [] ∈ (mks w ns (2 ^ ns.length)).map (conv ns)
    · right
      have hmin := (L2 []).mp he
      have all : ∀ t ∈ (mks w ns (2 ^ ns.length)).map (conv ns), t = [] := fun t ht => by
        have := ((L2 t).mp ht).2.2 [] (fun x hx => by simp at hx) hmin.2.1
        cases t with
        | nil => rfl
        | cons a r => have := this a List.mem_cons_self; simp at this
      generalize (mks w ns (2 ^ ns.length)).map (conv ns) = LL at L1 all
      match LL, L1, all with
      | [], _, _ => simp
      | [_], _, _ => simp
      | a :: b :: r, q1, q2 =>
        have e1 := q2 a (by simp)
        have e2 := q2 b (by simp)
        subst e1 e2
        simp at q1
    · left
      exact sortable_dT _ fun t ht e => he (e ▸ ht)) hfin
  refine fn_gr (r := (.lst ((mks w ns (2 ^ ns.length)).map nI) :: junk) ++ .lst ((([] : List (List Int)) ++ (mks w ns (2 ^ ns.length)).map (conv ns)).map dT) :: junk2 ++ [.lst ((canon ((mks w ns (2 ^ ns.length)).map (conv ns))).map dT)]) (d := dW _) ?_ (gr_dW _)
  refine sq (asg_nm (nrm_new0 (o := .lst []) (r := []) (lst_at a_nil (Nat.zero_le _)) rfl)) ?_
  refine sq (frq (ds := (List.range' 0 (2 ^ ns.length)).map nI) (gd := []) (m1 := m ++ [Ob.lst []]) ?_ hx) ?_
  · rw [rng1_at (j := ((2 ^ ns.length : Nat) : Int)) (m1 := m ++ [Ob.lst []]) (op_to c_at (prim_to (a_one (v_at (d := .ref ln) rfl)) (len_lst (get_old h _))) (by rw [List.length_map]; exact shl_one ns.length (by omega) _)) (by show -4611686018427387904 ≤ _; omega) (by show _ < 4611686018427387904; omega), rng_nat, List.range_eq_range']
  · refine sq (asg_nm (nrm_new0 (m := mu) (o := .lst []) (r := []) (lst_at a_nil (Nat.zero_le _)) rfl)) ?_
    refine sq (frq (seq_ref (v_at (d := .ref m.length) rfl) (get_old hk _)) hy) (ret_rt (prim_to (a_one (prim_to (a_one (v_at (d := .ref mu.length) rfl)) hsort)) ?_))
    unfold pTuple
    dsimp only
    rw [get_app0]
    show some (D.tup _, _) = some (dW (canon _), _)
    unfold dW
    simp [mu, canon]
end K47
end

section
set_option linter.all false
namespace K47
open PySem Dm Bits Sets
/-! ## _law_same of a thing with itself -/
def Same (k : Nat) (d : D) : Prop := ∀ m : M, lvl tab k 16 [d, d] m = some (.bl true, m)
theorem same_int (k : Nat) (i : Int) : Same (k + 1) (.int i) := fun m => by
  rw [show lvl tab (k + 1) 16 = m__law_same (lvl tab k) from rfl, m__law_same]
  refine fn_gr (r := []) (d := .bl true) ?_ rfl
  rw [List.append_nil]
  refine sq (iff' (m1 := m) (nrm_gr0 (d := .bl false) (by rfl) rfl) rfl) (sq (iff' (m1 := m) (nrm_gr0 (d := .bl false) (by rfl) rfl) rfl) (sq (iff' (m1 := m) (nrm_gr0 (d := .bl false) (by rfl) rfl) rfl) (ret_rt (op_to (v_at (d := .int i) rfl) (v_at (d := .int i) rfl) ?_))))
  rw [oeq_int, beq_self_eq_true]; rfl
theorem same_non (k : Nat) : Same (k + 1) .non := fun m => by
  rw [show lvl tab (k + 1) 16 = m__law_same (lvl tab k) from rfl, m__law_same]
  refine fn_gr (r := []) (d := .bl true) ?_ rfl
  rw [List.append_nil]
  exact sq (iff' (m1 := m) (nrm_gr0 (d := .bl false) (by rfl) rfl) rfl) (sq (iff' (m1 := m) (nrm_gr0 (d := .bl false) (by rfl) rfl) rfl) (sq (iff' (m1 := m) (nrm_gr0 (d := .bl false) (by rfl) rfl) rfl) (ret_rt (op_to (v_at (d := .non) rfl) (v_at (d := .non) rfl) (by rfl)))))
theorem ix_nat {xs : List D} {j : Nat} {x : D} (h : xs[j]? = some x) : atIx xs (j : Int) = some x := by
  have hl := (List.getElem?_eq_some_iff.mp h).1
  unfold atIx ixOf
  rw [if_pos (by omega), if_pos (by omega), Option.bind_some, Int.toNat_natCast]
  exact h
theorem same_tup (k : Nat) {xs : List D} (hl : xs.length ≤ 10000000) (h : ∀ x ∈ xs, Same (k + 1) x) : Same (k + 2) (.tup xs) := fun m => by
  rw [show lvl tab (k + 2) 16 = m__law_same (lvl tab (k + 1)) from rfl, m__law_same]
  refine fn_gr (r := [.lst ((List.range xs.length).map fun _ => D.bl true)]) (d := .bl true) ?_ rfl
  refine (seq_rt (ift (m1 := m) (nrm_gr0 (d := .bl true) (by rfl) rfl) (sq (iff' (m1 := m) (nrm_gr0 (d := .bl false) (by rfl) rfl) rfl) (sq (iff' (m1 := m) (nrm_gr0 (op_to (x := .int xs.length) (y := .int xs.length) (m1 := m) (m2 := m) rfl rfl (by rw [oeq_int, beq_self_eq_true]; rfl)) rfl) rfl) (ret_rt (op_to c_at (lcM (m1 := m) (gd := []) (List.range xs.length) nI (fun _ => D.bl true) ?_ rfl (fun j hj => ⟨_, rfl, ?_⟩) (by rw [List.length_range]; show _ ≤ 16777216; omega)) ?_))))))
  · rw [rng1_at (j := (xs.length : Int)) (m1 := m) rfl (by show -4611686018427387904 ≤ _; omega) (by show _ < 4611686018427387904; omega), rng_nat]
  · have hj' : j < xs.length := by simpa using hj
    have hx := ix_nat (List.getElem?_eq_getElem hj')
    refine nrm_gr0 (prim_to (a_cons (m1 := m) (d := xs[j]) (op_to (v_at (d := .tup xs) rfl) (v_at (d := nI j) rfl) ?_) (a_one (d := xs[j]) (op_to (v_at (d := .tup xs) rfl) (v_at (d := nI j) rfl) ?_))) (h _ (List.getElem_mem hj') m)) rfl
    · show (atIx xs (j : Int)).map _ = _
      rw [hx]; rfl
    · show (atIx xs (j : Int)).map _ = _
      rw [hx]; rfl
  · rw [oin_bools (bs := (List.range xs.length).map fun _ => true) true false (by rw [get_app0, List.map_map]; rfl), tne, List.any_map]
    have : ∀ l : List Nat, l.any ((fun x => x == false) ∘ fun _ => true) = false := by
      intro l
      induction l with
      | nil => rfl
      | cons a l ih => rw [List.any_cons, ih]; rfl
    rw [this]; rfl
theorem same_dT (k : Nat) {t : List Int} (h : t.length ≤ 10000000) : Same (k + 2) (dT t) := same_tup k (by rw [List.length_map]; exact h) fun x hx => by
  obtain ⟨i, _, rfl⟩ := List.mem_map.mp hx
  exact same_int k i
theorem same_dW (k : Nat) {w : List (List Int)} (hl : w.length ≤ 10000000) (h : ∀ t ∈ w, t.length ≤ 10000000) : Same (k + 3) (dW w) := same_tup (k + 1) (by rw [List.length_map]; exact hl) fun x hx => by
  obtain ⟨t, ht, rfl⟩ := List.mem_map.mp hx
  exact same_dT k (h t ht)
theorem same_optT (k : Nat) {b : Option (List Int)} (h : ∀ t, b = some t → t.length ≤ 10000000) : Same (k + 2) (optT b) := by
  cases b with
  | none => exact same_non (k + 1)
  | some t => exact same_dT k (h t rfl)
/-! ## the draws -/
def Dr (m : M) (l : Nat) : Prop := ∃ ds : List Int, m[l]? = some (.lst (ds.map .int))
def Ch (m : M) (l : Nat) (m' : M) : Prop := l < m.length ∧ ∃ ds : List Int, m' = m.set l (.lst (ds.map .int))
theorem Dr.ch {m : M} {l : Nat} (h : Dr m l) : Ch m l m := by
  obtain ⟨ds, e⟩ := h
  have hl := (List.getElem?_eq_some_iff.mp e).1
  refine ⟨hl, ds, ?_⟩
  apply List.ext_getElem?
  intro i
  by_cases hi : i = l
  · subst hi; rw [List.getElem?_set_self hl]; exact e
  · rw [List.getElem?_set_ne (Ne.symm hi)]
theorem Ch.dr {m m' : M} {l : Nat} (h : Ch m l m') : Dr m' l := by
  obtain ⟨hl, ds, rfl⟩ := h
  exact ⟨ds, List.getElem?_set_self hl⟩
theorem Ch.len {m m' : M} {l : Nat} (h : Ch m l m') : m'.length = m.length := by
  obtain ⟨hl, ds, rfl⟩ := h
  rw [List.length_set]
theorem Ch.trans {m m1 m2 : M} {l : Nat} (a : Ch m l m1) (b : Ch m1 l m2) : Ch m l m2 := by
  obtain ⟨hl, ds, rfl⟩ := a
  obtain ⟨_, ds2, rfl⟩ := b
  exact ⟨hl, ds2, by rw [List.set_set]⟩
theorem Ch.other {m m' : M} {l i : Nat} (h : Ch m l m') (hi : i ≠ l) : m'[i]? = m[i]? := by
  obtain ⟨hl, ds, rfl⟩ := h
  rw [List.getElem?_set_ne (Ne.symm hi)]
theorem Ch.stb {m m' : M} {l : Nat} (h : Ch m l m') (r : M) : stb m (m' ++ r) = true := by
  obtain ⟨hl, ds, rfl⟩ := h
  have := stb_set (m := m) l (o := .lst (ds.map .int)) (ints_gr ds) (stb_app m r)
  rwa [List.set_append_left _ _ hl] at this
theorem Ch.app {m r μ : M} {l : Nat} (hl : l < m.length) (h : Ch (m ++ r) l μ) : ∃ m', μ = m' ++ r ∧ Ch m l m' := by
  obtain ⟨_, ds, rfl⟩ := h
  exact ⟨m.set l (.lst (ds.map .int)), List.set_append_left _ _ hl, hl, ds, rfl⟩
theorem Dr.app {m : M} {l : Nat} (h : Dr m l) (r : M) : Dr (m ++ r) l := let ⟨ds, e⟩ := h; ⟨ds, get_old e r⟩
theorem Dr.lt {m : M} {l : Nat} (h : Dr m l) : l < m.length := let ⟨_, e⟩ := h; (List.getElem?_eq_some_iff.mp e).1
/-- an expression that draws -/
theorem nrm_ch {e : ES} {env : Dm.Env} {m m' r : M} {l : Nat} {d : D} (h : e env m = some (d, m' ++ r)) (hc : Ch m l m') (hd : d.gr = true) : nrm e env m = some (d, m') := by
  unfold nrm
  rw [h, Option.map_some, norm_gr (hc.stb r) hd]
  rw [show m.length = m'.length from hc.len.symm, take_app]
theorem fn_ch {n j : Nat} {b : SS} {args : List D} {m m' r : M} {l : Nat} {d : D} (h : b (args.map some ++ List.replicate j none) m = some (.rt d, m' ++ r)) (hc : Ch m l m') (hd : d.gr = true) (ha : args.length = n := by rfl) : fnS n j b args m = some (d, m') := by
  rw [fn_ret h ha, norm_gr (hc.stb r) hd, show m.length = m'.length from hc.len.symm, take_app]
theorem fn_chn {n j : Nat} {b : SS} {args : List D} {m m' r : M} {l i : Nat} {o : Ob} (h : b (args.map some ++ List.replicate j none) m = some (.rt (.ref (m.length + i)), m' ++ r)) (hc : Ch m l m') (ho : r[i]? = some o) (hg : o.gr = true) (ha : args.length = n := by rfl) : fnS n j b args m = some (.ref m.length, m' ++ [o]) := by
  have hl := hc.len
  rw [fn_ret h ha, norm_new (hc.stb r) (Nat.le_add_right _ _) (by rw [← hl, get_app]; exact ho) hg, ← hl, take_app]
theorem s_take (k : Nat) {m : M} {l : Nat} (h : Dr m l) {n : Int} (hn : 0 < n) : ∃ v m', lvl tab (k + 1) 15 [.ref l, .int n] m = some (.int v, m') ∧ 0 ≤ v ∧ v < n ∧ Ch m l m' := by
  obtain ⟨ds, e⟩ := id h
  have hlen := len_lst e
  rw [show lvl tab (k + 1) 15 = m__law_take (lvl tab k) from rfl, m__law_take]
  by_cases h0 : ds = []
  · subst h0
    refine ⟨0, m, fn_gr (r := []) (d := .int 0) ?_ rfl, Int.le_refl _, hn, h.ch⟩
    rw [List.append_nil]
    exact seq_rt (ift (m1 := m) (nrm_gr0 (op_to (x := .int 0) (y := .int 0) (m1 := m) (m2 := m) (prim_to (a_one (v_at (d := .ref l) rfl)) hlen) c_at rfl) rfl) (ret_rt c_at))
  · obtain ⟨ds0, d, rfl⟩ : ∃ a b, ds = a ++ [b] := ⟨ds.dropLast, ds.getLast h0, (List.dropLast_concat_getLast h0).symm⟩
    have hc : Ch m l (m.set l (.lst (ds0.map .int))) := ⟨h.lt, ds0, rfl⟩
    refine ⟨d % n, _, fn_ch (r := []) (d := .int (d % n)) ?_ hc rfl, Int.emod_nonneg _ (by omega), Int.emod_lt_of_pos _ hn, hc⟩
    rw [List.append_nil]
    refine sq (iff' (m1 := m) (nrm_gr0 (op_to (x := .int ((ds0 ++ [d]).map D.int).length) (y := .int 0) (m1 := m) (m2 := m) (prim_to (a_one (v_at (d := .ref l) rfl)) hlen) c_at ?_) rfl) rfl) (ret_rt (op_to (prim_to (a_one (meth_to (v_at (d := .ref l) rfl) (rcv_lst e) a_nil (pop_at (xs := ds0.map .int) (y := .int d) (by rw [e, List.map_append]; rfl)))) rfl) (v_at (d := .int n) rfl) ?_))
    · rw [oeq_int]
      have : ((((ds0 ++ [d]).map D.int).length : Int) == 0) = false := by
        rw [List.length_map, List.length_append, List.length_singleton]
        (exact beq_eq_false_iff_ne.mpr (by omega))
      rw [this]; rfl
    · show (if 0 < n then some (D.int (d % n), _) else none) = _
      rw [if_pos hn]
end K47
end

section
set_option linter.all false
namespace K47
open PySem Dm Bits Sets
/-! ## _law_some_numbers -/
theorem ten19 (m : M) : oPow (.int 10) (.int 19) m = some (.int 10000000000000000000, m) := by rfl
theorem mul_small (a : Int) (b : Int) (m : M) (hb : -p64 < b ∧ b < p64) : oMul (.int a) (.int b) m = some (.int (a * b), m) := by
  unfold oMul
  dsimp only
  split
  · rfl
  · first
      | rfl
      | rw [if_pos hb]
theorem numbers_loop (k : Nat) {m : M} {ld : Nat} (hd : Dr m ld) : ∀ (n : Nat) (ks : List D) (ns : List Int) (z : Int) (junk : M) (x2 : Option D), ks.length = n → SA (ns ++ [z]) → ns.length + n < 1000 → ∃ y2 m' junk' ns' z', Ch m ld m' ∧ SA (ns' ++ [z']) ∧ ns'.length = ns.length + n ∧
    forGo [] (tName 2) (sExpr (eMeth .list mAppend (eVar 1) (aCons (eOp oAdd (eOp oAdd (eOp oAdd (eOp oIx (eVar 1) (eUn oNeg (eC (.int 1)))) (eC (.int 1))) (ePrim (lvl tab (k + 1) 15) (aCons (eVar 0) (aCons (eC (.int 4)) aNil)))) (eOp oMul (ePrim pInt (aCons (eOp (oEq false) (ePrim (lvl tab (k + 1) 15) (aCons (eVar 0) (aCons (eC (.int 12)) aNil))) (eC (.int 1))) aNil)) (eOp oPow (eC (.int 10)) (eC (.int 19))))) aNil))) ks
      [some (.ref ld), some (.ref m.length), x2] (m ++ .lst ((ns ++ [z]).map .int) :: junk) = some (.nx [some (.ref ld), some (.ref m.length), y2], m' ++ .lst ((ns' ++ [z']).map .int) :: junk') := by
  intro n
  induction n generalizing m with
  | zero =>
    intro ks ns z junk x2 hk hs _
    have : ks = [] := List.length_eq_zero_iff.mp hk
    subst this
    exact ⟨x2, m, junk, ns, z, hd.ch, hs, rfl, for_nil rfl⟩
  | succ n ih =>
    intro ks ns z junk x2 hk hs hl
    obtain ⟨d, ks, rfl⟩ : ∃ d r, ks = d :: r := by cases ks with | nil => simp at hk | cons a b => exact ⟨a, b, rfl⟩
    have hk' : ks.length = n := by simpa using hk
    -- the two draws
    obtain ⟨v1, mu1, e1, a1, a2, c1⟩ := s_take k (hd.app (.lst ((ns ++ [z]).map .int) :: junk)) (n := 4) (by decide)
    obtain ⟨m1, rfl, c1'⟩ := Ch.app hd.lt c1
    obtain ⟨v2, mu2, e2, b1, b2, c2⟩ := s_take k (c1'.dr.app (.lst ((ns ++ [z]).map .int) :: junk)) (n := 12) (by decide)
    obtain ⟨m2, rfl, c2'⟩ := Ch.app c1'.dr.lt c2
    have cc := c1'.trans c2'
    have hget : (m ++ Ob.lst ((ns ++ [z]).map .int) :: junk)[m.length]? = some (.lst ((ns ++ [z]).map .int)) := by rw [get_app0]; rfl
    have hget2 : (m2 ++ Ob.lst ((ns ++ [z]).map .int) :: junk)[m.length]? = some (.lst ((ns ++ [z]).map .int)) := by rw [← cc.len, get_app0]; rfl
    let v : Int := z + 1 + v1 + (if v2 == 1 then 1 else 0) * 10000000000000000000
    have hv : z < v := by
      show z < z + 1 + v1 + (if v2 == 1 then 1 else 0) * 10000000000000000000
      split <;> omega
    have hs' : SA ((ns ++ [z]) ++ [v]) := by
      show ((ns ++ [z]) ++ [v]).Pairwise (· < ·)
      rw [List.pairwise_append]
      refine ⟨hs, by simp, fun x hx y hy => ?_⟩
      have : y = v := by simpa using hy
      subst this
      have hx2 : x ≤ z := by
        (rcases List.mem_append.mp hx with hx | hx)
        · have := (List.pairwise_append.mp hs).2.2 x hx z (by simp); omega
        · have : x = z := by simpa using hx
          omega
      omega
    obtain ⟨y2, m', junk', ns', z', g1, g2, g3, g4⟩ := ih (m := m2) cc.dr ks (ns ++ [z]) v junk (some d) hk' hs' (by rw [List.length_append, List.length_singleton]; omega)
    refine ⟨y2, m', junk', ns', z', cc.trans g1, g2, by rw [g3, List.length_append, List.length_singleton]; omega, fcq rfl rfl (e2 := [some (.ref ld), some (.ref m.length), some d]) (m2 := m2 ++ .lst (((ns ++ [z]) ++ [v]).map .int) :: junk) ((expr_nx (meth_to (v_at (d := .ref m.length) rfl) (rcv_lst hget) (a_one (d := .int v) (m1 := m2 ++ Ob.lst ((ns ++ [z]).map .int) :: junk) ?_) (append_at _ hget2 (by rw [List.length_map, List.length_append, List.length_singleton]; show _ < 16777216; omega)))).trans ?_) (by rw [← cc.len]; exact g4)⟩
    · refine op_to (x := .int (z + 1 + v1)) (m1 := m1 ++ Ob.lst ((ns ++ [z]).map .int) :: junk) (op_to (x := .int (z + 1)) (m1 := m ++ Ob.lst ((ns ++ [z]).map .int) :: junk) (op_to (x := .int z) (m1 := m ++ Ob.lst ((ns ++ [z]).map .int) :: junk) (op_to (v_at (d := .ref m.length) rfl) (un_to c_at (r := (.int (-1), _)) rfl) ?_) c_at rfl) (prim_to (a_cons (v_at (d := .ref ld) rfl) (a_one c_at)) e1) rfl) (op_to (x := .int (if v2 == 1 then 1 else 0)) (m1 := m2 ++ Ob.lst ((ns ++ [z]).map .int) :: junk) (prim_to (a_one (d := .bl (v2 == 1)) (op_to (prim_to (a_cons (v_at (d := .ref ld) rfl) (a_one c_at)) e2) c_at (by rw [oeq_int, fne]))) rfl) (op_to c_at c_at (ten19 _)) (mul_small _ _ _ (by decide))) rfl
      show (match (m ++ Ob.lst ((ns ++ [z]).map .int) :: junk)[m.length]? with
        | some (.lst xs) => (atIx xs (-1)).map fun d => (d, m ++ Ob.lst ((ns ++ [z]).map .int) :: junk)
        | some (.dct kvs) => if keyFor kvs (.int (-1)) then (dget kvs (.int (-1))).map fun d => (d, m ++ Ob.lst ((ns ++ [z]).map .int) :: junk) else none
        | _ => none) = _
      rw [hget]
      dsimp only
      unfold atIx ixOf
      have hlen : ((ns ++ [z]).map D.int).length = ns.length + 1 := by simp
      rw [hlen, if_neg (by omega), if_pos (by omega), Option.bind_some]
      have e : ((-1 : Int) + ((ns.length + 1 : Nat) : Int)).toNat = ns.length := by omega
      rw [e, List.getElem?_map, List.getElem?_append_right (Nat.le_refl _), Nat.sub_self]
      rfl
    · rw [show m.length = m2.length from cc.len.symm, set_app0, List.set_cons_zero]
      simp only [List.map_append]
      rfl
theorem s_numbers (k : Nat) {m : M} {ld : Nat} (hd : Dr m ld) : ∃ ns m', lvl tab (k + 2) 26 [.ref ld] m = some (.ref m.length, m' ++ [.lst (ns.map .int)]) ∧ SA ns ∧ ns.length = 7 ∧ Ch m ld m' := by
  obtain ⟨v0, m0, e0, a1, a2, c0⟩ := s_take k hd (n := 3) (by decide)
  obtain ⟨y2, m', junk', ns', z', g1, g2, g3, g4⟩ := numbers_loop k c0.dr 6 (rng 0 6) [] (1 + v0) [] none rfl (by simp [Sets.SA]) (by simp)
  refine ⟨ns' ++ [z'], m', ?_, g2, by rw [List.length_append, g3]; rfl, c0.trans g1⟩
  rw [show lvl tab (k + 2) 26 = m__law_some_numbers (lvl tab (k + 1)) from rfl, m__law_some_numbers]
  refine fn_chn (i := 0) (r := .lst ((ns' ++ [z']).map .int) :: junk') (o := .lst ((ns' ++ [z']).map .int)) ?_ (c0.trans g1) rfl (ints_gr _)
  have hcl := c0.len
  have h1 : nrm (eLst (aCons (eOp oAdd (eC (.int 1)) (ePrim (lvl tab (k + 1) 15) (aCons (eVar 0) (aCons (eC (.int 3)) aNil)))) aNil)) [some (.ref ld), none, none] m = some (.ref m.length, m0 ++ [.lst [.int (1 + v0)]]) := by
    have e : (eLst (aCons (eOp oAdd (eC (.int 1)) (ePrim (lvl tab (k + 1) 15) (aCons (eVar 0) (aCons (eC (.int 3)) aNil)))) aNil)) [some (.ref ld), none, none] m = some (.ref m0.length, m0 ++ [.lst [.int (1 + v0)]]) :=
      lst_at (a_one (op_to c_at (prim_to (a_cons (v_at (d := .ref ld) rfl) (a_one c_at)) e0) rfl)) (show 1 ≤ 16777216 by decide)
    unfold nrm
    rw [e, Option.map_some, norm_new (c0.stb _) (by omega) (by rw [get_app0]; rfl) rfl, show m.length = m0.length from c0.len.symm, take_app]
  refine sq (asg_nm h1) ?_
  have g4' := g4
  rw [hcl] at g4'
  refine sq (frq (it := iRng1 (eC (.int 6))) (ds := rng 0 6) (gd := []) (rng1_at c_at (by decide) (by decide)) g4') (ret_rt (v_at rfl))
/-! ## _law_is_part, _law_member_key -/
theorem s_part (k : Nat) (m : M) (a b : List Int) (ha : a.length ≤ 1000000) : lvl tab (k + 1) 20 [dT a, dT b] m = some (.bl (a.all fun x => decide (x ∈ b)), m) := by
  rw [show lvl tab (k + 1) 20 = m__law_is_part (lvl tab k) from rfl, m__law_is_part]
  refine fn_gr (r := [.lst (a.map fun x => D.bl (decide (x ∈ b)))]) (d := .bl _) ?_ rfl
  refine ret_rt (op_to c_at (lcM (m1 := m) (gd := []) a D.int (fun x => D.bl (decide (x ∈ b))) (seq_tup (v_at (d := dT a) rfl)) rfl (fun x _ => ⟨_, rfl, nrm_gr0 (op_to (v_at (d := .int x) rfl) (v_at (d := dT b) rfl) (oin_dT x b m)) rfl⟩) (by show _ ≤ 16777216; omega)) ?_)
  rw [oin_bools (bs := a.map fun x => decide (x ∈ b)) true false (by rw [get_app0, List.map_map]; rfl), tne, List.any_map]
  have : ∀ l : List Int, (!(l.any ((fun x => x == false) ∘ fun x => decide (x ∈ b)))) = l.all fun x => decide (x ∈ b) := by
    intro l
    induction l with
    | nil => rfl
    | cons s l ih =>
      rw [List.any_cons, List.all_cons, ← ih, Bool.not_or]
      congr 1
      show (!((decide (s ∈ b)) == false)) = _
      cases decide (s ∈ b) <;> rfl
  rw [this]
theorem s_key (k : Nat) (m : M) (t : List Int) : lvl tab (k + 1) 23 [dT t] m = some (dT t, m) := by
  rw [show lvl tab (k + 1) 23 = m__law_member_key (lvl tab k) from rfl, m__law_member_key]
  refine fn_gr (r := []) (d := dT t) ?_ (gr_dT t)
  rw [List.append_nil]
  refine sq (iff' (m1 := m) (nrm_gr0 (d := .bl false) ?_ rfl) rfl) (ret_rt (v_at rfl))
  cases t with
  | nil => rfl
  | cons a r =>
    unfold eAnd
    have h1 : eOp (oCmp fun i j => decide (j < i)) (ePrim pLen (aCons (eVar 0) aNil)) (eC (.int 0)) (List.map some [dT (a :: r)] ++ List.replicate 0 none) m = some (.bl true, m) := by
      refine op_to (x := .int ((a :: r).map D.int).length) (y := .int 0) (m1 := m) (m2 := m) rfl rfl ?_
      show some (D.bl (decide ((0 : Int) < (((a :: r).map D.int).length : Int))), m) = _
      rw [decide_eq_true (by rw [List.length_map, List.length_cons]; omega)]
    rw [h1]
    dsimp only
    refine un_to (x := .int a) (m1 := m) (op_to (v_at (d := dT (a :: r)) rfl) c_at ?_) rfl
    have := ix_nat (xs := (a :: r).map D.int) (j := 0) (x := .int a) rfl
    show (atIx ((a :: r).map D.int) ((0 : Nat) : Int)).map _ = _
    rw [this]; rfl
/-! ## _law_thin -/
def thinGo : List (List Int) → List (List Int) → List (List Int)
  | [], acc => acc
  | t :: r, acc => thinGo r (if !(acc.any fun o => o.all fun x => decide (x ∈ t)) then acc ++ [t] else acc)
theorem thin_ok : ∀ (l acc : List (List Int)), (∀ t ∈ l, SA t) → (∀ t ∈ acc, SA t) → l.Pairwise (fun a b => a.length ≤ b.length) → (∀ a ∈ acc, ∀ t ∈ l, a.length ≤ t.length) → Anti acc → acc.Nodup →
    Anti (thinGo l acc) ∧ (thinGo l acc).Nodup ∧ ∀ t ∈ thinGo l acc, t ∈ acc ∨ t ∈ l
  | [], acc, _, _, _, _, h5, h6 => ⟨h5, h6, fun t ht => .inl ht⟩
  | t :: r, acc, h1, h2, h3, h4, h5, h6 => by
    rw [List.pairwise_cons] at h3
    rw [thinGo]
    by_cases hc : (!(acc.any fun o => o.all fun x => decide (x ∈ t))) = true
    · rw [if_pos hc]
      rw [Bool.not_eq_true'] at hc
      have hno : ∀ o ∈ acc, ¬ ∀ x ∈ o, x ∈ t := fun o ho q => by
        have : (acc.any fun o => o.all fun x => decide (x ∈ t)) = true := List.any_eq_true.mpr ⟨o, ho, List.all_eq_true.mpr fun x hx => decide_eq_true (q x hx)⟩
        rw [hc] at this; cases this
      have hSt := h1 t List.mem_cons_self
      have anti : Anti (acc ++ [t]) := by
        intro a ha b hb hab
        rcases List.mem_append.mp ha with ha1 | ha1
        · rcases List.mem_append.mp hb with hb1 | hb1
          · exact h5 a ha1 b hb1 hab
          · have e : b = t := by simpa using hb1
            rw [e] at hab
            exact absurd hab (hno a ha1)
        · have e : a = t := by simpa using ha1
          rcases List.mem_append.mp hb with hb1 | hb1
          · have hle := h4 b hb1 t List.mem_cons_self
            rw [← e] at hle
            have hSa : SA a := e ▸ hSt
            refine sa_ext hSa (h2 b hb1) fun x => ⟨hab x, fun hx => Classical.byContradiction fun hn => ?_⟩
            have := List.Nodup.length_le_of_subset (l₁ := x :: a) (l₂ := b) (List.nodup_cons.mpr ⟨hn, hSa.nodup⟩) (fun y hy => by
              (rcases List.mem_cons.mp hy with rfl | hy)
              · exact hx
              · exact hab y hy)
            rw [List.length_cons] at this
            omega
          · rw [e]; exact (by simpa using hb1 : b = t).symm
      have nd : (acc ++ [t]).Nodup := by
        rw [List.nodup_append]
        refine ⟨h6, by simp, fun a ha b hb => ?_⟩
        have : b = t := by simpa using hb
        subst this
        intro e; subst e
        exact hno a ha fun x hx => hx
      obtain ⟨q1, q2, q3⟩ := thin_ok r (acc ++ [t]) (fun x hx => h1 x (List.mem_cons_of_mem _ hx)) (fun x hx => by
        (rcases List.mem_append.mp hx with hx | hx)
        · exact h2 x hx
        · have : x = t := by simpa using hx
          subst this; exact hSt) h3.2 (fun a ha x hx => by
        (rcases List.mem_append.mp ha with ha | ha)
        · exact h4 a ha x (List.mem_cons_of_mem _ hx)
        · have : a = t := by simpa using ha
          subst this; exact h3.1 x hx) anti nd
      refine ⟨q1, q2, fun x hx => ?_⟩
      rcases q3 x hx with h | h
      · (rcases List.mem_append.mp h with h | h)
        · exact .inl h
        · exact .inr (by simp at h; subst h; exact List.mem_cons_self)
      · exact .inr (List.mem_cons_of_mem _ h)
    · rw [if_neg hc]
      obtain ⟨q1, q2, q3⟩ := thin_ok r acc (fun x hx => h1 x (List.mem_cons_of_mem _ hx)) h2 h3.2 (fun a ha x hx => h4 a ha x (List.mem_cons_of_mem _ hx)) h5 h6
      exact ⟨q1, q2, fun x hx => (q3 x hx).imp id (List.mem_cons_of_mem _)⟩
theorem thin_loop (k : Nat) {m : M} {gd : Gd} {e0 : Option D} (r0 : M) (hg : ∀ xs, gdOk gd (m ++ .lst xs :: r0) = true) : ∀ (l acc : List (List Int)) (x2 x3 : Option D), (∀ t ∈ acc ++ l, t.length ≤ 1000) → acc.length + l.length < 10000000 → ∃ y2 y3,
    forGo gd (tName 2) (sIf (nrm (eOp (oIn true) (eC (.bl true)) (eLc [3] (iSeq (eVar 1)) (tName 3) (eC (.bl true)) (nrm (ePrim (lvl tab (k + 1) 20) (aCons (eVar 3) (aCons (eVar 2) aNil))))))) (sExpr (eMeth .list mAppend (eVar 1) (aCons (eVar 2) aNil))) sNil) (l.map dT) [e0, some (.ref m.length), x2, x3] (m ++ .lst (acc.map dT) :: r0)
      = some (.nx [e0, some (.ref m.length), y2, y3], m ++ .lst ((thinGo l acc).map dT) :: r0)
  | [], acc, x2, x3, _, _ => ⟨x2, x3, for_nil (hg _)⟩
  | t :: l, acc, x2, x3, hlen, hl => by
    rw [List.length_cons] at hl
    have hget : (m ++ Ob.lst (acc.map dT) :: r0)[m.length]? = some (.lst (acc.map dT)) := by rw [get_app0]; rfl
    have ht : (nrm (eOp (oIn true) (eC (.bl true)) (eLc [3] (iSeq (eVar 1)) (tName 3) (eC (.bl true)) (nrm (ePrim (lvl tab (k + 1) 20) (aCons (eVar 3) (aCons (eVar 2) aNil))))))) [e0, some (.ref m.length), some (dT t), x3] (m ++ .lst (acc.map dT) :: r0) = some (.bl (!(acc.any fun o => o.all fun x => decide (x ∈ t))), m ++ .lst (acc.map dT) :: r0) := by
      refine nrm_gr (r := [.lst (acc.map fun o => D.bl (o.all fun x => decide (x ∈ t)))]) (op_to c_at (lcM (m1 := m ++ .lst (acc.map dT) :: r0) acc dT (fun o => D.bl (o.all fun x => decide (x ∈ t))) (seq_ref (v_at rfl) hget) (gd_one hget) (fun o ho => ⟨_, rfl, nrm_gr0 (prim_to (a_cons (v_at (d := dT o) rfl) (a_one (v_at (d := dT t) rfl))) (s_part k _ o t (by have := hlen o (List.mem_append_left _ ho); omega))) rfl⟩) (by show _ ≤ 16777216; omega)) ?_) rfl
      rw [oin_bools (bs := acc.map fun o => o.all fun x => decide (x ∈ t)) true true (by rw [get_app0, List.map_map]; rfl), tne, List.any_map, any_tt]
    rw [thinGo]
    by_cases hc : (!(acc.any fun o => o.all fun x => decide (x ∈ t))) = true
    · rw [if_pos hc]
      rw [hc] at ht
      obtain ⟨y2, y3, ih⟩ := thin_loop k (e0 := e0) r0 hg l (acc ++ [t]) (some (dT t)) x3 (fun x hx => hlen x (by simp at hx ⊢; rcases hx with h | h | h; exact .inl h; exact .inr (.inl h); exact .inr (.inr h))) (by rw [List.length_append]; simp; omega)
      refine ⟨y2, y3, fcq (hg _) rfl (e2 := [e0, some (.ref m.length), some (dT t), x3]) (m2 := m ++ .lst ((acc ++ [t]).map dT) :: r0) (ift ht ((expr_nx (meth_to (v_at (d := .ref m.length) rfl) (rcv_lst hget) (a_one (v_at (d := dT t) rfl)) (append_at _ hget (by rw [List.length_map]; show _ < 16777216; omega)))).trans ?_)) ih⟩
      rw [set_app0, List.set_cons_zero, List.map_append]; rfl
    · rw [if_neg hc]
      rw [Bool.eq_false_iff.mpr hc] at ht
      obtain ⟨y2, y3, ih⟩ := thin_loop k (e0 := e0) r0 hg l acc (some (dT t)) x3 (fun x hx => hlen x (by simp at hx ⊢; rcases hx with h | h; exact .inl h; exact .inr (.inr h))) (by omega)
      exact ⟨y2, y3, fcq (hg _) rfl (m2 := m ++ .lst (acc.map dT) :: r0) (iff' ht rfl) ih⟩
theorem s_thin (k : Nat) {m : M} {l : Nat} {ms : List (List Int)} (h : m[l]? = some (.lst (ms.map dT))) (hs : ∀ t ∈ ms, SA t ∧ t ≠ [] ∧ t.length ≤ 1000) (hl : ms.length < 1000000) : ∃ A : List (List Int), Anti A ∧ A.Nodup ∧ (∀ t ∈ A, t ∈ ms) ∧ lvl tab (k + 2) 24 [.ref l] m = some (dW (canon A), m) := by
  let srt := ms.mergeSort fun a b => decide (a.length ≤ b.length)
  have hperm : srt.Perm ms := List.mergeSort_perm _ _
  have hsorted : srt.Pairwise fun a b => a.length ≤ b.length := (List.pairwise_mergeSort (le := fun (a b : List Int) => decide (a.length ≤ b.length)) (fun a b c h1 h2 => decide_eq_true (by have := of_decide_eq_true h1; have := of_decide_eq_true h2; omega)) (fun a b => by
    rw [Bool.or_eq_true]
    rcases Nat.le_total a.length b.length with h | h
    · exact .inl (decide_eq_true h)
    · exact .inr (decide_eq_true h)) ms).imp fun h => of_decide_eq_true h
  have hmem : ∀ t ∈ srt, t ∈ ms := fun t ht => hperm.mem_iff.mp ht
  obtain ⟨q1, q2, q3⟩ := thin_ok srt [] (fun t ht => (hs t (hmem t ht)).1) (by simp) hsorted (by simp) (fun a ha => by simp at ha) .nil
  have hin : ∀ t ∈ thinGo srt [], t ∈ ms := fun t ht => (q3 t ht).elim (fun z => by simp at z) (hmem t)
  refine ⟨thinGo srt [], q1, q2, hin, ?_⟩
  rw [show lvl tab (k + 2) 24 = m__law_thin (lvl tab (k + 1)) from rfl, m__law_thin]
  -- sorted by length
  have hsort : pSortK (fun d m => pLen [d] m) [.ref l] (m ++ [Ob.lst []]) = some (.ref (m ++ [Ob.lst []]).length, m ++ [Ob.lst []] ++ [.lst (srt.map dT)]) := by
    unfold pSortK lstOf
    dsimp only
    rw [get_old h]
    dsimp only
    rw [keysBy_map dT (fun t => nI t.length) ms (fun t _ => by
      show some (D.int ((t.map D.int).length : Int), _) = _
      rw [List.length_map])]
    dsimp only
    rw [if_pos, sortBy_map ms dT (fun t => nI t.length) (fun a b => decide (a.length ≤ b.length)) (fun a _ b _ => by
      rw [le_int]
      by_cases q : a.length ≤ b.length
      · rw [decide_eq_true q, decide_eq_true (by omega)]
      · rw [decide_eq_false q, decide_eq_false (by omega)])]
    rw [List.map_map]
    have := srt_ints (ms.map fun t => (t.length : Int))
    rw [List.map_map] at this
    exact this
  have hlen : ((m ++ [Ob.lst []] ++ [Ob.lst (srt.map dT)]))[(m ++ [Ob.lst []]).length]? = some (.lst (srt.map dT)) := by rw [get_app0]; rfl
  have hsl : srt.length = ms.length := hperm.length_eq
  obtain ⟨y2, y3, hx⟩ := thin_loop k (m := m) (gd := [((m ++ [Ob.lst []]).length, .lst (srt.map dT))]) (e0 := some (.ref l)) [.lst (srt.map dT)] (fun xs => gd_one (by
    have := get_app0 (m ++ [Ob.lst xs]) [.lst (srt.map dT)]
    (rw [List.append_assoc] at this)
    rw [show (m ++ [Ob.lst []]).length = (m ++ [Ob.lst xs]).length by simp]
    exact this)) srt [] none none (fun t ht => (hs t (hmem t (by simpa using ht))).2.2) (by simp; omega)
  have hfin : (m ++ .lst ((thinGo srt []).map dT) :: [.lst (srt.map dT)])[m.length]? = some (.lst ((thinGo srt []).map dT)) := by rw [get_app0]; rfl
  have hsort2 : pSortK (fun d m => lvl tab (k + 1) 23 [d] m) [.ref m.length] (m ++ Ob.lst ((thinGo srt []).map dT) :: [Ob.lst (srt.map dT)]) = some (.ref (m ++ Ob.lst ((thinGo srt []).map dT) :: [Ob.lst (srt.map dT)]).length, m ++ Ob.lst ((thinGo srt []).map dT) :: [Ob.lst (srt.map dT)] ++ [Ob.lst ((canon (thinGo srt [])).map dT)]) := by
    unfold pSortK lstOf
    dsimp only
    rw [hfin]
    dsimp only
    rw [keysBy_map dT dT (thinGo srt []) (fun t _ => s_key k _ t)]
    dsimp only
    rw [if_pos, sortBy_map (thinGo srt []) dT dT lexle (fun _ _ _ _ => rfl)]
    · rfl
    · rw [List.map_map]
      exact sortable_dT _ fun t ht => (hs t (hin t ht)).2.1
  refine fn_gr (r := Ob.lst ((thinGo srt []).map dT) :: [Ob.lst (srt.map dT)] ++ [Ob.lst ((canon (thinGo srt [])).map dT)]) (d := dW _) ?_ (gr_dW _)
  refine sq (asg_nm (nrm_new0 (o := .lst []) (r := []) (lst_at a_nil (Nat.zero_le _)) rfl)) ?_
  refine sq (frq (ds := srt.map dT) (m1 := m ++ [Ob.lst []] ++ [.lst (srt.map dT)]) (seq_ref (prim_to (a_one (v_at (d := .ref l) rfl)) hsort) hlen) (by rw [List.append_assoc]; exact hx)) (ret_rt (prim_to (a_one (prim_to (a_one (v_at (d := .ref m.length) rfl)) hsort2)) ?_))
  unfold pTuple
  dsimp only
  rw [get_app0]
  show some (D.tup _, _) = some (dW (canon _), _)
  unfold dW
  simp
end K47
end

section
set_option linter.all false
namespace K47
open PySem Dm Bits Sets
/-! ## _law_drawn_why -/
theorem draw_lc (k : Nat) {ld ln : Nat} {ns : List Int} {e2 e3 e4 e6 : Option D} (hne : ln ≠ ld) : ∀ (L : List Int) (acc : List D) (mu : M) (x5 : Option D), Dr mu ld → mu[ln]? = some (.lst (ns.map .int)) → acc.length + L.length < 1000 → ∃ (S : List Int) (mu' : M), Ch mu ld mu' ∧ S.Sublist L ∧
    lcGo [(ln, .lst (ns.map .int))] (tName 5) (nrm (eOp (oCmp fun i j => decide (i < j)) (ePrim (lvl tab (k + 1) 15) (aCons (eVar 0) (aCons (eC (.int 5)) aNil))) (eC (.int 2)))) (nrm (eVar 5)) [some (.ref ld), e2, e3, e4, e6, x5, none] (L.map .int) acc mu = some (acc ++ S.map .int, mu')
  | [], acc, mu, x5, hd, hg, _ => ⟨[], mu, hd.ch, List.Sublist.refl _, by rw [List.map_nil, lcGo, if_pos (gd_one hg)]; simp⟩
  | x :: L, acc, mu, x5, hd, hg, hl => by
    rw [List.length_cons] at hl
    obtain ⟨v, mu1, e1, a1, a2, c1⟩ := s_take k hd (n := 5) (by decide)
    have hg1 : mu1[ln]? = some (.lst (ns.map .int)) := by rw [c1.other hne]; exact hg
    have ht : (nrm (eOp (oCmp fun i j => decide (i < j)) (ePrim (lvl tab (k + 1) 15) (aCons (eVar 0) (aCons (eC (.int 5)) aNil))) (eC (.int 2)))) [some (.ref ld), e2, e3, e4, e6, some (.int x), none] mu = some (.bl (decide (v < 2)), mu1) :=
      nrm_ch (r := []) (d := .bl (decide (v < 2))) (by rw [List.append_nil]; exact op_to (prim_to (a_cons (v_at (d := .ref ld) rfl) (a_one c_at)) e1) c_at rfl) c1 rfl
    have hv : ∀ m1 : M, nrm (eVar 5) [some (.ref ld), e2, e3, e4, e6, some (.int x), none] m1 = some (.int x, m1) := fun m1 => nrm_gr0 (v_at rfl) rfl
    by_cases hb : v < 2
    · rw [decide_eq_true hb] at ht
      obtain ⟨S, mu', q1, q2, q3⟩ := draw_lc k hne (ns := ns) (e2 := e2) (e3 := e3) (e4 := e4) (e6 := e6) L (acc ++ [.int x]) mu1 x5 c1.dr hg1 (by rw [List.length_append]; simp; omega)
      refine ⟨x :: S, mu', c1.trans q1, q2.cons_cons x, ?_⟩
      rw [List.map_cons, lcGo, if_pos (gd_one hg), show tName 5 (.int x) [some (.ref ld), e2, e3, e4, e6, x5, none] = some [some (.ref ld), e2, e3, e4, e6, some (.int x), none] from rfl]
      dsimp only
      rw [ht]
      dsimp only
      rw [hv]
      dsimp only
      rw [if_pos (by show _ < 16777216; omega), q3, List.append_assoc]
      rfl
    · rw [decide_eq_false hb] at ht
      obtain ⟨S, mu', q1, q2, q3⟩ := draw_lc k hne (ns := ns) (e2 := e2) (e3 := e3) (e4 := e4) (e6 := e6) L acc mu1 x5 c1.dr hg1 (by omega)
      refine ⟨S, mu', c1.trans q1, q2.cons x, ?_⟩
      rw [List.map_cons, lcGo, if_pos (gd_one hg), show tName 5 (.int x) [some (.ref ld), e2, e3, e4, e6, x5, none] = some [some (.ref ld), e2, e3, e4, e6, some (.int x), none] from rfl]
      dsimp only
      rw [ht]
      dsimp only
      exact q3
theorem why_loop (k : Nat) {ld ln : Nat} {ns : List Int} (hne : ln ≠ ld) (hnl : ns.length ≤ 500) {e2 : Option D} : ∀ (ks : List D) {m : M} (sup : List (List Int)) (junk : M) (x4 : Option D), Dr m ld → m[ln]? = some (.lst (ns.map .int)) → (∀ t ∈ sup, t.Sublist ns) → sup.length + ks.length < 1000 → ∃ (y4 : Option D) (m' junk' : M) (sup' : List (List Int)), Ch m ld m' ∧ (∀ t ∈ sup', t.Sublist ns) ∧ sup'.length = sup.length + ks.length ∧
    forGo [] (tName 4) (sExpr (eMeth .list mAppend (eVar 3) (aCons (ePrim pTuple (aCons (eLc [5] (iSeq (eVar 1)) (tName 5) (nrm (eOp (oCmp fun i j => decide (i < j)) (ePrim (lvl tab (k + 1) 15) (aCons (eVar 0) (aCons (eC (.int 5)) aNil))) (eC (.int 2)))) (nrm (eVar 5))) aNil)) aNil))) ks
      [some (.ref ld), some (.ref ln), e2, some (.ref m.length), x4, none, none] (m ++ .lst (sup.map dT) :: junk) = some (.nx [some (.ref ld), some (.ref ln), e2, some (.ref m.length), y4, none, none], m' ++ .lst (sup'.map dT) :: junk')
  | [], m, sup, junk, x4, hd, hg, hs, _ => ⟨x4, m, junk, sup, hd.ch, hs, rfl, for_nil rfl⟩
  | d :: ks, m, sup, junk, x4, hd, hg, hs, hl => by
    rw [List.length_cons] at hl
    have hlt := hd.lt
    obtain ⟨S, mu', q1, q2, q3⟩ := draw_lc k hne (ns := ns) (e2 := some (.ref ln)) (e3 := e2) (e4 := some (.ref m.length)) (e6 := some d) ns [] (m ++ .lst (sup.map dT) :: junk) none (hd.app _) (get_old hg _) (by simp; omega)
    obtain ⟨m1, rfl, c1⟩ := Ch.app hlt q1
    have hgm : (m ++ Ob.lst (sup.map dT) :: junk)[m.length]? = some (.lst (sup.map dT)) := by rw [get_app0]; rfl
    have hget : (m1 ++ (Ob.lst (sup.map dT) :: junk) ++ [Ob.lst (S.map .int)])[m.length]? = some (.lst (sup.map dT)) := by rw [← c1.len, List.append_assoc, get_app0]; rfl
    obtain ⟨y4, m', junk', sup', g1, g2, g3, g4⟩ := why_loop k hne hnl (e2 := e2) ks (m := m1) (sup ++ [S]) (junk ++ [.lst (S.map .int)]) (some d) c1.dr (by rw [c1.other hne]; exact hg) (fun t ht => by
      rcases List.mem_append.mp ht with ht | ht
      · exact hs t ht
      · have : t = S := by simpa using ht
        subst this; exact q2) (by rw [List.length_append, List.length_singleton]; omega)
    refine ⟨y4, m', junk', sup', c1.trans g1, g2, by rw [g3, List.length_append, List.length_singleton, List.length_cons]; omega, fcq rfl rfl (e2 := [some (.ref ld), some (.ref ln), e2, some (.ref m.length), some d, none, none]) (m2 := m1 ++ .lst ((sup ++ [S]).map dT) :: (junk ++ [.lst (S.map .int)])) ((expr_nx (meth_to (v_at (d := .ref m.length) rfl) (rcv_lst hgm) (a_one (d := dT S) (m1 := m1 ++ (Ob.lst (sup.map dT) :: junk) ++ [Ob.lst (S.map .int)]) ?_) (append_at _ hget (by rw [List.length_map]; show _ < 16777216; omega)))).trans ?_) (by rw [← c1.len]; exact g4)⟩
    · refine prim_to (a_one (d := .ref (m1 ++ (Ob.lst (sup.map dT) :: junk)).length) (m1 := m1 ++ (Ob.lst (sup.map dT) :: junk) ++ [Ob.lst (S.map .int)]) ?_) ?_
      · unfold eLc
        rw [show iSeq (eVar 1) ([some (D.ref ld), some (D.ref ln), e2, some (D.ref m.length), x4, none, none].set 4 (some d)) (m ++ Ob.lst (sup.map dT) :: junk) = some (ns.map .int, [(ln, .lst (ns.map .int))], m ++ Ob.lst (sup.map dT) :: junk) from seq_ref (v_at (d := .ref ln) rfl) (get_old hg _)]
        dsimp only
        rw [show wipeE ([some (D.ref ld), some (D.ref ln), e2, some (D.ref m.length), x4, none, none].set 4 (some d)) [5] = [some (D.ref ld), some (D.ref ln), e2, some (D.ref m.length), some d, none, none] from rfl, q3]
        rfl
      · unfold pTuple
        dsimp only
        rw [get_app0]; rfl
    · rw [← c1.len, List.append_assoc, set_app0, List.cons_append, List.set_cons_zero, List.map_append]
      rfl
theorem canon_nil : canon [] = [] := by simp [canon]
theorem canon_one (t : List Int) : canon [t] = [t] := by simp [canon]
theorem s_why (k : Nat) {m : M} {ld ln : Nat} {ns : List Int} (hd : Dr m ld) (hne : ln ≠ ld) (hg : m[ln]? = some (.lst (ns.map .int))) (hns : SA ns) (hnl : ns.length ≤ 500) : ∃ A m', lvl tab (k + 3) 25 [.ref ld, .ref ln] m = some (dW (canon A), m') ∧ Ch m ld m' ∧ Anti A ∧ A.Nodup ∧ A.length ≤ 10 ∧ ∀ t ∈ A, SA t ∧ ∀ x ∈ t, x ∈ ns := by
  obtain ⟨v, m1, e1, a1, a2, c1⟩ := s_take (k + 1) hd (n := 12) (by decide)
  have hkind : (sAsg (tName 2) (nrm (ePrim (lvl tab (k + 2) 15) (aCons (eVar 0) (aCons (eC (.int 12)) aNil))))) [some (.ref ld), some (.ref ln), none, none, none, none, none] m = some (.nx [some (.ref ld), some (.ref ln), some (.int v), none, none, none, none], m1) :=
    asg_nm (nrm_ch (r := []) (d := .int v) (by rw [List.append_nil]; exact prim_to (a_cons (v_at (d := .ref ld) rfl) (a_one c_at)) e1) c1 rfl)
  have ht : ∀ n : Int, (nrm (eOp (oEq false) (eVar 2) (eC (.int n)))) [some (.ref ld), some (.ref ln), some (.int v), none, none, none, none] m1 = some (.bl (v == n), m1) := fun n => nrm_gr0 (op_to (v_at (d := .int v) rfl) c_at (by rw [oeq_int, fne])) rfl
  rw [show lvl tab (k + 3) 25 = m__law_drawn_why (lvl tab (k + 2)) from rfl, m__law_drawn_why]
  by_cases h1 : v = 1
  · refine ⟨[], m1, fn_ch (r := []) (d := dW (canon [])) ?_ c1 (gr_dW _), c1, fun a ha => by simp at ha, .nil, by simp, fun t ht => by simp at ht⟩
    have t1 := ht 1
    rw [h1] at t1
    rw [List.append_nil, canon_nil]
    refine sq hkind (seq_rt (ift ?_ (ret_rt (tup_at a_nil (Nat.zero_le _)))))
    rw [h1]; exact t1
  · have t1 := ht 1
    rw [beq_eq_false_iff_ne.mpr h1] at t1
    by_cases h2 : v = 2
    · refine ⟨[[]], m1, fn_ch (r := []) (d := dW (canon [[]])) ?_ c1 (gr_dW _), c1, fun a ha b hb _ => by simp at ha hb; rw [ha, hb], by simp, by simp, fun t ht => by simp at ht; subst ht; exact ⟨.nil, fun x hx => by simp at hx⟩⟩
      have t2 := ht 2
      rw [h2] at t2
      rw [List.append_nil, canon_one]
      refine sq hkind (sq (iff' t1 rfl) (seq_rt (ift ?_ (ret_rt (tup_at (a_one (tup_at a_nil (Nat.zero_le _))) (show 1 ≤ 16777216 by decide))))))
      rw [h2]; exact t2
    · have t2 := ht 2
      rw [beq_eq_false_iff_ne.mpr h2] at t2
      have hsupp : (sAsg (tName 3) (nrm (eLst aNil))) [some (.ref ld), some (.ref ln), some (.int v), none, none, none, none] m1 = some (.nx [some (.ref ld), some (.ref ln), some (.int v), some (.ref m1.length), none, none, none], m1 ++ [.lst []]) :=
        asg_nm (nrm_new0 (o := .lst []) (r := []) (lst_at a_nil (Nat.zero_le _)) rfl)
      obtain ⟨w, mu, e3, b1, b2, c3⟩ := s_take (k + 1) (c1.dr.app [.lst []]) (n := 10) (by decide)
      obtain ⟨m2, rfl, c3'⟩ := Ch.app c1.dr.lt c3
      have cc := c1.trans c3'
      have hnn : (1 + w - 0).toNat ≤ 10 := by omega
      obtain ⟨y4, m', junk', sup', g1, g2, g3, g4⟩ := why_loop (k + 1) hne hnl (e2 := some (.int v)) (rng 0 (1 + w)) (m := m2) [] [] none cc.dr (by rw [cc.other hne]; exact hg) (by simp) (by unfold rng; simp; omega)
      have cf := cc.trans g1
      have hsl : sup'.length ≤ 10 := by rw [g3]; unfold rng; simp; omega
      have hget : (m' ++ Ob.lst (sup'.map dT) :: junk')[m2.length]? = some (.lst (sup'.map dT)) := by rw [← g1.len, get_app0]; rfl
      have hget' : (m' ++ Ob.lst (sup'.map dT) :: junk')[m1.length]? = some (.lst (sup'.map dT)) := by rw [← c3'.len]; exact hget
      let ms := sup'.filter fun t => decide (0 < t.length)
      have hms : ((m' ++ Ob.lst (sup'.map dT) :: junk') ++ [Ob.lst (ms.map dT)])[(m' ++ Ob.lst (sup'.map dT) :: junk').length]? = some (.lst (ms.map dT)) := by rw [get_app0]; rfl
      have hmsl : ms.length ≤ 10 := by have := List.length_filter_le (fun t : List Int => decide (0 < t.length)) sup'; show (sup'.filter _).length ≤ 10; omega
      have hmem : ∀ t ∈ ms, t.Sublist ns ∧ 0 < t.length := fun t ht => by
        obtain ⟨q1, q2⟩ := List.mem_filter.mp ht
        exact ⟨g2 t q1, of_decide_eq_true q2⟩
      obtain ⟨A, A1, A2, A3, A4⟩ := s_thin k hms (fun t ht => by
        obtain ⟨q1, q2⟩ := hmem t ht
        have := q1.length_le
        exact ⟨hns.sublist q1, by intro e; subst e; simp at q2, by omega⟩) (by omega)
      refine ⟨A, m', fn_ch (r := (Ob.lst (sup'.map dT) :: junk') ++ [Ob.lst (ms.map dT)]) (d := dW (canon A)) ?_ cf (gr_dW _), cf, A1, A2, Nat.le_trans (List.Nodup.length_le_of_subset A2 A3) hmsl, fun t ht => ⟨hns.sublist (hmem t (A3 t ht)).1, fun x hx => (hmem t (A3 t ht)).1.subset hx⟩⟩
      refine sq hkind (sq (iff' t1 rfl) (sq (iff' t2 rfl) (sq hsupp (sq (frq (ds := rng 0 (1 + w)) (gd := []) (m1 := m2 ++ [Ob.lst []]) (rng1_at (j := 1 + w) (op_to c_at (prim_to (a_cons (v_at (d := .ref ld) rfl) (a_one c_at)) e3) rfl) (by show -4611686018427387904 ≤ _; omega) (by show _ < 4611686018427387904; omega)) (by rw [← c3'.len]; exact g4)) ?_))))
      refine ret_rt (prim_to (a_one (lcF (own := [6]) (it := iSeq (eVar 3)) (m1 := m' ++ Ob.lst (sup'.map dT) :: junk') sup' dT dT (fun t => decide (0 < t.length)) (seq_ref (v_at (d := .ref m2.length) rfl) hget) (gd_one hget) (fun t _ => ⟨_, rfl, nrm_gr0 (op_to (x := .int t.length) (m1 := m' ++ Ob.lst (sup'.map dT) :: junk') (prim_to (a_one (v_at (d := dT t) rfl)) ?_) c_at ?_) rfl, fun _ => nrm_gr0 (v_at (d := dT t) rfl) (gr_dT t)⟩) (by show _ ≤ 16777216; omega))) ?_)
      · show some (D.int ((t.map D.int).length : Int), _) = _
        rw [List.length_map]
      · show some (D.bl (decide ((0 : Int) < (t.length : Int))), _) = _
        by_cases q : 0 < t.length
        · rw [decide_eq_true q, decide_eq_true (by omega)]
        · rw [decide_eq_false q, decide_eq_false (by omega)]
      · rw [A4, List.append_assoc]
end K47
end

section
set_option linter.all false
namespace K47
open PySem Dm Bits Sets
/-! ## _law_draws -/
theorem ix_ref {m : M} {l j : Nat} {ns : List Int} {x : Int} (h : m[l]? = some (.lst (ns.map .int))) (hx : ns[j]? = some x) : oIx (.ref l) (nI j) m = some (.int x, m) := by
  unfold oIx
  dsimp only
  rw [h]
  dsimp only
  rw [ix_nat (x := .int x) (by rw [List.getElem?_map, hx]; rfl)]
  rfl
theorem draws_loop {m : M} {e0 e1 : Option D} {cs : List Int} (hcs : cs ≠ []) (hcl : cs.length ≤ 1000) : ∀ (n a : Nat) (ls ds : List Int) (x5 x6 x7 x8 : Option D), ls.length = cs.length → ds.length + n < 10000 → ∃ (y5 y6 y7 y8 : Option D) (ls' ds' : List Int),
    forGo [] (tName 5) (sSeq (sAsg (tName 6) (nrm (eOp oMod (eVar 5) (ePrim pLen (aCons (eVar 2) aNil)))))
    (sIf (nrm (eOp (oCmp fun i j => decide (j ≤ i)) (eOp oIx (eVar 2) (eVar 6)) (eOp oPow (eC (.int 10)) (eC (.int 18))))) (sSeq (sExpr (eMeth .list mAppend (eVar 4) (aCons (eOp oMod (ePrim pInt (aCons (eOp oIx (eVar 3) (eVar 6)) aNil)) (eC (.int 1000))) aNil)))
    (sSub (eVar 3) (eVar 6) (nrm (eOp oFdiv (eOp oIx (eVar 3) (eVar 6)) (eC (.int 1000)))))) (sSeq (sAsg (tName 7) (nrm (eOp oMod (ePrim pInt (aCons (eOp oAdd (eOp oAdd (eOp oMul (eOp oIx (eVar 2) (eVar 6)) (eC (.int 48271))) (eOp oMul (eVar 5) (eC (.int 69621)))) (eC (.int 11))) aNil)) (eC (.int 2147483647)))))
    (sExpr (eMeth .list mAppend (eVar 4) (aCons (eOp oMod (ePrim pInt (aCons (eOp oAdd (eOp oAdd (eOp oMul (eVar 7) (eVar 7)) (eOp oMul (eC (.int 3)) (eVar 7))) (eVar 5)) aNil)) (eC (.int 1000003))) aNil)))))) ((List.range' a n).map nI)
      [e0, e1, some (.ref m.length), some (.ref (m.length + 1)), some (.ref (m.length + 2)), x5, x6, x7, x8] (m ++ [.lst (cs.map .int), .lst (ls.map .int), .lst (ds.map .int)]) = some (.nx [e0, e1, some (.ref m.length), some (.ref (m.length + 1)), some (.ref (m.length + 2)), y5, y6, y7, y8], m ++ [.lst (cs.map .int), .lst (ls'.map .int), .lst (ds'.map .int)])
  | 0, a, ls, ds, x5, x6, x7, x8, _, _ => ⟨x5, x6, x7, x8, ls, ds, for_nil rfl⟩
  | n + 1, a, ls, ds, x5, x6, x7, x8, hls, hl => by
    have hpos : 0 < cs.length := List.length_pos_iff.mpr hcs
    have hp : a % cs.length < cs.length := Nat.mod_lt _ hpos
    have hp2 : a % cs.length < ls.length := by omega
    generalize hpe : a % cs.length = p at hp hp2
    have g0 : ∀ ls ds : List Int, (m ++ [Ob.lst (cs.map .int), .lst (ls.map .int), .lst (ds.map .int)])[m.length]? = some (.lst (cs.map .int)) := fun _ _ => by rw [get_app0]; rfl
    have g1 : ∀ ls ds : List Int, (m ++ [Ob.lst (cs.map .int), .lst (ls.map .int), .lst (ds.map .int)])[m.length + 1]? = some (.lst (ls.map .int)) := fun _ _ => by rw [get_app]; rfl
    have g2 : ∀ ls ds : List Int, (m ++ [Ob.lst (cs.map .int), .lst (ls.map .int), .lst (ds.map .int)])[m.length + 2]? = some (.lst (ds.map .int)) := fun _ _ => by rw [get_app]; rfl
    have hc := List.getElem?_eq_getElem hp
    have hlx := List.getElem?_eq_getElem hp2
    generalize cs[p] = c at hc
    generalize ls[p] = lv at hlx
    have hplace : (sAsg (tName 6) (nrm (eOp oMod (eVar 5) (ePrim pLen (aCons (eVar 2) aNil))))) [e0, e1, some (.ref m.length), some (.ref (m.length + 1)), some (.ref (m.length + 2)), some (nI a), x6, x7, x8] (m ++ [.lst (cs.map .int), .lst (ls.map .int), .lst (ds.map .int)]) = some (.nx [e0, e1, some (.ref m.length), some (.ref (m.length + 1)), some (.ref (m.length + 2)), some (nI a), some (nI p), x7, x8], m ++ [.lst (cs.map .int), .lst (ls.map .int), .lst (ds.map .int)]) := by
      refine asg_nm (nrm_gr0 (d := nI p) (op_to (v_at (d := nI a) rfl) (prim_to (a_one (v_at (d := .ref m.length) rfl)) (len_lst (g0 _ _))) ?_) rfl)
      rw [List.length_map]
      show (if 0 < (cs.length : Int) then some (D.int ((a : Int) % (cs.length : Int)), _) else none) = _
      rw [if_pos (by omega), ← hpe]
      rfl
    have htest : (nrm (eOp (oCmp fun i j => decide (j ≤ i)) (eOp oIx (eVar 2) (eVar 6)) (eOp oPow (eC (.int 10)) (eC (.int 18))))) [e0, e1, some (.ref m.length), some (.ref (m.length + 1)), some (.ref (m.length + 2)), some (nI a), some (nI p), x7, x8] (m ++ [.lst (cs.map .int), .lst (ls.map .int), .lst (ds.map .int)]) = some (.bl (decide ((1000000000000000000 : Int) ≤ c)), m ++ [.lst (cs.map .int), .lst (ls.map .int), .lst (ds.map .int)]) :=
      nrm_gr0 (op_to (op_to (v_at (d := .ref m.length) rfl) (v_at (d := nI p) rfl) (ix_ref (g0 _ _) hc)) (op_to c_at c_at (r := (.int 1000000000000000000, _)) rfl) rfl) rfl
    rw [List.range'_succ, List.map_cons]
    by_cases hb : (1000000000000000000 : Int) ≤ c
    · rw [decide_eq_true hb] at htest
      obtain ⟨y5, y6, y7, y8, ls', ds', ih⟩ := draws_loop hcs hcl (m := m) (e0 := e0) (e1 := e1) n (a + 1) (ls.set p (lv / 1000)) (ds ++ [lv % 1000]) (some (nI a)) (some (nI p)) x7 x8 (by rw [List.length_set]; exact hls) (by rw [List.length_append, List.length_singleton]; omega)
      refine ⟨y5, y6, y7, y8, ls', ds', fcq rfl rfl (e2 := [e0, e1, some (.ref m.length), some (.ref (m.length + 1)), some (.ref (m.length + 2)), some (nI a), some (nI p), x7, x8]) (m2 := m ++ [.lst (cs.map .int), .lst ((ls.set p (lv / 1000)).map .int), .lst ((ds ++ [lv % 1000]).map .int)]) (sq hplace (ift htest ((seq_nx (e1 := [e0, e1, some (.ref m.length), some (.ref (m.length + 1)), some (.ref (m.length + 2)), some (nI a), some (nI p), x7, x8]) (m1 := m ++ [.lst (cs.map .int), .lst (ls.map .int), .lst ((ds ++ [lv % 1000]).map .int)]) ((expr_nx (meth_to (v_at (d := .ref (m.length + 2)) rfl) (rcv_lst (g2 _ _)) (a_one (d := .int (lv % 1000)) (op_to (prim_to (a_one (op_to (v_at (d := .ref (m.length + 1)) rfl) (v_at (d := nI p) rfl) (ix_ref (g1 _ _) hlx))) rfl) c_at rfl)) (append_at _ (g2 _ _) (by rw [List.length_map]; show _ < 16777216; omega)))).trans ?_)).trans ?_))) ih⟩
      · rw [set_app, List.map_append]; rfl
      · unfold sSub
        have hv : nrm (eOp oFdiv (eOp oIx (eVar 3) (eVar 6)) (eC (.int 1000))) [e0, e1, some (.ref m.length), some (.ref (m.length + 1)), some (.ref (m.length + 2)), some (nI a), some (nI p), x7, x8] (m ++ [.lst (cs.map .int), .lst (ls.map .int), .lst ((ds ++ [lv % 1000]).map .int)]) = some (.int (lv / 1000), m ++ [.lst (cs.map .int), .lst (ls.map .int), .lst ((ds ++ [lv % 1000]).map .int)]) :=
          nrm_gr0 (op_to (op_to (v_at (d := .ref (m.length + 1)) rfl) (v_at (d := nI p) rfl) (ix_ref (g1 _ _) hlx)) c_at rfl) rfl
        rw [hv]
        dsimp only
        rw [v_at (d := .ref (m.length + 1)) rfl]
        dsimp only
        rw [v_at (d := nI p) rfl]
        dsimp only
        unfold Dm.putAt
        dsimp only
        rw [g1]
        dsimp only
        unfold ixOf
        rw [if_pos (by omega), if_pos (by rw [List.length_map]; omega), Option.map_some, Option.map_some, Int.toNat_natCast, set_app]
        simp only [List.map_set, List.set_cons_succ, List.set_cons_zero]
    · rw [decide_eq_false hb] at htest
      let mx : Int := (c * 48271 + (a : Int) * 69621 + 11) % 2147483647
      have hmx : 0 ≤ mx ∧ mx < 2147483647 := ⟨Int.emod_nonneg _ (by decide), Int.emod_lt_of_pos _ (by decide)⟩
      have hmb : -p64 < mx ∧ mx < p64 := ⟨by show -18446744073709551616 < mx; omega, by show mx < 18446744073709551616; omega⟩
      obtain ⟨y5, y6, y7, y8, ls', ds', ih⟩ := draws_loop hcs hcl (m := m) (e0 := e0) (e1 := e1) n (a + 1) ls (ds ++ [(mx * mx + 3 * mx + (a : Int)) % 1000003]) (some (nI a)) (some (nI p)) (some (.int mx)) x8 hls (by rw [List.length_append, List.length_singleton]; omega)
      refine ⟨y5, y6, y7, y8, ls', ds', fcq rfl rfl (e2 := [e0, e1, some (.ref m.length), some (.ref (m.length + 1)), some (.ref (m.length + 2)), some (nI a), some (nI p), some (.int mx), x8]) (m2 := m ++ [.lst (cs.map .int), .lst (ls.map .int), .lst ((ds ++ [(mx * mx + 3 * mx + (a : Int)) % 1000003]).map .int)]) (sq hplace (iff' htest (sq (asg_nm (nrm_gr0 (d := .int mx) (op_to (prim_to (a_one (op_to (op_to (op_to (op_to (v_at (d := .ref m.length) rfl) (v_at (d := nI p) rfl) (ix_ref (g0 _ _) hc)) c_at (mul_small c 48271 _ (by decide))) (op_to (v_at (d := nI a) rfl) c_at (mul_small (a : Int) 69621 _ (by decide))) rfl) c_at rfl)) rfl) c_at rfl) rfl)) ((expr_nx (meth_to (v_at (d := .ref (m.length + 2)) rfl) (rcv_lst (g2 _ _)) (a_one (d := .int ((mx * mx + 3 * mx + (a : Int)) % 1000003)) (op_to (prim_to (a_one (op_to (op_to (op_to (v_at (d := .int mx) rfl) (v_at (d := .int mx) rfl) (mul_small mx mx _ hmb)) (op_to c_at (v_at (d := .int mx) rfl) (mul_small 3 mx _ hmb)) rfl) (v_at (d := nI a) rfl) rfl)) rfl) c_at rfl)) (append_at _ (g2 _ _) (by rw [List.length_map]; show _ < 16777216; omega)))).trans ?_)))) ih⟩
      rw [set_app, List.map_append]; rfl
theorem s_draws (k : Nat) (ns : List Int) (hl : ns.length ≤ 63) : ∃ ds : List Int, lvl tab (k + 1) 14 [.fl (ns.map .int), .int 320] [] = some (.ref 0, [.lst (ds.map .int)]) := by
  let cs : List Int := if ns = [] then [0] else ns
  have hcs : cs ≠ [] := by show (if ns = [] then [0] else ns) ≠ []; split <;> simp_all
  have hcl : cs.length ≤ 1000 := by
    show (if ns = [] then [0] else ns).length ≤ 1000
    split
    · simp
    · omega
  obtain ⟨y5, y6, y7, y8, ls', ds', hx⟩ := draws_loop (m := []) (e0 := some (.fl (ns.map .int))) (e1 := some (.int 320)) hcs hcl 320 0 cs [] none none none none rfl (by simp)
  refine ⟨ds'.reverse, ?_⟩
  rw [show lvl tab (k + 1) 14 = m__law_draws (lvl tab k) from rfl, m__law_draws]
  refine fn_new (m := []) (i := 2) (r := [.lst (cs.map .int), .lst (ls'.map .int), .lst (ds'.reverse.map .int)]) (o := .lst (ds'.reverse.map .int)) ?_ rfl (ints_gr _)
  have h1 : (sAsg (tName 2) (nrm (eLc [8] (iSeq (eVar 0)) (tName 8) (eC (.bl true)) (nrm (ePrim pInt (aCons (eVar 8) aNil)))))) [some (.fl (ns.map .int)), some (.int 320), none, none, none, none, none, none, none] [] = some (.nx [some (.fl (ns.map .int)), some (.int 320), some (.ref 0), none, none, none, none, none, none], [.lst (ns.map .int)]) :=
    asg_nm (nrm_new0 (m := []) (r := []) (lcM (m1 := []) (gd := []) ns D.int D.int rfl rfl (fun i _ => ⟨_, rfl, nrm_gr0 (prim_to (a_one (v_at (d := .int i) rfl)) rfl) rfl⟩) (by show _ ≤ 16777216; omega)) (ints_gr _))
  have h2 : (sIf (nrm (eOp (oEq false) (ePrim pLen (aCons (eVar 2) aNil)) (eC (.int 0)))) (sExpr (eMeth .list mAppend (eVar 2) (aCons (eC (.int 0)) aNil))) sNil) [some (.fl (ns.map .int)), some (.int 320), some (.ref 0), none, none, none, none, none, none] [.lst (ns.map .int)] = some (.nx [some (.fl (ns.map .int)), some (.int 320), some (.ref 0), none, none, none, none, none, none], [.lst (cs.map .int)]) := by
    have ht : (nrm (eOp (oEq false) (ePrim pLen (aCons (eVar 2) aNil)) (eC (.int 0)))) [some (.fl (ns.map .int)), some (.int 320), some (.ref 0), none, none, none, none, none, none] [.lst (ns.map .int)] = some (.bl (((ns.map D.int).length : Int) == 0), [.lst (ns.map .int)]) := nrm_gr0 (op_to (prim_to (a_one (v_at (d := .ref 0) rfl)) (len_lst rfl)) c_at (by rw [oeq_int, fne])) rfl
    by_cases h0 : ns = []
    · subst h0
      exact ift ht (expr_nx (meth_to (v_at (d := .ref 0) rfl) rfl (a_one c_at) (append_at (l := 0) (xs := []) _ rfl (by decide))))
    · have e : cs = ns := by show (if ns = [] then [0] else ns) = ns; rw [if_neg h0]
      rw [e]
      have hz : (((ns.map D.int).length : Int) == 0) = false := beq_eq_false_iff_ne.mpr (by rw [List.length_map]; have := List.length_pos_iff.mpr h0; omega)
      rw [hz] at ht
      exact iff' ht rfl
  refine sq h1 (sq h2 ?_)
  refine sq (asg_nm (nrm_new0 (m := [Ob.lst (cs.map .int)]) (r := []) (prim_to (a_one (v_at (d := .ref 0) rfl)) rfl) (ints_gr cs))) ?_
  refine sq (asg_nm (nrm_new0 (m := [Ob.lst (cs.map .int), Ob.lst (cs.map .int)]) (o := .lst []) (r := []) (lst_at a_nil (Nat.zero_le _)) rfl)) ?_
  refine sq (frq (it := iRng1 (eVar 1)) (ds := (List.range' 0 320).map nI) (gd := []) (m1 := [Ob.lst (cs.map .int), Ob.lst (cs.map .int), Ob.lst []]) ?_ hx) ?_
  · refine (rng1_at (v_at (d := .int 320) rfl) (by decide) (by decide)).trans ?_
    rw [show (320 : Int) = ((320 : Nat) : Int) from rfl, rng_nat, List.range_eq_range']
    rfl
  · refine sq (m1 := [.lst (cs.map .int), .lst (ls'.map .int), .lst (ds'.reverse.map .int)]) (expr_nx (meth_to (v_at (d := .ref 2) rfl) rfl a_nil (r := (.non, _)) ?_)) (ret_rt (v_at rfl))
    show some (D.non, [Ob.lst (cs.map .int), .lst (ls'.map .int), .lst (ds'.map .int)].set 2 (.lst (ds'.map D.int).reverse)) = _
    rw [← List.map_reverse]; rfl
end K47
end

section
set_option linter.all false
namespace Sets
def srt (L : List Int) : List Int := L.mergeSort fun a b => decide (a ≤ b)
theorem mem_srt {L : List Int} {x : Int} : x ∈ srt L ↔ x ∈ L := (List.mergeSort_perm _ _).mem_iff
theorem srt_sa {L : List Int} (h : L.Nodup) : SA (srt L) := by
  have hn : (srt L).Nodup := (List.mergeSort_perm L _).nodup_iff.mpr h
  have hs : (srt L).Pairwise fun a b => decide (a ≤ b) = true := List.pairwise_mergeSort (fun a b c h1 h2 => decide_eq_true (by have := of_decide_eq_true h1; have := of_decide_eq_true h2; omega)) (fun a b => by
    rw [Bool.or_eq_true]
    rcases Int.le_total a b with h | h
    · exact .inl (decide_eq_true h)
    · exact .inr (decide_eq_true h)) _
  refine (hs.and (List.nodup_iff_pairwise_ne.mp hn)).imp fun h => ?_
  have := of_decide_eq_true h.1
  have := h.2
  omega
def ins (t : List Int) (x : Int) : List Int := srt (t ++ [x])
theorem mem_ins {t : List Int} {x y : Int} : y ∈ ins t x ↔ y ∈ t ∨ y = x := by unfold ins; rw [mem_srt]; simp
theorem ins_sa {t : List Int} {x : Int} (h : SA t) (hx : x ∉ t) : SA (ins t x) := srt_sa (by
  rw [List.nodup_append]
  refine ⟨h.nodup, by simp, fun a ha b hb => ?_⟩
  have : b = x := by simpa using hb
  subst this
  exact fun e => hx (e ▸ ha))
/-- one pair more, apart from the others -/
theorem pair_min {ps : List (List Int)} {p : List Int} (ha : ∀ x ∈ p, ∀ q ∈ ps, x ∉ q) (t : List Int) : MinT (ps ++ [p]) t ↔ ∃ s, MinT ps s ∧ ∃ x ∈ p, t = ins s x := by
  constructor
  · intro ht
    obtain ⟨h1, h2, h3⟩ := id ht
    obtain ⟨x, hx, hxt⟩ := h2 p (by simp)
    have hit : HitT ps (t.filter fun y => decide (y ≠ x)) := fun q hq => by
      obtain ⟨y, h4, h5⟩ := h2 q (by simp [hq])
      exact ⟨y, h4, List.mem_filter.mpr ⟨h5, by simp; intro e; subst e; exact ha y hx q hq h4⟩⟩
    refine ⟨t.filter fun y => decide (y ≠ x), ⟨h1.filter _, hit, fun u hu hh y hy => ?_⟩, x, hx, sa_ext h1 (ins_sa (h1.filter _) (by simp)) fun y => ?_⟩
    · have := h3 (x :: u) (fun z hz => by
        (rcases List.mem_cons.mp hz with rfl | hz)
        · exact hxt
        · exact (List.mem_filter.mp (hu z hz)).1) (fun q hq => by
        (rcases List.mem_append.mp hq with hq | hq)
        · obtain ⟨z, h4, h5⟩ := hh q hq
          exact ⟨z, h4, List.mem_cons_of_mem _ h5⟩
        · have : q = p := by simpa using hq
          subst this
          exact ⟨x, hx, List.mem_cons_self⟩) y (List.mem_filter.mp hy).1
      rcases List.mem_cons.mp this with e | e
      · have := (List.mem_filter.mp hy).2
        simp [e] at this
      · exact e
    · rw [mem_ins, List.mem_filter]
      by_cases e : y = x
      · subst e; simp [hxt]
      · simp [e]
  · rintro ⟨s, ⟨h1, h2, h3⟩, x, hx, rfl⟩
    have hns : ∀ y ∈ p, y ∉ s := fun y hy hys => by
      obtain ⟨q, hq, h4⟩ := neededT ⟨h1, h2, h3⟩ hys
      exact ha y hy q hq h4
    refine ⟨ins_sa h1 (hns x hx), fun q hq => ?_, fun u hu hh y hy => ?_⟩
    · (rcases List.mem_append.mp hq with hq | hq)
      · obtain ⟨z, h4, h5⟩ := h2 q hq
        exact ⟨z, h4, mem_ins.mpr (.inl h5)⟩
      · have : q = p := by simpa using hq
        subst this
        exact ⟨x, hx, mem_ins.mpr (.inr rfl)⟩
    · have hxu : x ∈ u := by
        obtain ⟨z, h4, h5⟩ := hh p (by simp)
        rcases mem_ins.mp (hu z h5) with h6 | h6
        · exact absurd h6 (hns z h4)
        · rw [← h6]; exact h5
      rcases mem_ins.mp hy with hys | rfl
      · have := h3 (u.filter fun z => decide (z ≠ x)) (fun z hz => by
          obtain ⟨h4, h5⟩ := List.mem_filter.mp hz
          rcases mem_ins.mp (hu z h4) with h6 | h6
          · exact h6
          · simp [h6] at h5) (fun q hq => by
          obtain ⟨z, h4, h5⟩ := hh q (by simp [hq])
          exact ⟨z, h4, List.mem_filter.mpr ⟨h5, by simp; intro e; subst e; exact ha z hx q hq h4⟩⟩) y hys
        exact (List.mem_filter.mp this).1
      · exact hxu
def grow (fs : List (List Int)) (p : List Int) : List (List Int) := fs.flatMap fun t => p.map fun x => ins t x
theorem nodup_fm {α β : Type} (f : α → List β) : ∀ l : List α, (∀ a ∈ l, (f a).Nodup) → l.Pairwise (fun a b => ∀ t, t ∈ f a → t ∉ f b) → (l.flatMap f).Nodup
  | [], _, _ => by simp
  | a :: l, h1, h2 => by
    rw [List.pairwise_cons] at h2
    rw [List.flatMap_cons, List.nodup_append]
    refine ⟨h1 a List.mem_cons_self, nodup_fm f l (fun b hb => h1 b (List.mem_cons_of_mem _ hb)) h2.2, fun x hx y hy e => ?_⟩
    obtain ⟨b, hb, hy⟩ := List.mem_flatMap.mp hy
    subst e
    exact h2.1 b hb x hx hy
theorem grow_ok {ps fs : List (List Int)} {p : List Int} (hp : p.Nodup) (ha : ∀ x ∈ p, ∀ q ∈ ps, x ∉ q) (hn : fs.Nodup) (hf : ∀ t, t ∈ fs ↔ MinT ps t) : (grow fs p).Nodup ∧ ∀ t, t ∈ grow fs p ↔ MinT (ps ++ [p]) t := by
  have hns : ∀ s ∈ fs, ∀ y ∈ p, y ∉ s := fun s hs y hy hys => by
    obtain ⟨q, hq, h4⟩ := neededT ((hf s).mp hs) hys
    exact ha y hy q hq h4
  constructor
  · unfold grow
    refine nodup_fm _ fs (fun s hs => ?_) ?_
    · rw [List.nodup_iff_pairwise_ne, List.pairwise_map]
      refine List.Pairwise.imp_of_mem (fun {a b} ha' hb' h e => ?_) (List.nodup_iff_pairwise_ne.mp hp)
      have : a ∈ ins s b := by rw [← e]; exact mem_ins.mpr (.inr rfl)
      rcases mem_ins.mp this with h1 | h1
      · exact hns s hs a ha' h1
      · exact h h1
    · refine List.Pairwise.imp_of_mem (fun {a b} ha' hb' h => ?_) (List.nodup_iff_pairwise_ne.mp hn)
      intro t h1 h2
      obtain ⟨x, hx, e1⟩ := List.mem_map.mp h1
      obtain ⟨y, hy, e2⟩ := List.mem_map.mp h2
      have hxy : x = y := by
        have : x ∈ ins b y := by rw [e2, ← e1]; exact mem_ins.mpr (.inr rfl)
        rcases mem_ins.mp this with h3 | h3
        · exact absurd h3 (hns b hb' x hx)
        · exact h3
      subst hxy
      refine h (sa_ext ((hf a).mp ha').1 ((hf b).mp hb').1 fun z => ?_)
      constructor
      · intro hz
        have : z ∈ ins b x := by rw [e2, ← e1]; exact mem_ins.mpr (.inl hz)
        rcases mem_ins.mp this with h3 | h3
        · exact h3
        · subst h3; exact absurd hz (hns a ha' z hx)
      · intro hz
        have : z ∈ ins a x := by rw [e1, ← e2]; exact mem_ins.mpr (.inl hz)
        rcases mem_ins.mp this with h3 | h3
        · exact h3
        · subst h3; exact absurd hz (hns b hb' z hx)
  · intro t
    rw [pair_min ha]
    unfold grow
    rw [List.mem_flatMap]
    constructor
    · rintro ⟨s, hs, h⟩
      obtain ⟨x, hx, rfl⟩ := List.mem_map.mp h
      exact ⟨s, (hf s).mp hs, x, hx, rfl⟩
    · rintro ⟨s, hs, x, hx, rfl⟩
      exact ⟨s, (hf s).mpr hs, List.mem_map.mpr ⟨x, hx, rfl⟩⟩
theorem grow_len (p : List Int) : ∀ fs : List (List Int), (grow fs p).length = fs.length * p.length
  | [] => by simp [grow]
  | t :: fs => by
    have := grow_len p fs
    unfold grow at this ⊢
    rw [List.flatMap_cons, List.length_append, this, List.length_map, List.length_cons, Nat.succ_mul, Nat.add_comm]
end Sets
namespace K47
open PySem Dm Bits Sets
theorem stb2 {m m' r j : M} {ld : Nat} {a : Ob} {b : List Int} (h : Ch m ld m') : stb (m ++ a :: r) (m' ++ .lst (b.map .int) :: r ++ j) = true := by
  obtain ⟨hl, ds, rfl⟩ := h
  have h1 := stb_set (m := m ++ a :: r) ld (o := .lst (ds.map .int)) (ints_gr ds) (stb_app (m ++ a :: r) j)
  have h2 := stb_set m.length (o := .lst (b.map .int)) (ints_gr b) h1
  rw [List.append_assoc, List.set_append_left _ _ hl] at h2
  have : m.length = (m.set ld (.lst (ds.map .int))).length := by simp
  rw [this, set_app0, List.cons_append, List.set_cons_zero] at h2
  rw [List.append_assoc]
  exact h2
theorem pop_draw (k : Nat) {m r : M} {ld : Nat} {lf : List Int} (hd : Dr m ld) (hne : lf ≠ []) (hll : lf.length ≤ 1000) {env : Dm.Env} (h0 : env[0]? = some (some (.ref ld))) (h1 : env[1]? = some (some (.ref m.length))) : ∃ (i : Nat) (x : Int) (m' : M), lf[i]? = some x ∧ Ch m ld m' ∧
    eMeth .list mPop (eVar 1) (aCons (ePrim (lvl tab (k + 1) 15) (aCons (eVar 0) (aCons (ePrim pLen (aCons (eVar 1) aNil)) aNil))) aNil) env (m ++ .lst (lf.map .int) :: r) = some (.int x, m' ++ .lst ((lf.eraseIdx i).map .int) :: r) := by
  have hpos := List.length_pos_iff.mpr hne
  have hg : (m ++ Ob.lst (lf.map .int) :: r)[m.length]? = some (.lst (lf.map .int)) := by rw [get_app0]; rfl
  obtain ⟨v, mu, e1, a1, a2, c1⟩ := s_take k (hd.app (.lst (lf.map .int) :: r)) (n := (lf.length : Int)) (by omega)
  obtain ⟨m', rfl, c1'⟩ := Ch.app hd.lt c1
  have hg2 : (m' ++ Ob.lst (lf.map .int) :: r)[m.length]? = some (.lst (lf.map .int)) := by rw [← c1'.len, get_app0]; rfl
  have hi : v.toNat < lf.length := by omega
  refine ⟨v.toNat, lf[v.toNat], m', List.getElem?_eq_getElem hi, c1', meth_to (v_at h1) (rcv_lst hg) (a_one (prim_to (a_cons (v_at h0) (a_one (prim_to (a_one (v_at h1)) (by rw [len_lst hg, List.length_map])))) e1)) ?_⟩
  unfold mPop
  dsimp only
  rw [hg2]
  dsimp only
  unfold ixOf
  rw [if_pos (by omega), if_pos (by rw [List.length_map]; omega)]
  dsimp only
  rw [List.getElem?_map, List.getElem?_eq_getElem hi, Option.map_some]
  dsimp only
  have ee : (lf.map D.int).eraseIdx v.toNat = (lf.eraseIdx v.toNat).map D.int := by
    apply List.ext_getElem?
    intro j
    simp only [List.getElem?_map, List.getElem?_eraseIdx]
    split <;> rfl
  rw [if_pos (by show _ ≤ 16777216; omega), ← c1'.len, set_app0, List.set_cons_zero, ee]
theorem grow_loop {mu : M} {f q : Nat} {fs0 : List (List Int)} {p : List Int} (hf : mu[f]? = some (.lst (fs0.map dT))) (hq : mu[q]? = some (.lst (p.map .int))) (hpl : p.length ≤ 2) {e0 e1 e2 e3 e4 : Option D} : ∀ (fs gr : List (List Int)) (g : Nat) (r : M) (x7 : Option D), (mu ++ r)[g]? = some (.lst (gr.map dT)) → (∀ t ∈ fs, t.length ≤ 1000) → gr.length + 2 * fs.length < 100000 → ∃ (g' : Nat) (r' : M) (y7 : Option D), (mu.length ≤ g → mu.length ≤ g') ∧ (mu ++ r')[g']? = some (.lst ((gr ++ grow fs p).map dT)) ∧
    forGo [(f, .lst (fs0.map dT))] (tName 7) (sAsg (tName 6) (nrm (eOp oAdd (eVar 6) (eLc [8] (iSeq (eVar 5)) (tName 8) (eC (.bl true)) (nrm (ePrim pTuple (aCons (ePrim pSortedA (aCons (eOp oAdd (eVar 7) (eTup (aCons (eVar 8) aNil))) aNil)) aNil))))))) (fs.map dT)
      [e0, e1, e2, e3, e4, some (.ref q), some (.ref g), x7, none] (mu ++ r) = some (.nx [e0, e1, e2, e3, e4, some (.ref q), some (.ref g'), y7, none], mu ++ r')
  | [], gr, g, r, x7, hg, _, _ => ⟨g, r, x7, fun h => h, by simpa [grow] using hg, for_nil (gd_one (get_old hf _))⟩
  | t :: fs, gr, g, r, x7, hg, ht, hl => by
    rw [List.length_cons] at hl
    have hq' : (mu ++ r)[q]? = some (.lst (p.map .int)) := get_old hq r
    obtain ⟨g', r', y7, h0, h1, h2⟩ := grow_loop hf hq hpl (e0 := e0) (e1 := e1) (e2 := e2) (e3 := e3) (e4 := e4) fs (gr ++ p.map fun x => ins t x) (mu ++ r).length (r ++ [.lst ((gr ++ p.map fun x => ins t x).map dT)]) (some (dT t)) (by rw [← List.append_assoc, get_app0]; rfl) (fun s hs => ht s (List.mem_cons_of_mem _ hs)) (by rw [List.length_append, List.length_map]; omega)
    refine ⟨g', r', y7, fun _ => h0 (by rw [List.length_append]; omega), ?_, fcq (gd_one (get_old hf _)) rfl (e2 := [e0, e1, e2, e3, e4, some (.ref q), some (.ref (mu ++ r).length), some (dT t), none]) (m2 := mu ++ (r ++ [.lst ((gr ++ p.map fun x => ins t x).map dT)])) ?_ h2⟩
    · rw [h1]
      unfold grow
      rw [List.flatMap_cons, List.append_assoc]
    · rw [← List.append_assoc]
      refine asg_nm (nrm_new (m := mu ++ r) (i := 1) (r := [.lst ((p.map fun x => ins t x).map dT), .lst ((gr ++ p.map fun x => ins t x).map dT)]) (o := .lst ((gr ++ p.map fun x => ins t x).map dT)) (op_to (v_at (d := .ref g) rfl) (lcM (m1 := mu ++ r) p D.int (fun x => dT (ins t x)) (seq_ref (v_at (d := .ref q) rfl) hq') (gd_one hq') (fun x hx => ⟨_, rfl, ?_⟩) (by show _ ≤ 16777216; omega)) ?_) rfl ?_)
      · have h20 := ht t List.mem_cons_self
        refine nrm_gr (r := [.lst ((ins t x).map .int)]) (prim_to (a_one (prim_to (a_one (d := .tup ((t ++ [x]).map .int)) (m1 := mu ++ r) (op_to (v_at (d := dT t) rfl) (tup_at (a_one (v_at (d := .int x) rfl)) (show 1 ≤ 16777216 by decide)) ?_)) (sorted_tup (t ++ [x]) D.int (fun a b => decide (a ≤ b)) (fun a _ b _ => (le_int a b).symm) (fun _ _ => rfl) (srt_ints _)))) ?_) (gr_dT _)
        · show (if (t.map D.int).length + 1 ≤ 16777216 then some (D.tup (t.map D.int ++ [D.int x]), mu ++ r) else none) = _
          rw [if_pos (by rw [List.length_map]; omega), List.map_append]
          rfl
        · unfold pTuple
          dsimp only
          rw [get_app0]
          rfl
      · unfold oAdd
        dsimp only
        rw [get_old hg, get_app0]
        dsimp only [List.getElem?_cons_zero]
        rw [if_pos (by rw [List.length_map, List.length_map]; show _ ≤ 16777216; omega)]
        simp [Function.comp_def]
        omega
      · show D.grL _ = true
        exact gr_dW (gr ++ p.map fun x => ins t x)
end K47
end

section
set_option linter.all false
namespace K47
open PySem Dm Bits Sets
/-- what the pairs drawn so far are like -/
structure PInv (lf : List Int) (ps fs : List (List Int)) : Prop where
  lsa : SA lf
  len : lf.length = 16 - 2 * ps.length
  u : ∀ x ∈ lf, 1 ≤ x ∧ x ≤ 16
  sa : ∀ p ∈ ps, SA p ∧ p.length = 2 ∧ ∀ x ∈ p, 1 ≤ x ∧ x ≤ 16 ∧ x ∉ lf
  nd : ps.Nodup
  fnd : fs.Nodup
  mem : ∀ t, t ∈ fs ↔ MinT ps t
  fl : fs.length = 2 ^ ps.length
  flen : ∀ t ∈ fs, t.length = ps.length
theorem ins_len (t : List Int) (x : Int) : (ins t x).length = t.length + 1 := by
  unfold ins srt
  rw [List.length_mergeSort, List.length_append, List.length_singleton]
theorem srt_len (L : List Int) : (srt L).length = L.length := by unfold srt; rw [List.length_mergeSort]
theorem pinv_step {lf : List Int} {ps fs : List (List Int)} (h : PInv lf ps fs) (h7 : ps.length ≤ 7) {i j : Nat} {x y : Int} (hi : lf[i]? = some x) (hj : (lf.eraseIdx i)[j]? = some y) :
    PInv ((lf.eraseIdx i).eraseIdx j) (ps ++ [srt [x, y]]) (grow fs (srt [x, y])) := by
  have hi' := (List.getElem?_eq_some_iff.mp hi).1
  have hj' := (List.getElem?_eq_some_iff.mp hj).1
  have hx : x ∈ lf := List.mem_of_getElem? hi
  have hy1 : y ∈ lf.eraseIdx i := List.mem_of_getElem? hj
  have hy : y ∈ lf := List.mem_of_mem_eraseIdx hy1
  have nd := h.lsa.nodup
  have hxn : x ∉ lf.eraseIdx i := by
    intro hm
    obtain ⟨q, hq1, hq2⟩ := List.mem_eraseIdx_iff_getElem?.mp hm
    have : q = i := (List.getElem?_inj (List.getElem?_eq_some_iff.mp hq2).1 nd).mp (hq2.trans hi.symm)
    exact hq1 this
  have hxy : x ≠ y := fun e => hxn (e ▸ hy1)
  have nd1 : (lf.eraseIdx i).Nodup := nd.sublist (List.eraseIdx_sublist _ _)
  have hyn : y ∉ (lf.eraseIdx i).eraseIdx j := by
    intro hm
    obtain ⟨q, hq1, hq2⟩ := List.mem_eraseIdx_iff_getElem?.mp hm
    have : q = j := (List.getElem?_inj (List.getElem?_eq_some_iff.mp hq2).1 nd1).mp (hq2.trans hj.symm)
    exact hq1 this
  have sub2 : ∀ z ∈ (lf.eraseIdx i).eraseIdx j, z ∈ lf := fun z hz => List.mem_of_mem_eraseIdx (List.mem_of_mem_eraseIdx hz)
  have hp : SA (srt [x, y]) := srt_sa (by simp [hxy])
  have hpm : ∀ z, z ∈ srt [x, y] ↔ z = x ∨ z = y := fun z => by rw [mem_srt]; simp
  have apart : ∀ z ∈ srt [x, y], ∀ q ∈ ps, z ∉ q := fun z hz q hq hzq => by
    have := ((h.sa q hq).2.2 z hzq).2.2
    rcases (hpm z).mp hz with e | e
    · subst e; exact this hx
    · subst e; exact this hy
  obtain ⟨g1, g2⟩ := grow_ok hp.nodup apart h.fnd h.mem
  have hl16 := h.len
  refine ⟨(h.lsa.sublist (List.eraseIdx_sublist _ _)).sublist (List.eraseIdx_sublist _ _), ?_, fun z hz => h.u z (sub2 z hz), fun p hp' => ?_, ?_, g1, g2, ?_, fun t ht => ?_⟩
  · rw [List.length_eraseIdx, if_pos hj', List.length_eraseIdx, if_pos hi', List.length_append, List.length_singleton]
    omega
  · (rcases List.mem_append.mp hp' with hp' | hp')
    · obtain ⟨q1, q2, q3⟩ := h.sa p hp'
      exact ⟨q1, q2, fun z hz => ⟨(q3 z hz).1, (q3 z hz).2.1, fun hm => (q3 z hz).2.2 (sub2 z hm)⟩⟩
    · have e : p = srt [x, y] := by simpa using hp'
      subst e
      refine ⟨hp, by rw [srt_len]; rfl, fun z hz => ?_⟩
      rcases (hpm z).mp hz with e | e
      · subst e; exact ⟨(h.u z hx).1, (h.u z hx).2, fun hm => hxn (List.mem_of_mem_eraseIdx hm)⟩
      · subst e; exact ⟨(h.u z hy).1, (h.u z hy).2, hyn⟩
  · rw [List.nodup_append]
    refine ⟨h.nd, by simp, fun a ha b hb e => ?_⟩
    have e2 : b = srt [x, y] := by simpa using hb
    have hx2 : x ∈ a := by rw [e, e2]; exact (hpm x).mpr (.inl rfl)
    exact apart x ((hpm x).mpr (.inl rfl)) a ha hx2
  · rw [grow_len, h.fl, srt_len, List.length_append, List.length_singleton, Nat.pow_succ]; rfl
  · unfold grow at ht
    obtain ⟨s, hs, ht⟩ := List.mem_flatMap.mp ht
    obtain ⟨z, _, rfl⟩ := List.mem_map.mp ht
    rw [ins_len, h.flen s hs, List.length_append, List.length_singleton]
theorem pairs_loop (k : Nat) {ld : Nat} : ∀ (ks : List D) {m : M} (lf : List Int) (ps fs : List (List Int)) (junk : M) (f : Nat) (x4 x5 x6 x7 : Option D), Dr m ld → PInv lf ps fs → ps.length + ks.length ≤ 8 → (m ++ .lst (lf.map .int) :: .lst (ps.map dT) :: junk)[m.length + 2 + f]? = some (.lst (fs.map dT)) →
    ∃ (m' junk' : M) (lf' : List Int) (ps' fs' : List (List Int)) (f' : Nat) (y4 y5 y6 y7 : Option D), Ch m ld m' ∧ PInv lf' ps' fs' ∧ ps'.length = ps.length + ks.length ∧ (m' ++ .lst (lf'.map .int) :: .lst (ps'.map dT) :: junk')[m.length + 2 + f']? = some (.lst (fs'.map dT)) ∧
    forGo [] (tName 4) (sSeq (sAsg (tName 5) (nrm (ePrim pSortedA (aCons (eLst (aCons (eMeth .list mPop (eVar 1) (aCons (ePrim (lvl tab (k + 1) 15) (aCons (eVar 0) (aCons (ePrim pLen (aCons (eVar 1) aNil)) aNil))) aNil)) (aCons (eMeth .list mPop (eVar 1) (aCons (ePrim (lvl tab (k + 1) 15) (aCons (eVar 0) (aCons (ePrim pLen (aCons (eVar 1) aNil)) aNil))) aNil)) aNil))) aNil))))
    (sSeq (sExpr (eMeth .list mAppend (eVar 2) (aCons (ePrim pTuple (aCons (eVar 5) aNil)) aNil)))
    (sSeq (sAsg (tName 6) (nrm (eLst aNil)))
    (sSeq (sFor (iSeq (eVar 3)) (tName 7) (sAsg (tName 6) (nrm (eOp oAdd (eVar 6) (eLc [8] (iSeq (eVar 5)) (tName 8) (eC (.bl true)) (nrm (ePrim pTuple (aCons (ePrim pSortedA (aCons (eOp oAdd (eVar 7) (eTup (aCons (eVar 8) aNil))) aNil)) aNil))))))))
    (sAsg (tName 3) (nrm (eVar 6))))))) ks
      [some (.ref ld), some (.ref m.length), some (.ref (m.length + 1)), some (.ref (m.length + 2 + f)), x4, x5, x6, x7, none] (m ++ .lst (lf.map .int) :: .lst (ps.map dT) :: junk)
        = some (.nx [some (.ref ld), some (.ref m.length), some (.ref (m.length + 1)), some (.ref (m.length + 2 + f')), y4, y5, y6, y7, none], m' ++ .lst (lf'.map .int) :: .lst (ps'.map dT) :: junk')
  | [], m, lf, ps, fs, junk, f, x4, x5, x6, x7, hd, hI, _, hf => ⟨m, junk, lf, ps, fs, f, x4, x5, x6, x7, hd.ch, hI, rfl, hf, for_nil rfl⟩
  | d :: ks, m, lf, ps, fs, junk, f, x4, x5, x6, x7, hd, hI, hl, hf => by
    rw [List.length_cons] at hl
    have hlen := hI.len
    -- the pair
    obtain ⟨i, x, m1, hi, c1, e1⟩ := pop_draw k (lf := lf) (r := .lst (ps.map dT) :: junk) hd (by intro e; subst e; simp at hlen; omega) (by omega) (env := [some (.ref ld), some (.ref m.length), some (.ref (m.length + 1)), some (.ref (m.length + 2 + f)), some d, x5, x6, x7, none]) rfl rfl
    have hi' := (List.getElem?_eq_some_iff.mp hi).1
    have hl1 : (lf.eraseIdx i).length = lf.length - 1 := by rw [List.length_eraseIdx, if_pos hi']
    obtain ⟨j, y, m2, hj, c2, e2⟩ := pop_draw k (r := .lst (ps.map dT) :: junk) c1.dr (lf := lf.eraseIdx i) (by intro e; rw [e] at hl1; simp at hl1; omega) (by omega) (env := [some (.ref ld), some (.ref m.length), some (.ref (m.length + 1)), some (.ref (m.length + 2 + f)), some d, x5, x6, x7, none]) rfl (by rw [c1.len]; rfl)
    have cc := c1.trans c2
    have hst := pinv_step hI (by omega) hi hj
    generalize hlf2 : (lf.eraseIdx i).eraseIdx j = lf2 at e2 hst
    generalize hpp : srt [x, y] = p at hst
    let mu : M := m2 ++ .lst (lf2.map .int) :: .lst (ps.map dT) :: junk
    have hmul : mu.length = (m ++ Ob.lst (lf.map .int) :: .lst (ps.map dT) :: junk).length := by
      show (m2 ++ _).length = _
      rw [List.length_append, List.length_append, cc.len]; rfl
    have hpair : (sAsg (tName 5) (nrm (ePrim pSortedA (aCons (eLst (aCons (eMeth .list mPop (eVar 1) (aCons (ePrim (lvl tab (k + 1) 15) (aCons (eVar 0) (aCons (ePrim pLen (aCons (eVar 1) aNil)) aNil))) aNil)) (aCons (eMeth .list mPop (eVar 1) (aCons (ePrim (lvl tab (k + 1) 15) (aCons (eVar 0) (aCons (ePrim pLen (aCons (eVar 1) aNil)) aNil))) aNil)) aNil))) aNil)))) [some (.ref ld), some (.ref m.length), some (.ref (m.length + 1)), some (.ref (m.length + 2 + f)), some d, x5, x6, x7, none] (m ++ .lst (lf.map .int) :: .lst (ps.map dT) :: junk) = some (.nx [some (.ref ld), some (.ref m.length), some (.ref (m.length + 1)), some (.ref (m.length + 2 + f)), some d, some (.ref mu.length), x6, x7, none], mu ++ [.lst (p.map .int)]) := by
      have hs := sorted_ref (m := mu ++ [Ob.lst ([x, y].map .int)]) (l := mu.length) [x, y] D.int (fun a b => decide (a ≤ b)) (fun a _ b _ => (le_int a b).symm) (fun _ _ => rfl) (.inl (srt_ints _)) (by rw [get_app0]; rfl)
      have he : (ePrim pSortedA (aCons (eLst (aCons (eMeth .list mPop (eVar 1) (aCons (ePrim (lvl tab (k + 1) 15) (aCons (eVar 0) (aCons (ePrim pLen (aCons (eVar 1) aNil)) aNil))) aNil)) (aCons (eMeth .list mPop (eVar 1) (aCons (ePrim (lvl tab (k + 1) 15) (aCons (eVar 0) (aCons (ePrim pLen (aCons (eVar 1) aNil)) aNil))) aNil)) aNil))) aNil)) [some (.ref ld), some (.ref m.length), some (.ref (m.length + 1)), some (.ref (m.length + 2 + f)), some d, x5, x6, x7, none] (m ++ .lst (lf.map .int) :: .lst (ps.map dT) :: junk) = some (.ref (mu ++ [Ob.lst ([x, y].map .int)]).length, mu ++ [Ob.lst ([x, y].map .int)] ++ [.lst (p.map .int)]) := by
        refine prim_to (a_one (lst_at (m1 := mu) (ds := [.int x, .int y]) (a_cons e1 (a_one e2)) (show 2 ≤ 16777216 by decide))) ?_
        rw [← hpp]
        exact hs
      refine asg_nm ?_
      have hst2 := stb2 (a := .lst (lf.map .int)) (b := lf2) (r := .lst (ps.map dT) :: junk) (j := [Ob.lst ([x, y].map .int)] ++ [.lst (p.map .int)]) cc
      unfold nrm
      rw [he, Option.map_some, norm_new (o := .lst (p.map .int)) (by rw [List.append_assoc]; exact hst2) (by rw [← hmul]; simp) (by rw [get_app0]; rfl) (ints_gr _), ← hmul, List.append_assoc, take_app]
    -- pairs.append(tuple(pair))
    have hq : (mu ++ [Ob.lst (p.map .int)])[mu.length]? = some (.lst (p.map .int)) := by rw [get_app0]; rfl
    have hps : (mu ++ [Ob.lst (p.map .int)])[m.length + 1]? = some (.lst (ps.map dT)) := by
      show (m2 ++ .lst (lf2.map .int) :: .lst (ps.map dT) :: junk ++ [Ob.lst (p.map .int)])[m.length + 1]? = _
      rw [← cc.len, List.append_assoc, get_app]; rfl
    let nu : M := m2 ++ .lst (lf2.map .int) :: .lst ((ps ++ [p]).map dT) :: (junk ++ [.lst (p.map .int)])
    have happ : (sExpr (eMeth .list mAppend (eVar 2) (aCons (ePrim pTuple (aCons (eVar 5) aNil)) aNil))) [some (.ref ld), some (.ref m.length), some (.ref (m.length + 1)), some (.ref (m.length + 2 + f)), some d, some (.ref mu.length), x6, x7, none] (mu ++ [.lst (p.map .int)]) = some (.nx [some (.ref ld), some (.ref m.length), some (.ref (m.length + 1)), some (.ref (m.length + 2 + f)), some d, some (.ref mu.length), x6, x7, none], nu) := by
      refine (expr_nx (meth_to (v_at (d := .ref (m.length + 1)) rfl) (rcv_lst hps) (a_one (d := dT p) (m1 := mu ++ [.lst (p.map .int)]) (prim_to (a_one (v_at (d := .ref mu.length) rfl)) ?_)) (append_at _ hps (by rw [List.length_map]; show _ < 16777216; omega)))).trans ?_
      · unfold pTuple
        dsimp only
        rw [hq]; rfl
      · show some (Out.nx _, (m2 ++ .lst (lf2.map .int) :: .lst (ps.map dT) :: junk ++ [Ob.lst (p.map .int)]).set (m.length + 1) _) = _
        rw [← cc.len, List.append_assoc, set_app]
        simp [nu]
    have hnul : nu.length = mu.length + 1 := by simp [nu, mu]; omega
    have hqn : nu[mu.length]? = some (.lst (p.map .int)) := by
      have e1 : nu = (m2 ++ .lst (lf2.map .int) :: .lst ((ps ++ [p]).map dT) :: junk) ++ [.lst (p.map .int)] := by simp [nu]
      have e2 : mu.length = (m2 ++ Ob.lst (lf2.map .int) :: .lst ((ps ++ [p]).map dT) :: junk).length := by simp [mu]
      rw [e1, e2, get_app0]; rfl
    have hfn : nu[m.length + 2 + f]? = some (.lst (fs.map dT)) := by
      have h1 : (Ob.lst (lf.map .int) :: .lst (ps.map dT) :: junk)[2 + f]? = some (.lst (fs.map dT)) := by
        rw [Nat.add_assoc, get_app] at hf; exact hf
      have h2 : junk[f]? = some (.lst (fs.map dT)) := by
        rw [Nat.add_comm 2 f] at h1; exact h1
      show (m2 ++ .lst (lf2.map .int) :: .lst ((ps ++ [p]).map dT) :: (junk ++ [.lst (p.map .int)]))[m.length + 2 + f]? = _
      rw [← cc.len, Nat.add_assoc, get_app, Nat.add_comm 2 f]
      show (junk ++ [Ob.lst (p.map .int)])[f]? = _
      exact get_old h2 _
    have hpl : p.length ≤ 2 := by rw [← hpp, srt_len]; exact Nat.le_refl 2
    have hfl := hI.fl
    have hfl2 : fs.length ≤ 128 := by rw [hfl]; exact Nat.le_trans (Nat.pow_le_pow_right (by decide) (show ps.length ≤ 7 by omega)) (by decide)
    obtain ⟨g', r', y7, hg0, hg1, hg2⟩ := grow_loop (mu := nu) hfn hqn hpl (e0 := some (.ref ld)) (e1 := some (.ref m.length)) (e2 := some (.ref (m.length + 1))) (e3 := some (.ref (m.length + 2 + f))) (e4 := some d) fs [] nu.length [.lst []] x7 (by rw [get_app0]; rfl) (fun t ht => by rw [hI.flen t ht]; omega) (by simp; omega)
    rw [List.nil_append] at hg1
    have hg'lt := (List.getElem?_eq_some_iff.mp hg1).1
    -- where the grown list stands
    have hnur : ∀ r : M, nu ++ r = m2 ++ .lst (lf2.map .int) :: .lst ((ps ++ [p]).map dT) :: (junk ++ [.lst (p.map .int)] ++ r) := fun r => by simp [nu]
    have hg'2 : m.length + 2 ≤ g' := by
      have h3 := hg0 (Nat.le_refl _)
      have h4 : m.length + 2 ≤ nu.length := by rw [← cc.len]; simp [nu]
      omega
    obtain ⟨f2, rfl⟩ : ∃ f2, g' = m.length + 2 + f2 := ⟨g' - (m.length + 2), by omega⟩
    rw [hnur r'] at hg1 hg2 hg'lt
    obtain ⟨m', junk', lf', ps', fs', f', y4, y5, y6, y8, q1, q2, q3, q4, q5⟩ := pairs_loop k ks (m := m2) lf2 (ps ++ [p]) (grow fs p) (junk ++ [.lst (p.map .int)] ++ r') f2 (some d) (some (.ref mu.length)) (some (.ref (m.length + 2 + f2))) y7 cc.dr hst (by rw [List.length_append, List.length_singleton]; omega) (by rw [cc.len]; exact hg1)
    rw [cc.len] at q4 q5
    refine ⟨m', junk', lf', ps', fs', f', y4, y5, y6, y8, cc.trans q1, q2, by rw [q3, List.length_append, List.length_singleton, List.length_cons]; omega, q4, fcq rfl rfl (m2 := m2 ++ .lst (lf2.map .int) :: .lst ((ps ++ [p]).map dT) :: (junk ++ [.lst (p.map .int)] ++ r')) (e2 := [some (.ref ld), some (.ref m.length), some (.ref (m.length + 1)), some (.ref (m.length + 2 + f2)), some d, some (.ref mu.length), some (.ref (m.length + 2 + f2)), y7, none]) (sq hpair (sq happ (sq (asg_nm (nrm_new0 (m := nu) (o := .lst []) (r := []) (lst_at a_nil (Nat.zero_le _)) rfl)) (sq (frq (seq_ref (v_at (d := .ref (m.length + 2 + f)) rfl) (get_old hfn _)) hg2) (asg_nm (nrm_old (r := []) (by rw [List.append_nil]; exact v_at rfl) hg'lt)))))) q5⟩
theorem pinv0 : PInv ((List.range 16).map fun i : Nat => (i : Int) + 1) [] [[]] where
  lsa := by decide
  len := by simp
  u := by decide
  sa := fun p hp => by simp at hp
  nd := .nil
  fnd := by simp
  mem := fun t => by
    constructor
    · intro h
      have : t = [] := by simpa using h
      subst this
      exact ⟨.nil, fun s hs => by simp at hs, fun u _ _ x hx => by simp at hx⟩
    · intro h
      have := h.2.2 [] (fun x hx => by simp at hx) (fun s hs => by simp at hs)
      cases t with
      | nil => simp
      | cons a r => have := this a List.mem_cons_self; simp at this
  fl := rfl
  flen := fun t ht => by
    have : t = [] := by simpa using ht
    subst this; rfl
theorem s_pairs (k : Nat) {m : M} {ld : Nat} (hd : Dr m ld) : ∃ (lf : List Int) (ps fs : List (List Int)) (m' : M), PInv lf ps fs ∧ ps.length ≤ 8 ∧ Ch m ld m' ∧ lvl tab (k + 2) 29 [.ref ld] m = some (.ref m.length, m' ++ [.lst [dW (canon ps), dW (canon fs)]]) := by
  let U : List Int := (List.range 16).map fun i : Nat => (i : Int) + 1
  let mu : M := m ++ [Ob.lst (U.map .int), .lst (([] : List (List Int)).map dT), .lst ([[]].map dT)]
  obtain ⟨v, mu1, e1, a1, a2, c1⟩ := s_take k (m := mu) (hd.app _) (n := 7) (by decide)
  obtain ⟨m1, rfl, c1'⟩ := Ch.app hd.lt c1
  have hc := c1'.len
  obtain ⟨m', junk', lf', ps', fs', f', y4, y5, y6, y7, q1, q2, q3, q4, q5⟩ := pairs_loop k (rng 0 (2 + v)) (m := m1) U [] [[]] [.lst ([[]].map dT)] 0 none none none none c1'.dr pinv0 (by unfold rng; simp; omega) (by rw [Nat.add_zero, get_app]; rfl)
  rw [hc] at q4 q5
  have hlen2 : 2 ≤ ps'.length := by rw [q3]; unfold rng; simp; omega
  have hlen8 : ps'.length ≤ 8 := by rw [q3]; unfold rng; simp; omega
  have cf := c1'.trans q1
  have hps : (m' ++ .lst (lf'.map .int) :: .lst (ps'.map dT) :: junk')[m.length + 1]? = some (.lst (ps'.map dT)) := by rw [← cf.len, get_app]; rfl
  have hs1 := sorted_ref ps' dT lexle (fun _ _ _ _ => rfl) (fun a _ => gr_dT a) (.inl (sortable_dT _ fun t ht e => by have := (q2.sa t ht).2.1; rw [e] at this; simp at this)) hps
  have hs2 := sorted_ref fs' dT lexle (fun _ _ _ _ => rfl) (fun a _ => gr_dT a) (.inl (sortable_dT _ fun t ht e => by have := q2.flen t ht; rw [e] at this; simp at this; omega)) (get_old q4 [Ob.lst ((ps'.mergeSort lexle).map dT)])
  refine ⟨lf', ps', fs', m', q2, hlen8, cf, ?_⟩
  rw [show lvl tab (k + 2) 29 = m__law_pairs (lvl tab (k + 1)) from rfl, m__law_pairs]
  let nu : M := m' ++ .lst (lf'.map .int) :: .lst (ps'.map dT) :: junk' ++ [Ob.lst ((ps'.mergeSort lexle).map dT)] ++ [Ob.lst ((fs'.mergeSort lexle).map dT)]
  obtain ⟨r, hr⟩ : ∃ r, nu = m' ++ r := ⟨Ob.lst (lf'.map .int) :: .lst (ps'.map dT) :: junk' ++ [Ob.lst ((ps'.mergeSort lexle).map dT)] ++ [Ob.lst ((fs'.mergeSort lexle).map dT)], by simp [nu]⟩
  refine fn_chn (m' := m') (i := r.length) (r := r ++ [.lst [dW (canon ps'), dW (canon fs')]]) (o := .lst [dW (canon ps'), dW (canon fs')]) ?_ cf (by rw [List.getElem?_append_right (Nat.le_refl _), Nat.sub_self]; rfl) (by show D.grL _ = true; rw [D.grL, D.grL, gr_dW, gr_dW]; rfl)
  have h1 : (sAsg (tName 1) (nrm (eLc [4] (iRng1 (eC (.int 16))) (tName 4) (eC (.bl true)) (nrm (eOp oAdd (eVar 4) (eC (.int 1))))))) [some (.ref ld), none, none, none, none, none, none, none, none] m = some (.nx [some (.ref ld), some (.ref m.length), none, none, none, none, none, none, none], m ++ [.lst (U.map .int)]) := by
    refine asg_nm (nrm_new0 (r := []) ((lcM (m1 := m) (gd := []) (List.range 16) nI (fun i => D.int ((i : Int) + 1)) ?_ rfl (fun i _ => ⟨_, rfl, nrm_gr0 (op_to (v_at (d := nI i) rfl) c_at rfl) rfl⟩) (by decide)).trans ?_) (ints_gr U))
    · refine (rng1_at c_at (by decide) (by decide)).trans ?_
      rw [show (16 : Int) = ((16 : Nat) : Int) from rfl, rng_nat]
    · simp [U, Function.comp_def]
  refine sq h1 ?_
  refine sq (asg_nm (nrm_new0 (m := m ++ [Ob.lst (U.map .int)]) (o := .lst []) (r := []) (lst_at a_nil (Nat.zero_le _)) rfl)) ?_
  refine sq (asg_nm (nrm_new0 (m := m ++ [Ob.lst (U.map .int)] ++ [.lst []]) (o := .lst [dT []]) (r := []) (lst_at (a_one (tup_at a_nil (Nat.zero_le _))) (show 1 ≤ 16777216 by decide)) rfl)) ?_
  have em : m ++ [Ob.lst (U.map .int)] ++ [.lst []] ++ [.lst [dT []]] = mu := by simp [mu]
  have el1 : (m ++ [Ob.lst (U.map .int)]).length = m.length + 1 := by simp
  have el2 : (m ++ [Ob.lst (U.map .int)] ++ [Ob.lst []]).length = m.length + 2 + 0 := by simp
  rw [em, el1, el2]
  refine sq (frq (ds := rng 0 (2 + v)) (gd := []) (m1 := m1 ++ [Ob.lst (U.map .int), .lst (([] : List (List Int)).map dT), .lst ([[]].map dT)]) (rng1_at (j := 2 + v) (op_to c_at (prim_to (a_cons (v_at (d := .ref ld) rfl) (a_one c_at)) e1) rfl) (by show -4611686018427387904 ≤ _; omega) (by show _ < 4611686018427387904; omega)) q5) ?_
  refine ret_rt ((lst_at (m1 := nu) (ds := [dW (canon ps'), dW (canon fs')]) (a_cons (d := dW (canon ps')) (m1 := m' ++ .lst (lf'.map .int) :: .lst (ps'.map dT) :: junk' ++ [Ob.lst ((ps'.mergeSort lexle).map dT)]) (prim_to (a_one (prim_to (a_one (v_at (d := .ref (m.length + 1)) rfl)) hs1)) ?_) (a_one (prim_to (a_one (prim_to (a_one (v_at (d := .ref (m.length + 2 + f')) rfl)) hs2)) ?_))) (show 2 ≤ 16777216 by decide)).trans ?_)
  · unfold pTuple; dsimp only; rw [get_app0]; rfl
  · unfold pTuple; dsimp only; rw [get_app0]; rfl
  · rw [hr, List.length_append, cf.len, List.append_assoc]
end K47
end

section
set_option linter.all false
namespace K47
open PySem Dm Bits Sets
theorem flat_len (a : Nat) : ∀ w : List (List Int), (∀ t ∈ w, t.length ≤ a) → w.flatten.length ≤ w.length * a
  | [], _ => by simp
  | t :: w, h => by
    have := flat_len a w fun s hs => h s (List.mem_cons_of_mem _ hs)
    have := h t List.mem_cons_self
    rw [List.flatten_cons, List.length_append, List.length_cons, Nat.succ_mul]
    omega
theorem good_of {w : List (List Int)} {U : List Int} (hU : U.length ≤ 16) (h : ∀ t ∈ w, SA t ∧ ∀ x ∈ t, x ∈ U) (hw : w.length ≤ 1000) : Good w := by
  have hl : ∀ t ∈ w, t.length ≤ 16 := fun t ht => Nat.le_trans (List.Nodup.length_le_of_subset (h t ht).1.nodup fun x hx => (h t ht).2 x hx) hU
  obtain ⟨p1, p2, _⟩ := partsOf_ok w
  refine ⟨fun t ht => (h t ht).1, fun t ht => by have := hl t ht; omega, by omega, ?_, ?_⟩
  · have := flat_len 16 w hl; omega
  · have := List.Nodup.length_le_of_subset p1.nodup (l₂ := U) fun x hx => by
      obtain ⟨s, hs, h1⟩ := (p2 x).mp hx
      exact (h s hs).2 x h1
    omega
theorem cuts_eq (k : Nat) (m : M) {w L : List (List Int)} (h : Good w) (hn : L.Nodup) (hm : ∀ t, t ∈ L ↔ MinT w t) : lvl tab (k + 4) 12 [dW w] m = some (dW (canon L), m) := by
  obtain ⟨L', h1, h2, h3⟩ := s_cuts k m h
  rw [h3, canon_eq h1 hn fun t => (h2 t).trans (hm t).symm]
/-- a why and its cuts -/
structure Sc (w c : List (List Int)) : Prop where
  fwd : ∀ m : M, lvl tab 29 12 [dW w] m = some (dW c, m)
  least : ∀ m : M, lvl tab 29 13 [dW w] m = some (optT (leastGo c none), m)
  cl : c.length ≤ 1000000
  ct : ∀ t ∈ c, t.length ≤ 1000000
  wl : w.length ≤ 1000000
  wt : ∀ t ∈ w, t.length ≤ 1000000
theorem leastGo_mem : ∀ (w : List (List Int)) (b : Option (List Int)) (t : List Int), leastGo w b = some t → t ∈ w ∨ b = some t
  | [], b, t, h => .inr h
  | c :: r, none, t, h => by
    rcases leastGo_mem r (some c) t h with h1 | h1
    · exact .inl (List.mem_cons_of_mem _ h1)
    · cases h1; exact .inl List.mem_cons_self
  | c :: r, some s, t, h => by
    rcases leastGo_mem r (if c.length < s.length then some c else some s) t h with h1 | h1
    · exact .inl (List.mem_cons_of_mem _ h1)
    · split at h1
      · cases h1; exact .inl List.mem_cons_self
      · exact .inr h1
theorem not_to {a : ES} {env : Dm.Env} {m m1 : M} {b : Bool} (h : a env m = some (.bl b, m1)) : eNot a env m = some (.bl (!b), m1) := by unfold eNot; rw [h]
theorem or_f {a b : ES} {env : Dm.Env} {m m1 : M} (h : a env m = some (.bl false, m1)) : eOr a b env m = b env m1 := by unfold eOr; rw [h]
theorem sc_of {w L : List (List Int)} {U : List Int} (hU : U.length ≤ 16) (h : ∀ t ∈ w, SA t ∧ ∀ x ∈ t, x ∈ U) (hw : w.length ≤ 1000) (hn : L.Nodup) (hm : ∀ t, t ∈ L ↔ MinT w t) (hL : L.length ≤ 1000) : Sc w (canon L) := by
  have g := good_of hU h hw
  have hc : ∀ k (m : M), lvl tab (k + 4) 12 [dW w] m = some (dW (canon L), m) := fun k m => cuts_eq k m g hn hm
  have hl : ∀ t ∈ w, t.length ≤ 16 := fun t ht => Nat.le_trans (List.Nodup.length_le_of_subset (h t ht).1.nodup fun x hx => (h t ht).2 x hx) hU
  refine ⟨fun m => hc 25 m, fun m => s_least 24 m (hc 24 m), by rw [(canon_perm L).length_eq]; omega, fun t ht => ?_, by omega, fun t ht => by have := hl t ht; omega⟩
  have hmin := (hm t).mp (mem_canon.mp ht)
  have := List.Nodup.length_le_of_subset hmin.1.nodup (l₂ := U) fun x hx => by
    obtain ⟨s, hs, h1⟩ := neededT hmin hx
    exact (h s hs).2 x h1
  omega
/-- the test of a scene -/
theorem test1 {mu : M} {p : Nat} {w c : List (List Int)} (h : Sc w c) (hp : mu[p]? = some (.lst [dW w, dW c])) {env : Dm.Env} (h7 : env[7]? = some (some (.ref p))) :
    nrm (eOr (eNot (ePrim (lvl tab 29 16) (aCons (ePrim (lvl tab 29 12) (aCons (eOp oIx (eVar 7) (eC (.int 0))) aNil)) (aCons (eOp oIx (eVar 7) (eC (.int 1))) aNil)))) (eNot (ePrim (lvl tab 29 16) (aCons (ePrim (lvl tab 29 13) (aCons (eOp oIx (eVar 7) (eC (.int 0))) aNil)) (aCons (ePrim (lvl tab 29 28) (aCons (eOp oIx (eVar 7) (eC (.int 1))) aNil)) aNil))))) env mu = some (.bl false, mu) := by
  have i0 : eOp oIx (eVar 7) (eC (.int 0)) env mu = some (dW w, mu) := op_to (v_at h7) c_at (by unfold oIx; dsimp only; rw [hp]; rfl)
  have i1 : eOp oIx (eVar 7) (eC (.int 1)) env mu = some (dW c, mu) := op_to (v_at h7) c_at (by unfold oIx; dsimp only; rw [hp]; rfl)
  have s1 : ePrim (lvl tab 29 16) (aCons (ePrim (lvl tab 29 12) (aCons (eOp oIx (eVar 7) (eC (.int 0))) aNil)) (aCons (eOp oIx (eVar 7) (eC (.int 1))) aNil)) env mu = some (.bl true, mu) :=
    prim_to (a_cons (prim_to (a_one i0) (h.fwd mu)) (a_one i1)) (same_dW 26 (by have := h.cl; omega) (fun t ht => by have := h.ct t ht; omega) mu)
  have s2 : ePrim (lvl tab 29 16) (aCons (ePrim (lvl tab 29 13) (aCons (eOp oIx (eVar 7) (eC (.int 0))) aNil)) (aCons (ePrim (lvl tab 29 28) (aCons (eOp oIx (eVar 7) (eC (.int 1))) aNil)) aNil)) env mu = some (.bl true, mu) :=
    prim_to (a_cons (prim_to (a_one i0) (h.least mu)) (a_one (prim_to (a_one i1) (s_lawleast 28 mu c (by have := h.cl; omega))))) (same_optT 27 (fun t ht => by
      rcases leastGo_mem c none t ht with h1 | h1
      · have := h.ct t h1; omega
      · cases h1) mu)
  refine nrm_gr0 ?_ rfl
  exact (or_f (not_to s1)).trans (not_to s2)
theorem test2 {mu : M} {p : Nat} {w c : List (List Int)} (hf : ∀ m : M, lvl tab 29 12 [dW c] m = some (dW w, m)) (h : Sc w c) (hp : mu[p]? = some (.lst [dW w, dW c])) {env : Dm.Env} (h7 : env[7]? = some (some (.ref p))) :
    nrm (eNot (ePrim (lvl tab 29 16) (aCons (ePrim (lvl tab 29 12) (aCons (eOp oIx (eVar 7) (eC (.int 1))) aNil)) (aCons (eOp oIx (eVar 7) (eC (.int 0))) aNil)))) env mu = some (.bl false, mu) := by
  have i0 : eOp oIx (eVar 7) (eC (.int 0)) env mu = some (dW w, mu) := op_to (v_at h7) c_at (by unfold oIx; dsimp only; rw [hp]; rfl)
  have i1 : eOp oIx (eVar 7) (eC (.int 1)) env mu = some (dW c, mu) := op_to (v_at h7) c_at (by unfold oIx; dsimp only; rw [hp]; rfl)
  have s1 : ePrim (lvl tab 29 16) (aCons (ePrim (lvl tab 29 12) (aCons (eOp oIx (eVar 7) (eC (.int 1))) aNil)) (aCons (eOp oIx (eVar 7) (eC (.int 0))) aNil)) env mu = some (.bl true, mu) :=
    prim_to (a_cons (prim_to (a_one i1) (hf mu)) (a_one i0)) (same_dW 26 (by have := h.wl; omega) (fun t ht => by have := h.wt t ht; omega) mu)
  refine nrm_gr0 ?_ rfl
  unfold eNot
  rw [s1]; rfl
theorem nrm_chn {e : ES} {env : Dm.Env} {m m' r : M} {l : Nat} {o : Ob} (h : e env m = some (.ref m.length, m' ++ o :: r)) (hc : Ch m l m') (hg : o.gr = true) : nrm e env m = some (.ref m.length, m' ++ [o]) := by
  unfold nrm
  have hl := hc.len
  rw [h, Option.map_some, norm_new (hc.stb _) (Nat.le_refl _) (by rw [← hl, get_app0]; rfl) hg, ← hl, take_app]
/-- one scene more -/
theorem scene_step {mu : M} (hd : Dr mu 0) (h2 : 2 ≤ mu.length) {refs : List D} (hr : mu[1]? = some (.lst refs)) (hrl : refs.length < 100) {e0 e6 e7 : Option D} (d : D) (x4 x5 : Option D) :
    ∃ (w c : List (List Int)) (mu' : M) (p : Nat) (y4 y5 : Option D), Sc w c ∧ (∀ m : M, lvl tab 29 12 [dW c] m = some (dW w, m)) ∧ Dr mu' 0 ∧ 2 ≤ p ∧ mu.length ≤ mu'.length ∧ mu'[1]? = some (.lst (refs ++ [.ref p])) ∧ mu'[p]? = some (.lst [dW w, dW c]) ∧ (∀ i o, 2 ≤ i → mu[i]? = some o → mu'[i]? = some o) ∧
    (sSeq (sAsg (tName 4) (nrm (ePrim (lvl tab 29 26) (aCons (eVar 1) aNil))))
    (sSeq (sAsg (tName 5) (nrm (ePrim (lvl tab 29 25) (aCons (eVar 1) (aCons (eVar 4) aNil)))))
    (sExpr (eMeth .list mAppend (eVar 2) (aCons (eLst (aCons (eVar 5) (aCons (ePrim (lvl tab 29 27) (aCons (eVar 5) (aCons (eVar 4) aNil))) aNil))) aNil))))) [e0, some (.ref 0), some (.ref 1), some d, x4, x5, e6, e7] mu = some (.nx [e0, some (.ref 0), some (.ref 1), some d, y4, y5, e6, e7], mu') := by
  obtain ⟨ns, m1, e1, n1, n2, c1⟩ := s_numbers 27 hd
  have hl1 := c1.len
  have hns : (m1 ++ [Ob.lst (ns.map .int)])[mu.length]? = some (.lst (ns.map .int)) := by rw [← hl1, get_app0]; rfl
  obtain ⟨A, mu2, e2, c2, A1, A2, A3, A4⟩ := s_why 26 (c1.dr.app [.lst (ns.map .int)]) (ln := mu.length) (ns := ns) (by omega) hns n1 (by omega)
  obtain ⟨m2, rfl, c2'⟩ := Ch.app c1.dr.lt c2
  have cc := c1.trans c2'
  have hns2 : (m2 ++ [Ob.lst (ns.map .int)])[mu.length]? = some (.lst (ns.map .int)) := by rw [← cc.len, get_app0]; rfl
  have hw : ∀ s ∈ canon A, SA s ∧ ∀ x ∈ s, x ∈ ns := fun s hs => A4 s (mem_canon.mp hs)
  have hwl : (canon A).length ≤ 10 := by rw [(canon_perm A).length_eq]; exact A3
  obtain ⟨L, L1, L2, L3, e3⟩ := s_lawcuts 28 hns2 n1 (by omega) hw (by omega)
  have hL : L.length ≤ 128 := by rw [n2] at L3; exact L3
  have hsc : Sc (canon A) (canon L) := sc_of (U := ns) (by omega) hw (by omega) L1 L2 (by omega)
  have hback : ∀ m : M, lvl tab 29 12 [dW (canon L)] m = some (dW (canon A), m) := fun m => by
    have hmem : ∀ t ∈ canon L, SA t ∧ ∀ x ∈ t, x ∈ ns := fun t ht => by
      have hmin := (L2 t).mp (mem_canon.mp ht)
      refine ⟨hmin.1, fun x hx => ?_⟩
      obtain ⟨s, hs, h1⟩ := neededT hmin hx
      exact (hw s hs).2 x h1
    refine cuts_eq 25 m (good_of (U := ns) (by omega) hmem (by rw [(canon_perm L).length_eq]; omega)) A2 fun t => ?_
    have hd := dual (A := A) (L := L) (U := ns) n1 A4 A1 (fun t => (L2 t).trans (min_congr fun s => mem_canon)) t
    exact hd.symm.trans (min_congr fun s => mem_canon.symm)
  let nu : M := m2 ++ [Ob.lst (ns.map .int)] ++ [.lst [dW (canon A), dW (canon L)]]
  have hnu1 : nu[1]? = some (.lst refs) := by
    have : (m2)[1]? = some (.lst refs) := by rw [cc.other (by decide)]; exact hr
    exact get_old (get_old this _) _
  have hnul : nu.length = mu.length + 2 := by simp [nu, cc.len]
  refine ⟨canon A, canon L, nu.set 1 (.lst (refs ++ [.ref (mu.length + 1)])), mu.length + 1, _, _, hsc, hback, ?_, by omega, by rw [List.length_set]; omega, ?_, ?_, fun i o hi ho => ?_, sq (asg_nm (nrm_chn (r := []) (prim_to (a_one (v_at (d := .ref 0) rfl)) e1) c1 (ints_gr ns))) (sq (asg_nm (nrm_ch (m := m1 ++ [.lst (ns.map .int)]) (m' := m2 ++ [.lst (ns.map .int)]) (r := []) (prim_to (a_cons (v_at (d := .ref 0) rfl) (a_one (v_at (d := .ref mu.length) rfl))) (by rw [List.append_nil]; exact e2)) c2 (gr_dW _))) (expr_nx (meth_to (v_at (d := .ref 1) rfl) ?_ (a_one (d := .ref (mu.length + 1)) (m1 := nu) ?_) (append_at _ hnu1 (by show _ < 16777216; omega)))))⟩
  · obtain ⟨ds, hds⟩ := cc.dr
    refine ⟨ds, ?_⟩
    rw [List.getElem?_set_ne (by decide)]
    exact get_old (get_old hds _) _
  · exact List.getElem?_set_self (by omega)
  · rw [List.getElem?_set_ne (by omega)]
    show (m2 ++ [Ob.lst (ns.map .int)] ++ [.lst [dW (canon A), dW (canon L)]])[mu.length + 1]? = _
    rw [show mu.length + 1 = (m2 ++ [Ob.lst (ns.map .int)]).length by simp [cc.len], get_app0]; rfl
  · rw [List.getElem?_set_ne (by omega)]
    have : m2[i]? = some o := by rw [cc.other (by omega)]; exact ho
    exact get_old (get_old this _) _
  · refine rcv_lst (xs := refs) ?_
    have : (m2)[1]? = some (.lst refs) := by rw [cc.other (by decide)]; exact hr
    exact get_old this _
  · refine (lst_at (a_cons (v_at (d := dW (canon A)) rfl) (a_one (prim_to (a_cons (v_at (d := dW (canon A)) rfl) (a_one (v_at (d := .ref mu.length) rfl))) e3))) (show 2 ≤ 16777216 by decide)).trans ?_
    rw [show (m2 ++ [Ob.lst (ns.map .int)]).length = mu.length + 1 by simp [cc.len]]
end K47
end

section
set_option linter.all false
namespace K47
open PySem Dm Bits Sets
theorem law_true (ns : List Int) (h : ns.length ≤ 63) : ∃ m', m_law (lvl tab 29) [.fl (ns.map .int)] [] = some (.bl true, m') := by
  obtain ⟨ds, e1⟩ := s_draws 28 ns h
  -- the two scenes
  have d1 : Dr [Ob.lst (ds.map .int), .lst []] 0 := ⟨ds, rfl⟩
  obtain ⟨w0, c0, mu1, p0, y4, y5, sc0, b0, dr1, hp0, hl1, r1, g0, k1, st1⟩ := scene_step d1 (by simp) (refs := []) rfl (by simp) (e0 := some (.fl (ns.map .int))) (e6 := none) (e7 := none) (.int 0) none none
  obtain ⟨w1, c1, mu2, p1, z4, z5, sc1, b1, dr2, hp1, hl2, r2, g1, k2, st2⟩ := scene_step dr1 (by simp at hl1; omega) r1 (by simp) (e0 := some (.fl (ns.map .int))) (e6 := none) (e7 := none) (.int 1) y4 y5
  have g0' := k2 p0 _ hp0 g0
  -- the pairs
  obtain ⟨lf, ps, fs, m3, hI, h8, ch, e3⟩ := s_pairs 27 dr2
  have hch := ch.len
  have scp : Sc (canon ps) (canon fs) := by
    have hfl : fs.length ≤ 256 := by rw [hI.fl]; exact Nat.le_trans (Nat.pow_le_pow_right (by decide) h8) (by decide)
    refine sc_of (U := (List.range 16).map fun i : Nat => (i : Int) + 1) (by simp) (fun t ht => ?_) (by rw [(canon_perm ps).length_eq]; omega) hI.fnd (fun t => (hI.mem t).trans (min_congr fun s => mem_canon.symm)) (by omega)
    obtain ⟨q1, _, q3⟩ := hI.sa t (mem_canon.mp ht)
    refine ⟨q1, fun x hx => List.mem_map.mpr ⟨(x - 1).toNat, ?_, ?_⟩⟩
    · have := q3 x hx
      rw [List.mem_range]; omega
    · have := q3 x hx
      omega
  let mu4 : M := m3 ++ [.lst [dW (canon ps), dW (canon fs)]]
  have r4 : mu4[1]? = some (.lst [.ref p0, .ref p1]) := get_old (by rw [ch.other (by decide)]; exact r2) _
  have q0 : mu4[p0]? = some (.lst [dW w0, dW c0]) := get_old (by rw [ch.other (by omega)]; exact g0') _
  have q1 : mu4[p1]? = some (.lst [dW w1, dW c1]) := get_old (by rw [ch.other (by omega)]; exact g1) _
  have qp : mu4[mu2.length]? = some (.lst [dW (canon ps), dW (canon fs)]) := by
    show (m3 ++ _)[mu2.length]? = _
    rw [← hch, get_app0]; rfl
  let mu5 : M := mu4 ++ [.lst [.ref p0, .ref p1, .ref mu2.length, .ref p0]]
  have q5 : mu5[mu4.length]? = some (.lst [.ref p0, .ref p1, .ref mu2.length, .ref p0]) := by show (mu4 ++ _)[_]? = _; rw [get_app0]; rfl
  have i0 : ∀ env : Dm.Env, env[2]? = some (some (.ref 1)) → eOp oIx (eVar 2) (eC (.int 0)) env mu4 = some (.ref p0, mu4) := fun env he => op_to (v_at he) c_at (by unfold oIx; dsimp only; rw [r4]; rfl)
  have i1 : ∀ env : Dm.Env, env[2]? = some (some (.ref 1)) → eOp oIx (eVar 2) (eC (.int 1)) env mu4 = some (.ref p1, mu4) := fun env he => op_to (v_at he) c_at (by unfold oIx; dsimp only; rw [r4]; rfl)
  have r5 : mu5[1]? = some (.lst [.ref p0, .ref p1]) := get_old r4 _
  have gd5 : gdOk [(mu4.length, .lst [.ref p0, .ref p1, .ref mu2.length, .ref p0])] mu5 = true := gd_one q5
  have gd1 : gdOk [(1, .lst [.ref p0, .ref p1])] mu5 = true := gd_one r5
  have body : (mb_law (lvl tab 29)) ([D.fl (ns.map .int)].map some ++ List.replicate 7 none) [] = some (.rt (.bl true), mu5) := by
    unfold mb_law
    refine sq (asg_nm (nrm_new0 (m := []) (r := []) (prim_to (a_cons (v_at (d := .fl (ns.map .int)) rfl) (a_one c_at)) e1) (ints_gr ds))) ?_
    refine sq (asg_nm (nrm_new0 (m := [Ob.lst (ds.map .int)]) (o := .lst []) (r := []) (lst_at a_nil (Nat.zero_le _)) rfl)) ?_
    refine sq (frq (rng1_at (j := 2) c_at (by decide) (by decide)) (show forGo [] (tName 3) _ [.int 0, .int 1] _ _ = _ from fcq rfl rfl st1 (fcq rfl rfl st2 (for_nil rfl)))) ?_
    refine sq (asg_nm (nrm_chn (r := []) (prim_to (a_one (v_at (d := .ref 0) rfl)) e3) ch (by show D.grL _ = true; rw [D.grL, D.grL, gr_dW, gr_dW]; rfl))) ?_
    refine sq (frq (m1 := mu5) (seq_ref (l := mu4.length) (lst_at (m1 := mu4) (a_cons (i0 _ rfl) (a_cons (i1 _ rfl) (a_cons (v_at (d := .ref mu2.length) rfl) (a_one (i0 _ rfl))))) (show 4 ≤ 16777216 by decide)) q5)
      (fcq gd5 rfl (m2 := mu5) (iff' (test1 sc0 (get_old q0 _) rfl) rfl) (fcq gd5 rfl (m2 := mu5) (iff' (test1 sc1 (get_old q1 _) rfl) rfl) (fcq gd5 rfl (m2 := mu5) (iff' (test1 scp (get_old qp _) rfl) rfl) (fcq gd5 rfl (m2 := mu5) (iff' (test1 sc0 (get_old q0 _) rfl) rfl) (for_nil gd5)))))) ?_
    refine sq (frq (m1 := mu5) (seq_ref (v_at (d := .ref 1) rfl) r5) (fcq gd1 rfl (m2 := mu5) (iff' (test2 b0 sc0 (get_old q0 _) rfl) rfl) (fcq gd1 rfl (m2 := mu5) (iff' (test2 b1 sc1 (get_old q1 _) rfl) rfl) (for_nil gd1)))) ?_
    exact ret_rt c_at
  refine ⟨mu5.take 0, ?_⟩
  have hf := fn_ret (n := 1) (j := 7) (b := mb_law (lvl tab 29)) (args := [.fl (ns.map .int)]) body rfl
  rw [m_law, hf, norm_gr (by simp [stb]) rfl]
  rfl
end K47
end
open PyProof.Rows PySem PySem.W
set_option maxHeartbeats 0 in
theorem PySem.Challenge.cw_doubtbook_k47_cuts_holds : PySem.Challenge.rw_doubtbook_k47_cuts.Holds := by
  (w_on; o_law; k_head; (case hw => w_witness2))
  k_fill
  refine L2.walk_of (l := PySem.Challenge.rw_doubtbook_k47_cuts) (n := 63) (k := 90) (x := "script") (CX := fun _ => L2.CX0) (sp := fun w => fun vs H Q _ => ∃ a ns, vs = [L2.V.ref a] ∧ List.length ns ≤ 63 ∧ Dm.FzL _ H a (ns.map L2.V.int) ∧ ∀ H', Q (.bl true) H') rfl (by decide) rfl ⟨rfl, by decide, by decide⟩ (fun w h Y => PySem.W.kIn_of Y) ?F (fun _ _ a ns hl hO hS => ⟨a, ns, rfl, hl, Dm.only_fz hO hS, fun _ => rfl⟩) (fun _ _ _ _ _ h => h)
  case F =>
    intro w mg fa h KX G hmg
    have d_value_key : Dm.atK KX fun K => Dm.Dn K mg K47.t_value_key (Str.ofString "value_key") [(Str.ofString "value")] := by
      refine' Dm.dn_mk KX G ?a ?l ?c ?k (fun _ _ _ _ _ _ us hl => match us, hl with | [_], _ => rfl)
      (case a => k_is); (case l => k_is); (case c => k_is); (case k => k_is)
    have d_row_key : Dm.atK KX fun K => Dm.Dn K mg K47.t_row_key (Str.ofString "row_key") [(Str.ofString "row")] := by
      refine' Dm.dn_mk KX G ?a ?l ?c ?k (fun _ _ _ _ _ _ us hl => match us, hl with | [_], _ => rfl)
      (case a => k_is); (case l => k_is); (case c => k_is); (case k => k_is)
    have d_mark_key : Dm.atK KX fun K => Dm.Dn K mg K47.t_mark_key (Str.ofString "mark_key") [(Str.ofString "mark")] := by
      refine' Dm.dn_mk KX G ?a ?l ?c ?k (fun _ _ _ _ _ _ us hl => match us, hl with | [_], _ => rfl)
      (case a => k_is); (case l => k_is); (case c => k_is); (case k => k_is)
    have d_pair_key : Dm.atK KX fun K => Dm.Dn K mg K47.t_pair_key (Str.ofString "pair_key") [(Str.ofString "pair")] := by
      refine' Dm.dn_mk KX G ?a ?l ?c ?k (fun _ _ _ _ _ _ us hl => match us, hl with | [_], _ => rfl)
      (case a => k_is); (case l => k_is); (case c => k_is); (case k => k_is)
    have d_mask_size : Dm.atK KX fun K => Dm.Dn K mg K47.t_mask_size (Str.ofString "mask_size") [(Str.ofString "mask")] := by
      refine' Dm.dn_mk KX G ?a ?l ?c ?k (fun _ _ _ _ _ _ us hl => match us, hl with | [_], _ => rfl)
      (case a => k_is); (case l => k_is); (case c => k_is); (case k => k_is)
    have d_places_of : Dm.atK KX fun K => Dm.Dn K mg K47.t_places_of (Str.ofString "places_of") [(Str.ofString "mask")] := by
      refine' Dm.dn_mk KX G ?a ?l ?c ?k (fun _ _ _ _ _ _ us hl => match us, hl with | [_], _ => rfl)
      (case a => k_is); (case l => k_is); (case c => k_is); (case k => k_is)
    have d_ordered_parts : Dm.atK KX fun K => Dm.Dn K mg K47.t_ordered_parts (Str.ofString "ordered_parts") [(Str.ofString "house"), (Str.ofString "members")] := by
      refine' Dm.dn_mk KX G ?a ?l ?c ?k (fun _ _ _ _ _ _ us hl => match us, hl with | [_, _], _ => rfl)
      (case a => k_is); (case l => k_is); (case c => k_is); (case k => k_is)
    have d_masks_of : Dm.atK KX fun K => Dm.Dn K mg K47.t_masks_of (Str.ofString "masks_of") [(Str.ofString "members"), (Str.ofString "parts")] := by
      refine' Dm.dn_mk KX G ?a ?l ?c ?k (fun _ _ _ _ _ _ us hl => match us, hl with | [_, _], _ => rfl)
      (case a => k_is); (case l => k_is); (case c => k_is); (case k => k_is)
    have d_members_of : Dm.atK KX fun K => Dm.Dn K mg K47.t_members_of (Str.ofString "members_of") [(Str.ofString "masks"), (Str.ofString "parts")] := by
      refine' Dm.dn_mk KX G ?a ?l ?c ?k (fun _ _ _ _ _ _ us hl => match us, hl with | [_, _], _ => rfl)
      (case a => k_is); (case l => k_is); (case c => k_is); (case k => k_is)
    have d_missed : Dm.atK KX fun K => Dm.Dn K mg K47.t_missed (Str.ofString "missed") [(Str.ofString "supports"), (Str.ofString "chosen"), (Str.ofString "allowed")] := by
      refine' Dm.dn_mk KX G ?a ?l ?c ?k (fun _ _ _ _ _ _ us hl => match us, hl with | [_, _, _], _ => rfl)
      (case a => k_is); (case l => k_is); (case c => k_is); (case k => k_is)
    have d_has_idle : Dm.atK KX fun K => Dm.Dn K mg K47.t_has_idle (Str.ofString "has_idle") [(Str.ofString "supports"), (Str.ofString "chosen")] := by
      refine' Dm.dn_mk KX G ?a ?l ?c ?k (fun _ _ _ _ _ _ us hl => match us, hl with | [_, _], _ => rfl)
      (case a => k_is); (case l => k_is); (case c => k_is); (case k => k_is)
    have d_cut_masks : Dm.atK KX fun K => Dm.Dn K mg K47.t_cut_masks (Str.ofString "cut_masks") [(Str.ofString "supports")] := by
      refine' Dm.dn_mk KX G ?a ?l ?c ?k (fun _ _ _ _ _ _ us hl => match us, hl with | [_], _ => rfl)
      (case a => k_is); (case l => k_is); (case c => k_is); (case k => k_is)
    have d_cuts : Dm.atK KX fun K => Dm.Dn K mg K47.t_cuts (Str.ofString "cuts") [(Str.ofString "why")] := by
      refine' Dm.dn_mk KX G ?a ?l ?c ?k (fun _ _ _ _ _ _ us hl => match us, hl with | [_], _ => rfl)
      (case a => k_is); (case l => k_is); (case c => k_is); (case k => k_is)
    have d_least_cut : Dm.atK KX fun K => Dm.Dn K mg K47.t_least_cut (Str.ofString "least_cut") [(Str.ofString "why")] := by
      refine' Dm.dn_mk KX G ?a ?l ?c ?k (fun _ _ _ _ _ _ us hl => match us, hl with | [_], _ => rfl)
      (case a => k_is); (case l => k_is); (case c => k_is); (case k => k_is)
    have d__law_draws : Dm.atK KX fun K => Dm.Dn K mg K47.t__law_draws (Str.ofString "_law_draws") [(Str.ofString "script"), (Str.ofString "many")] := by
      refine' Dm.dn_mk KX G ?a ?l ?c ?k (fun _ _ _ _ _ _ us hl => match us, hl with | [_, _], _ => rfl)
      (case a => k_is); (case l => k_is); (case c => k_is); (case k => k_is)
    have d__law_take : Dm.atK KX fun K => Dm.Dn K mg K47.t__law_take (Str.ofString "_law_take") [(Str.ofString "draws"), (Str.ofString "many")] := by
      refine' Dm.dn_mk KX G ?a ?l ?c ?k (fun _ _ _ _ _ _ us hl => match us, hl with | [_, _], _ => rfl)
      (case a => k_is); (case l => k_is); (case c => k_is); (case k => k_is)
    have d__law_same : Dm.atK KX fun K => Dm.Dn K mg K47.t__law_same (Str.ofString "_law_same") [(Str.ofString "actual"), (Str.ofString "due")] := by
      refine' Dm.dn_mk KX G ?a ?l ?c ?k (fun _ _ _ _ _ _ us hl => match us, hl with | [_, _], _ => rfl)
      (case a => k_is); (case l => k_is); (case c => k_is); (case k => k_is)
    have d__law_value_key : Dm.atK KX fun K => Dm.Dn K mg K47.t__law_value_key (Str.ofString "_law_value_key") [(Str.ofString "value")] := by
      refine' Dm.dn_mk KX G ?a ?l ?c ?k (fun _ _ _ _ _ _ us hl => match us, hl with | [_], _ => rfl)
      (case a => k_is); (case l => k_is); (case c => k_is); (case k => k_is)
    have d__law_row_key : Dm.atK KX fun K => Dm.Dn K mg K47.t__law_row_key (Str.ofString "_law_row_key") [(Str.ofString "row")] := by
      refine' Dm.dn_mk KX G ?a ?l ?c ?k (fun _ _ _ _ _ _ us hl => match us, hl with | [_], _ => rfl)
      (case a => k_is); (case l => k_is); (case c => k_is); (case k => k_is)
    have d__law_mark_key : Dm.atK KX fun K => Dm.Dn K mg K47.t__law_mark_key (Str.ofString "_law_mark_key") [(Str.ofString "mark")] := by
      refine' Dm.dn_mk KX G ?a ?l ?c ?k (fun _ _ _ _ _ _ us hl => match us, hl with | [_], _ => rfl)
      (case a => k_is); (case l => k_is); (case c => k_is); (case k => k_is)
    have d__law_is_part : Dm.atK KX fun K => Dm.Dn K mg K47.t__law_is_part (Str.ofString "_law_is_part") [(Str.ofString "small"), (Str.ofString "large")] := by
      refine' Dm.dn_mk KX G ?a ?l ?c ?k (fun _ _ _ _ _ _ us hl => match us, hl with | [_, _], _ => rfl)
      (case a => k_is); (case l => k_is); (case c => k_is); (case k => k_is)
    have d__law_pair_key : Dm.atK KX fun K => Dm.Dn K mg K47.t__law_pair_key (Str.ofString "_law_pair_key") [(Str.ofString "pair")] := by
      refine' Dm.dn_mk KX G ?a ?l ?c ?k (fun _ _ _ _ _ _ us hl => match us, hl with | [_], _ => rfl)
      (case a => k_is); (case l => k_is); (case c => k_is); (case k => k_is)
    have d__law_reason_key : Dm.atK KX fun K => Dm.Dn K mg K47.t__law_reason_key (Str.ofString "_law_reason_key") [(Str.ofString "reason")] := by
      refine' Dm.dn_mk KX G ?a ?l ?c ?k (fun _ _ _ _ _ _ us hl => match us, hl with | [_], _ => rfl)
      (case a => k_is); (case l => k_is); (case c => k_is); (case k => k_is)
    have d__law_member_key : Dm.atK KX fun K => Dm.Dn K mg K47.t__law_member_key (Str.ofString "_law_member_key") [(Str.ofString "member")] := by
      refine' Dm.dn_mk KX G ?a ?l ?c ?k (fun _ _ _ _ _ _ us hl => match us, hl with | [_], _ => rfl)
      (case a => k_is); (case l => k_is); (case c => k_is); (case k => k_is)
    have d__law_thin : Dm.atK KX fun K => Dm.Dn K mg K47.t__law_thin (Str.ofString "_law_thin") [(Str.ofString "members")] := by
      refine' Dm.dn_mk KX G ?a ?l ?c ?k (fun _ _ _ _ _ _ us hl => match us, hl with | [_], _ => rfl)
      (case a => k_is); (case l => k_is); (case c => k_is); (case k => k_is)
    have d__law_drawn_why : Dm.atK KX fun K => Dm.Dn K mg K47.t__law_drawn_why (Str.ofString "_law_drawn_why") [(Str.ofString "draws"), (Str.ofString "numbers")] := by
      refine' Dm.dn_mk KX G ?a ?l ?c ?k (fun _ _ _ _ _ _ us hl => match us, hl with | [_, _], _ => rfl)
      (case a => k_is); (case l => k_is); (case c => k_is); (case k => k_is)
    have d__law_some_numbers : Dm.atK KX fun K => Dm.Dn K mg K47.t__law_some_numbers (Str.ofString "_law_some_numbers") [(Str.ofString "draws")] := by
      refine' Dm.dn_mk KX G ?a ?l ?c ?k (fun _ _ _ _ _ _ us hl => match us, hl with | [_], _ => rfl)
      (case a => k_is); (case l => k_is); (case c => k_is); (case k => k_is)
    have d__law_cuts : Dm.atK KX fun K => Dm.Dn K mg K47.t__law_cuts (Str.ofString "_law_cuts") [(Str.ofString "why"), (Str.ofString "numbers")] := by
      refine' Dm.dn_mk KX G ?a ?l ?c ?k (fun _ _ _ _ _ _ us hl => match us, hl with | [_, _], _ => rfl)
      (case a => k_is); (case l => k_is); (case c => k_is); (case k => k_is)
    have d__law_least : Dm.atK KX fun K => Dm.Dn K mg K47.t__law_least (Str.ofString "_law_least") [(Str.ofString "due")] := by
      refine' Dm.dn_mk KX G ?a ?l ?c ?k (fun _ _ _ _ _ _ us hl => match us, hl with | [_], _ => rfl)
      (case a => k_is); (case l => k_is); (case c => k_is); (case k => k_is)
    have d__law_pairs : Dm.atK KX fun K => Dm.Dn K mg K47.t__law_pairs (Str.ofString "_law_pairs") [(Str.ofString "draws")] := by
      refine' Dm.dn_mk KX G ?a ?l ?c ?k (fun _ _ _ _ _ _ us hl => match us, hl with | [_], _ => rfl)
      (case a => k_is); (case l => k_is); (case c => k_is); (case k => k_is)
    have d_law : Dm.atK KX fun K => Dm.Dn K mg K47.t_law (Str.ofString "law") [(Str.ofString "script")] := by
      refine' Dm.dn_mk KX G ?a ?l ?c ?k (fun _ _ _ _ _ _ us hl => match us, hl with | [_], _ => rfl)
      (case a => k_is); (case l => k_is); (case c => k_is); (case k => k_is)
    have hB : Dm.atK KX fun K => K47.Bi K mg := by
      constructor
      · (refine' PySem.W.mg_none_of KX G ?a; (case a => k_is))
      · (refine' PySem.W.mg_none_of KX G ?a; (case a => k_is))
      · (refine' PySem.W.mg_none_of KX G ?a; (case a => k_is))
      · (refine' PySem.W.mg_none_of KX G ?a; (case a => k_is))
      · (refine' PySem.W.mg_none_of KX G ?a; (case a => k_is))
      · (refine' PySem.W.mg_none_of KX G ?a; (case a => k_is))
      · (refine' PySem.W.mg_none_of KX G ?a; (case a => k_is))
      · (refine' PySem.W.mg_none_of KX G ?a; (case a => k_is))
      · (refine' PySem.W.mg_none_of KX G ?a; (case a => k_is))
      · (refine' PySem.W.mg_none_of KX G ?a; (case a => k_is))
      · (refine' PySem.W.mg_none_of KX G ?a; (case a => k_is))
      · (refine' PySem.W.mg_none_of KX G ?a; (case a => k_is))
      · (refine' Dm.const_mk (vs := [L2.V.str (PySem.Str.ofString "whys")]) KX G ?a ?l rfl ?z ?v ?r; (case a => k_is); (case l => k_is); (case z => decide); (case v => exact .cons ⟨_, rfl⟩ .nil); (case r => exact fun _ _ => .cons (.str _) .nil))
    have hD : Dm.atK KX fun K => K47.Ds K mg := ⟨d_value_key, d_row_key, d_mark_key, d_pair_key, d_mask_size, d_places_of, d_ordered_parts, d_masks_of, d_members_of, d_missed, d_has_idle, d_cut_masks, d_cuts, d_least_cut, d__law_draws, d__law_take, d__law_same, d__law_value_key, d__law_row_key, d__law_mark_key, d__law_is_part, d__law_pair_key, d__law_reason_key, d__law_member_key, d__law_thin, d__law_drawn_why, d__law_some_numbers, d__law_cuts, d__law_least, d__law_pairs, d_law⟩
    refine' Dm.law_mk (st := K47.t_law) (x := "script") (g := K47.m_law (Dm.lvl K47.tab 29)) KX G hmg ?a ?l ?c ?k (fun _ _ _ _ _ _ us hl => match us, hl with | [_], _ => rfl) (fun base fd F => K47.top_law hB (K47.good hB hD 29) F) K47.law_true
    (case a => k_is); (case l => k_is); (case c => k_is); (case k => k_is)
