import PyProof.Rows.All
import PySem.Challenge.RW_wordscancel_k69_numbers_of_lots
import Wide.All
import OpenK.AllK
import Wide.FinOn
import HandS.ForMost
import HandS.Deep
import HandS.IsInst
import HandS.Conv
import HandS.Flow
import HandS.Style
import HandS.RaiseMore
import HandS.DictComp
import HandS.SetFor
import HandS.TupSets
import HandS.TupLen
import HandS.Defaults
import HandS.WordsExc
import HandS.Head0
import HandS.Head1
import HandS.Head2
import HandS.HeadEnd
import HandS.HeadHook1
import HandS.HeadHook2
import KE.KStateDown
import KE.SortData
import KE.DataMinMax
set_option Elab.async false
set_option linter.all false
set_option maxRecDepth 100000
/- part WcDefs -/
/-! A small language of plain values, what it computes, and how a def of the text is put into it. -/
namespace Wc
open PySem
abbrev D := PyData
abbrev Slot := Nat × D
abbrev Env := List (Option Slot)

/-! ### plain values -/
mutual
def deq : D → D → Bool
  | .none, .none => true
  | .bool a, .bool b => a == b
  | .int a, .int b => decide (a = b)
  | .str a, .str b => decide (a = b)
  | .list a, .list b => deqs a b
  | .tuple a, .tuple b => deqs a b
  | _, _ => false
def deqs : List D → List D → Bool
  | [], [] => true
  | a :: as, b :: bs => deq a b && deqs as bs
  | _, _ => false
end
mutual
/-- nothing in it can be changed -/
def immut : D → Bool
  | .none => true
  | .bool _ => true
  | .int _ => true
  | .str _ => true
  | .tuple l => immuts l
  | _ => false
def immuts : List D → Bool
  | [] => true
  | a :: as => immut a && immuts as
end
def isK : D → Bool
  | .int _ => true
  | .str _ => true
  | _ => false
def isTK : D → Bool
  | .tuple l => l.all isK
  | _ => false
/-- a set, told by a mark that no dict bears -/
def mkSet (l : List D) : D := .dict ((.list [], .none) :: l.map fun x => (x, .none))
/-- the script -/
def mkScr (l : List D) : D := .dict [(.list [], .list l)]
inductive Kd where
  | plain | aset | scr
def kdOf : List (D × D) → Kd
  | (.list _, .none) :: _ => .aset
  | (.list _, _) :: _ => .scr
  | _ => .plain
def look (l : List (D × D)) (k : D) : Option D := (l.find? fun p => deq p.1 k).map (·.2)
def put (l : List (D × D)) (k v : D) : List (D × D) :=
  if l.any (fun p => deq p.1 k) then l.map (fun p => if deq p.1 k then (p.1, v) else p) else l ++ [(k, v)]
def line : Nat := 16777216
/-- a key that may be asked of a dict -/
def keyOk (l : List (D × D)) (k : D) : Bool :=
  match kdOf l with
  | .plain => (isK k && l.all fun p => isK p.1) || (isTK k && l.all fun p => isTK p.1)
  | _ => false

def mapO {α β : Type} (f : α → Option β) : List α → Option (List β)
  | [] => some []
  | x :: xs => match f x with
    | none => none
    | some y => match mapO f xs with
      | none => none
      | some ys => some (y :: ys)

/-! ### the language -/
inductive BOp where
  | add | sub | mul | fdiv | mod | pow
  deriving DecidableEq
inductive COp where
  | eq | ne | lt | le | gt | ge | isin | notin
  deriving DecidableEq
inductive Blt where
  | len | sorted | list | int | abs | min2 | max2 | set | sum | repr | tuple | dict | min1 | max1
  deriving DecidableEq
inductive Ty where
  | int | bool | list | tuple | str
  deriving DecidableEq
inductive Tg where
  | one (i : Nat)
  | many (is : List Nat)
  deriving DecidableEq
inductive CE where
  | var (i : Nat)
  | lit (d : D)
  | lst (es : List CE)
  | tup (es : List CE)
  | dict0 (tk : Bool)
  | bin (op : BOp) (a b : CE)
  | neg (a : CE)
  | not (a : CE)
  | cmp (op : COp) (a b : CE)
  | isn (neg : Bool) (a : CE)
  | chain (p q : COp) (a b c : CE)
  | and (a b : CE)
  | or (a b : CE)
  | idx (a b : CE)
  | slc (f g : Bool) (a lo hi : CE)
  | rev (a : CE)
  | call (f : Nat) (es : List CE)
  | blt (f : Blt) (es : List CE)
  | get1 (d k : CE)
  | get2 (d k x : CE)
  | index (l x : CE)
  | isi (a : CE) (t : Ty)
  | rng (a b : CE)
  | lrng (a b : CE)
  | rvd (a : CE)
  | kys (a : CE)
  | lcomp (tg : Tg) (elt it : CE)
  | lcompIf (tg : Tg) (elt it c : CE)
  | scomp (tg : Tg) (elt it : CE)
  | dcomp (tg : Tg) (k v it : CE)
inductive MOp where
  | append | extend | insert | setk
  deriving DecidableEq
inductive POp where
  | last | first | key
  deriving DecidableEq
inductive CS where
  | set (tg : Tg) (e : CE)
  | par (is : List Nat) (es : List CE)
  | mut (i : Nat) (path : List CE) (op : MOp) (ks : List CE) (e : CE)
  | swp (i : Nat) (a b : CE) (e f : CE)
  | pop (dst : Option Nat) (i : Nat) (op : POp) (es : List CE)
  | ex (e : CE)
  | ite (c : CE) (a b : List CS)
  | whl (c : CE) (b : List CS)
  | for (tg : Tg) (it : CE) (b : List CS)
  | ret (e : CE)
  | retN
structure FDef where
  np : Nat
  ns : Nat
  body : List CS
/-- what calls hand back: a value, how deep it is the caller's own -/
abbrev Orc := Nat → List D → Option (D × Nat)

/-! ### what an expression is worth -/
def getv (r : Env) (i : Nat) : Option D :=
  match r[i]? with
  | some (some (_, d)) => some d
  | _ => none
def tgs : Tg → List Nat
  | .one i => [i]
  | .many is => is
def setMany (m : Nat) : List Nat → List D → Env → Option Env
  | [], [], r => some r
  | i :: is, d :: ds, r => setMany m is ds (r.set i (some (m, d)))
  | _, _, _ => none
def setTg (m : Nat) (tg : Tg) (d : D) (r : Env) : Option Env :=
  match tg with
  | .one i => some (r.set i (some (m, d)))
  | .many is => match d with
    | .tuple ds => setMany (m - 1) is ds r
    | _ => none
def wipeE (r : Env) : List Nat → Env
  | [] => r
  | v :: vs => (wipeE r vs).set v none
def kmode : List (D × Nat) → Nat
  | [] => 8
  | (d, m) :: r => min (if immut d then 8 else m) (kmode r)
def ixZ (n : Nat) (i : Int) : Option Nat := if 0 ≤ i then (if i < n then some i.toNat else none) else if -(n : Int) ≤ i then some (i + n).toNat else none
def sIx (n d : Nat) : D → Option Nat
  | .none => some d
  | .int v => some (if v < 0 then (v + (n : Int)).toNat else min v.toNat n)
  | _ => none
def cut (n : Nat) (lo hi : D) (xs : List D) : Option (List D) :=
  match sIx n 0 lo, sIx n n hi with
  | some a, some b => some ((xs.drop a).take (b - a))
  | _, _ => none
def small (i : Int) : Bool := decide (-18446744073709551616 < i) && decide (i < 18446744073709551616)
def binv (op : BOp) (x y : D) : Option (D × Nat) :=
  match op, x, y with
  | .add, .int a, .int b => some (.int (a + b), 0)
  | .add, .list a, .list b => if a.length + b.length ≤ line then some (.list (a ++ b), 1) else none
  | .sub, .int a, .int b => some (.int (a - b), 0)
  | .mul, .int a, .int b => if small a || small b then some (.int (a * b), 0) else none
  | .mul, .list a, .int b => if -9223372036854775808 ≤ b ∧ b < 9223372036854775808 ∧ a.length * b.toNat ≤ line then some (.list (List.replicate b.toNat a).flatten, 1) else none
  | .fdiv, .int a, .int b => if 0 < b ∧ b < 1073741824 then some (.int (a / b), 0) else none
  | .mod, .int a, .int b => if 0 < b then some (.int (a % b), 0) else none
  | .pow, .int a, .int b => if 0 ≤ b ∧ b ≤ 1000000 ∧ a.natAbs < 18446744073709551616 then some (.int (a ^ b.toNat), 0) else none
  | _, _, _ => none
def shp (d : D) : Bool := SeqAt.shaped d
def kdIn (l : List (D × D)) (x : D) : Option Bool :=
  match kdOf l with
  | .plain => if keyOk l x then some (l.any fun p => deq p.1 x) else none
  | _ => none
def inv (x y : D) : Option Bool :=
  match y with
  | .list ds => if shp x && shp y then some (ds.any fun z => PyData.eqv z x) else none
  | .dict l => kdIn l x
  | _ => none
def ltv (x y : D) : Option Bool :=
  match x, y with
  | .int a, .int b => some (decide (a < b))
  | .tuple _, .tuple _ => if shp x && shp y && W.alike x y then some (W.dataLt x y) else none
  | .list _, .list _ => if shp x && shp y && W.alike x y then some (W.dataLt x y) else none
  | _, _ => none
def cmpv (op : COp) (x y : D) : Option Bool :=
  match op with
  | .eq => if shp x && shp y then some (PyData.eqv x y) else none
  | .ne => if shp x && shp y then some (!PyData.eqv x y) else none
  | .lt => ltv x y
  | .gt => ltv y x
  | .le => (ltv y x).map (!·)
  | .ge => (ltv x y).map (!·)
  | .isin => inv x y
  | .notin => (inv x y).map (!·)
def idxv (x y : D) : Option D :=
  match x, y with
  | .list xs, .int i => (ixZ xs.length i).bind fun j => xs[j]?
  | .tuple xs, .int i => (ixZ xs.length i).bind fun j => xs[j]?
  | .dict l, k => if keyOk l k then look l k else none
  | _, _ => none
def slcv (x lo hi : D) : Option (D × Nat) :=
  match x with
  | .list xs => (cut xs.length lo hi xs).map fun l => (.list l, 1)
  | .tuple xs => match sIx xs.length 0 lo, sIx xs.length xs.length hi with
    | some a, some b => if a = 0 ∧ b = xs.length then none else some (.tuple ((xs.drop a).take (b - a)), 0)
    | _, _ => none
  | .dict [(.list [], .list xs)] => (cut xs.length lo hi xs).map fun l => (.list l, 1)
  | _ => none
def insO (le : D → D → Bool) (x : D) : List D → List D
  | [] => [x]
  | y :: ys => if le x y then x :: y :: ys else y :: insO le x ys
def isort (le : D → D → Bool) : List D → List D
  | [] => []
  | x :: xs => insO le x (isort le xs)
def allAlike (ds : List D) : Bool := ds.all fun a => ds.all fun b => W.alike a b
def sortableB (ds : List D) : Bool := (ds.all fun d => match d with | .tuple (_ :: _) => true | _ => false) || (ds.all fun d => match d with | .none => false | .tuple _ => false | _ => true)
def dle (a b : D) : Bool := !W.dataLt b a
def sortv (ds : List D) : Option (List D) :=
  if allAlike ds && sortableB ds && ds.all shp && decide (ds.length ≤ line) then some (isort dle ds) else none
def dedup : List D → List D → List D
  | acc, [] => acc
  | acc, x :: xs => if acc.any (fun y => deq y x) then dedup acc xs else dedup (acc ++ [x]) xs
def sumv : List D → Option Int
  | [] => some 0
  | .int i :: r => (sumv r).map (i + ·)
  | _ => none
def isInt : D → Bool
  | .int _ => true
  | _ => false
def isIT : D → Bool
  | .tuple l => l.all isInt
  | _ => false
def isSeq : D → Bool
  | .list _ => true
  | .tuple _ => true
  | _ => false
def setv (xs : List D) : Option D :=
  if xs.all isInt then some (mkSet (dedup [] xs)) else if xs.all isIT then some (mkSet (dedup [] xs)) else none
def itemsOf : D → Option (List D)
  | .list xs => some xs
  | .tuple xs => some xs
  | _ => none
def bltv (f : Blt) (vs : List D) : Option (D × Nat) :=
  match f, vs with
  | .len, [.list xs] => some (.int xs.length, 0)
  | .len, [.tuple xs] => some (.int xs.length, 0)
  | .len, [.dict l] => match kdOf l with
    | .plain => some (.int l.length, 0)
    | _ => none
  | .sorted, [.list xs] => (sortv xs).map fun l => (.list l, 1)
  | .list, [.list xs] => some (.list xs, 1)
  | .list, [.tuple xs] => some (.list xs, 1)
  | .int, [.int i] => some (.int i, 0)
  | .int, [.bool b] => some (.int (if b then 1 else 0), 0)
  | .abs, [.int i] => some (.int (if i < 0 then -i else i), 0)
  | .min2, [.int i, .int j] => some (.int (if j < i then j else i), 0)
  | .max2, [.int i, .int j] => some (.int (if j > i then j else i), 0)
  | .set, [.list xs] => (setv xs).map fun d => (d, 0)
  | .sum, [.list xs] => (sumv xs).map fun i => (.int i, 0)
  | .repr, [d] => if isSeq d && shp d && d.showable && decide (d.shown.length ≤ line) then some (.str d.shown, 0) else none
  | .tuple, [.list xs] => some (.tuple xs, 0)
  | .tuple, [.tuple xs] => some (.tuple xs, 0)
  | .dict, [.dict l] => match kdOf l with
    | .plain => if l.all (fun p => isK p.1) then some (.dict l, 1) else none
    | _ => none
  | _, _ => none
def tyv (d : D) (t : Ty) : Bool :=
  match d, t with
  | .int _, .int => true
  | .bool _, .int => true
  | .bool _, .bool => true
  | .list _, .list => true
  | .tuple _, .tuple => true
  | .str _, .str => true
  | _, _ => false
def tyOk : D → Bool
  | .dict _ => false
  | _ => true
def rngOk (a b : Int) : Bool := decide (-4611686018427387904 ≤ a) && decide (a < 4611686018427387904) && decide (-4611686018427387904 ≤ b) && decide (b < 4611686018427387904)
def rngv (a b : Int) : List D := (List.range (b - a).toNat).map fun (i : Nat) => PyData.int (a + (i : Int))
def indexv (xs : List D) (x : D) : Option Nat := if shp x && shp (.list xs) then xs.findIdx? (fun z => PyData.eqv z x) else none
def dictOf : List (D × D) → List (D × D) → List (D × D)
  | acc, [] => acc
  | acc, (k, v) :: r => dictOf (put acc k v) r

mutual
def evE (C : Orc) (r : Env) : CE → Option (D × Nat)
  | .var i => (getv r i).map fun d => (d, 0)
  | .lit d => some (d, 0)
  | .lst es => match evEs C r es with
    | some l => some (.list (l.map (·.1)), kmode l + 1)
    | none => none
  | .tup es => match evEs C r es with
    | some l => some (.tuple (l.map (·.1)), kmode l + 1)
    | none => none
  | .dict0 _ => some (.dict [], 9)
  | .bin op a b => match evE C r a with
    | some (x, _) => match evE C r b with
      | some (y, _) => binv op x y
      | none => none
    | none => none
  | .neg a => match evE C r a with
    | some (.int i, _) => some (.int (-i), 0)
    | _ => none
  | .not a => match evE C r a with
    | some (.bool b, _) => some (.bool (!b), 0)
    | _ => none
  | .cmp op a b => match evE C r a with
    | some (x, _) => match evE C r b with
      | some (y, _) => (cmpv op x y).map fun k => (.bool k, 0)
      | none => none
    | none => none
  | .isn n a => match evE C r a with
    | some (x, _) => some (.bool (match x with | .none => !n | _ => n), 0)
    | none => none
  | .chain p q a b c => match evE C r a with
    | some (x, _) => match evE C r b with
      | some (y, _) => match cmpv p x y with
        | some true => match evE C r c with
          | some (z, _) => (cmpv q y z).map fun k => (.bool k, 0)
          | none => none
        | some false => some (.bool false, 0)
        | none => none
      | none => none
    | none => none
  | .and a b => match evE C r a with
    | some (.bool true, _) => match evE C r b with
      | some (.bool k, _) => some (.bool k, 0)
      | _ => none
    | some (.bool false, _) => some (.bool false, 0)
    | _ => none
  | .or a b => match evE C r a with
    | some (.bool false, _) => match evE C r b with
      | some (.bool k, _) => some (.bool k, 0)
      | _ => none
    | some (.bool true, _) => some (.bool true, 0)
    | _ => none
  | .idx a b => match evE C r a with
    | some (x, _) => match evE C r b with
      | some (y, _) => (idxv x y).map fun d => (d, 0)
      | none => none
    | none => none
  | .slc f g a lo hi => match evE C r a with
    | some (x, _) => match evE C r lo with
      | some (y, _) => match evE C r hi with
        | some (z, _) => if isInt y = f ∧ isInt z = g then slcv x y z else none
        | none => none
      | none => none
    | none => none
  | .rev a => match evE C r a with
    | some (.list xs, _) => some (.list xs.reverse, 1)
    | _ => none
  | .call f es => match evEs C r es with
    | some l => C f (l.map (·.1))
    | none => none
  | .blt f es => match evEs C r es with
    | some l => bltv f (l.map (·.1))
    | none => none
  | .get1 d k => match evE C r d with
    | some (.dict l, _) => match evE C r k with
      | some (y, _) => if keyOk l y then some ((look l y).getD .none, 0) else none
      | none => none
    | _ => none
  | .get2 d k x => match evE C r d with
    | some (.dict l, _) => match evE C r k with
      | some (y, _) => match evE C r x with
        | some (z, _) => if keyOk l y then some ((look l y).getD z, 0) else none
        | none => none
      | none => none
    | _ => none
  | .index l x => match evE C r l with
    | some (.list xs, _) => match evE C r x with
      | some (y, _) => (indexv xs y).map fun (j : Nat) => (PyData.int (j : Int), 0)
      | none => none
    | _ => none
  | .isi a t => match evE C r a with
    | some (x, _) => if tyOk x then some (.bool (tyv x t), 0) else none
    | none => none
  | .rng a b => match evE C r a with
    | some (.int i, _) => match evE C r b with
      | some (.int j, _) => if rngOk i j then some (.list (rngv i j), 1) else none
      | _ => none
    | _ => none
  | .lrng a b => match evE C r a with
    | some (.int i, _) => match evE C r b with
      | some (.int j, _) => if rngOk i j && decide ((j - i).toNat ≤ line) then some (.list (rngv i j), 1) else none
      | _ => none
    | _ => none
  | .rvd a => match evE C r a with
    | some (.list xs, _) => some (.list xs.reverse, 0)
    | _ => none
  | .kys a => match evE C r a with
    | some (.dict l, _) => match kdOf l with
      | .plain => some (.list (l.map (·.1)), 0)
      | _ => none
    | _ => none
  | .lcomp tg elt it => match evE C r it with
    | some (x, _) => match itemsOf x with
      | some xs => match mapO (fun d => match setTg 0 tg d (wipeE r (tgs tg)) with
          | some r' => (evE C r' elt).map (·.1)
          | none => none) xs with
        | some l => if l.length ≤ line then some (.list l, 1) else none
        | none => none
      | none => none
    | none => none
  | .lcompIf tg elt it c => match evE C r it with
    | some (x, _) => match itemsOf x with
      | some xs => match mapO (fun d => match setTg 0 tg d (wipeE r (tgs tg)) with
          | some r' => match evE C r' c with
            | some (.bool true, _) => (evE C r' elt).map fun p => [p.1]
            | some (.bool false, _) => some []
            | _ => none
          | none => none) xs with
        | some l => if l.flatten.length ≤ line then some (.list l.flatten, 1) else none
        | none => none
      | none => none
    | none => none
  | .scomp tg elt it => match evE C r it with
    | some (x, _) => match itemsOf x with
      | some xs => match mapO (fun d => match setTg 0 tg d (wipeE r (tgs tg)) with
          | some r' => (evE C r' elt).map (·.1)
          | none => none) xs with
        | some l => (setv l).map fun d => (d, 0)
        | none => none
      | none => none
    | none => none
  | .dcomp tg k v it => match evE C r it with
    | some (x, _) => match itemsOf x with
      | some xs => match mapO (fun d => match setTg 0 tg d (wipeE r (tgs tg)) with
          | some r' => match evE C r' k with
            | some (y, _) => match evE C r' v with
              | some (z, _) => if isK y then some (y, z) else none
              | none => none
            | none => none
          | none => none) xs with
        | some l => if l.length ≤ line then some (.dict (dictOf [] l), 1) else none
        | none => none
      | none => none
    | none => none
def evEs (C : Orc) (r : Env) : List CE → Option (List (D × Nat))
  | [] => some []
  | e :: es => match evE C r e with
    | some x => match evEs C r es with
      | some l => some (x :: l)
      | none => none
    | none => none
end

/-! ### which slots an expression may keep hold of -/
mutual
def vars : CE → List Nat
  | .var i => [i]
  | .lit _ => []
  | .lst es => varsL es
  | .tup es => varsL es
  | .dict0 _ => []
  | .bin _ a b => vars a ++ vars b
  | .neg a => vars a
  | .not a => vars a
  | .cmp _ a b => vars a ++ vars b
  | .isn _ a => vars a
  | .chain _ _ a b c => vars a ++ (vars b ++ vars c)
  | .and a b => vars a ++ vars b
  | .or a b => vars a ++ vars b
  | .idx a b => vars a ++ vars b
  | .slc _ _ a lo hi => vars a ++ (vars lo ++ vars hi)
  | .rev a => vars a
  | .call _ es => varsL es
  | .blt _ es => varsL es
  | .get1 d k => vars d ++ vars k
  | .get2 d k x => vars d ++ (vars k ++ vars x)
  | .index l x => vars l ++ vars x
  | .isi a _ => vars a
  | .rng a b => vars a ++ vars b
  | .lrng a b => vars a ++ vars b
  | .rvd a => vars a
  | .kys a => vars a
  | .lcomp _ elt it => vars it ++ vars elt
  | .lcompIf _ elt it c => vars it ++ (vars elt ++ vars c)
  | .scomp _ elt it => vars it ++ vars elt
  | .dcomp _ k v it => vars it ++ (vars k ++ vars v)
def varsL : List CE → List Nat
  | [] => []
  | e :: es => vars e ++ varsL es
end
def frzI : Option Slot → Option Slot
  | some (_, d) => some (0, d)
  | none => none
def frz (vs : List Nat) (r : Env) : Env := vs.foldl (fun r i => match r[i]? with | some x => r.set i (frzI x) | none => r) r
mutual
/-- a value owned to that depth, beyond which nothing can be changed -/
def clean : Nat → D → Bool
  | m, .list l => match m with
    | 0 => false
    | m + 1 => cleans m l
  | m, .tuple l => immuts l || (match m with
    | 0 => false
    | m + 1 => cleans m l)
  | m, .dict l => match m with
    | 0 => false
    | m + 1 => cleanv m l
  | _, _ => true
def cleans : Nat → List D → Bool
  | _, [] => true
  | m, d :: l => clean m d && cleans m l
def cleanv : Nat → List (D × D) → Bool
  | _, [] => true
  | m, (_, d) :: l => clean m d && cleanv m l
end
/-- store what e gave -/
def kept (e : CE) (d : D) (m : Nat) (r : Env) : Env := if clean m d then r else frz (vars e) r
def keptL (es : List CE) (l : List (D × Nat)) (r : Env) : Env := if l.all (fun p => clean p.2 p.1) then r else frz (varsL es) r
/-- a loop over it leaves what it came from as it was -/
def loose (_e : CE) (m : Nat) (x : D) : Bool := clean m x

/-! ### what a statement does -/
inductive Out where
  | nx (r : Env)
  | rt (d : D) (m : Nat)
def updAt : List D → (D → Option D) → D → Option D
  | [], f, d => f d
  | k :: ks, f, .list xs => match k with
    | .int i => match ixZ xs.length i with
      | some j => match xs[j]? with
        | some x => (updAt ks f x).map fun y => .list (xs.set j y)
        | none => none
      | none => none
    | _ => none
  | k :: ks, f, .tuple xs => match k with
    | .int i => match ixZ xs.length i with
      | some j => match xs[j]? with
        | some x => (updAt ks f x).map fun y => .tuple (xs.set j y)
        | none => none
      | none => none
    | _ => none
  | _, _, _ => none
def nodupK : List (D × D) → Bool
  | [] => true
  | p :: r => !(r.any fun q => deq q.1 p.1) && nodupK r
def mutv (op : MOp) (ks : List D) (v d : D) : Option D :=
  match op, ks, d with
  | .append, [], .list xs => if xs.length < line then some (.list (xs ++ [v])) else none
  | .extend, [], .list xs => match v with
    | .list ys => if xs.length + ys.length ≤ line then some (.list (xs ++ ys)) else none
    | _ => none
  | .insert, [.int i], .list xs => if 0 ≤ i ∧ i ≤ xs.length ∧ xs.length < line then some (.list (xs.take i.toNat ++ v :: xs.drop i.toNat)) else none
  | .setk, [.int i], .list xs => (ixZ xs.length i).map fun j => .list (xs.set j v)
  | .setk, [k], .dict l => if keyOk l k && decide (l.length < line) && (immut v || nodupK l) then some (.dict (put l k v)) else none
  | _, _, _ => none
/-- the mode behind a store of v, k deep one's own, at that depth -/
def inMode (op : MOp) (depth m : Nat) (v : D) (k : Nat) : Nat :=
  match op with
  | .extend => match v with
    | .list l => if immuts l then m else min m (max k 1 + depth)
    | _ => 1
  | _ => if immut v then m else min m (k + depth + 1)
def popv (op : POp) (vs : List D) (d : D) : Option (D × D) :=
  match op, vs, d with
  | .last, [], .list xs => match xs[xs.length - 1]? with
    | some y => some (y, .list xs.dropLast)
    | none => none
  | .first, [.int 0], .list (y :: ys) => some (y, .list ys)
  | _, _, _ => none
def forl (f : D → Env → Option Out) : List D → Env → Option Out
  | [], r => some (.nx r)
  | x :: xs, r => match f x r with
    | some (.nx r') => forl f xs r'
    | o => o
def whl (c : Env → Option Bool) (b : Env → Option Out) : Nat → Env → Option Out
  | 0, _ => none
  | n + 1, r => match c r with
    | some true => match b r with
      | some (.nx r') => whl c b n r'
      | o => o
    | some false => some (.nx r)
    | none => none
def fuel : Nat := 1000000000000
def evT (C : Orc) (r : Env) (c : CE) : Option Bool :=
  match evE C r c with
  | some (.bool b, _) => some b
  | _ => none
def setEach : List Nat → List (D × Nat) → Env → Option Env
  | [], [], r => some r
  | i :: is, (d, m) :: l, r => setEach is l (r.set i (some (m, d)))
  | _, _, _ => none
mutual
def evS (C : Orc) (r : Env) : CS → Option Out
  | .set tg e => match evE C r e with
    | some (d, m) => (setTg m tg d (kept e d m r)).map .nx
    | none => none
  | .par is es => match evEs C r es with
    | some l => (setEach is l (keptL es l r)).map .nx
    | none => none
  | .mut i path op ks e => match evEs C r path with
    | some ps => match evEs C r ks with
      | some kl => match evE C r e with
        | some (v, k) => if immuts (kl.map (·.1)) && immuts (ps.map (·.1)) then match (kept e v k r)[i]? with
            | some (some (m, d)) => if path.length < m then match updAt (ps.map (·.1)) (mutv op (kl.map (·.1)) v) d with
                | some d' => some (.nx ((kept e v k r).set i (some (inMode op path.length m v k, d'))))
                | none => none
              else none
            | _ => none
          else none
        | none => none
      | none => none
    | none => none
  | .swp i a b e f => match evEs C r [e, f] with
    | some [(x, _), (y, _)] => if immut x && immut y then match r[i]? with
      | some (some (m, d)) => if 0 < m then match evE C r a with
          | some (k, _) => match mutv .setk [k] x d with
            | some d1 => match evE C (r.set i (some (m, d1))) b with
              | some (k2, _) => match mutv .setk [k2] y d1 with
                | some d2 => if immut k && immut k2 then some (.nx (r.set i (some (m, d2)))) else none
                | none => none
              | none => none
            | none => none
          | none => none
        else none
      | _ => none
      else none
    | _ => none
  | .pop dst i op es => match evEs C r es with
    | some l => match r[i]? with
      | some (some (m, d)) => if 0 < m then match popv op (l.map (·.1)) d with
          | some (y, d') => match dst with
            | none => some (.nx (r.set i (some (m, d'))))
            | some j => if i = j then none else some (.nx ((r.set i (some (m, d'))).set j (some (m - 1, y))))
          | none => none
        else none
      | _ => none
    | none => none
  | .ex e => match evE C r e with
    | some _ => some (.nx r)
    | none => none
  | .ite c a b => match evT C r c with
    | some true => evSs C r a
    | some false => evSs C r b
    | none => none
  | .whl c b => whl (fun r => evT C r c) (fun r => evSs C r b) fuel r
  | .for tg it b => match evE C r it with
    | some (x, m) => match itemsOf x with
      | some xs => forl (fun d r => match setTg 0 tg d r with
          | some r' => evSs C r' b
          | none => none) xs (if loose it m x then r else frz (vars it) r)
      | none => match it, x with
        | .var i, .dict l => match kdOf l with
          | .plain => forl (fun d r => match setTg 0 tg d r with
            | some r' => evSs C r' b
            | none => none) (l.map (·.1)) (frz [i] r)
          | _ => none
        | _, _ => none
    | none => none
  | .ret e => match e with
    | .var i => match r[i]? with
      | some (some (m, d)) => some (.rt d m)
      | _ => none
    | e => match evE C r e with
      | some (d, m) => some (.rt d m)
      | none => none
  | .retN => some (.rt .none 0)
def evSs (C : Orc) (r : Env) : List CS → Option Out
  | [] => some (.nx r)
  | s :: ss => match evS C r s with
    | some (.nx r') => evSs C r' ss
    | o => o
end
def start (n : Nat) (vs : List D) : Env := vs.map (fun d => some (0, d)) ++ List.replicate (n - vs.length) none
def runF (C : Orc) (f : FDef) (vs : List D) : Option (D × Nat) :=
  if vs.length = f.np then match evSs C (start f.ns vs) f.body with
    | some (.rt d m) => some (d, m)
    | some (.nx _) => some (.none, 0)
    | none => none
  else none
/-- calls to a depth -/
def callN (P : Nat → Option FDef) : Nat → Orc
  | 0 => fun _ _ => none
  | k + 1 => fun f vs => match P f with
    | some d => runF (callN P k) d vs
    | none => none
end Wc
/- part WcRep -/
namespace Wc
open PySem PySem.Spec PyProof.Rows L2

/-! ### how plain values lie in a heap -/
def kD : Key → D
  | .inl i => .int i
  | .inr x => .str x
def tkD (k : List Key) : D := .tuple (k.map kD)
def tI (k : List Int) : D := .tuple (k.map .int)
section
variable (K : PySem.W.Frag) (P : Program) (w : World)
mutual
inductive Rep (F : Hp) : V → D → Prop
  | non : Rep F .non .none
  | bl (b : Bool) : Rep F (.bl b) (.bool b)
  | int (i : Int) : Rep F (.int i) (.int i)
  | str (x : Str) : Rep F (.str x) (.str x)
  | lst {a : Addr} {xs : List V} {ds : List D} : F a = some (.lst xs) → RepAll F xs ds → Rep F (.ref a) (.list ds)
  | tup {a : Addr} {xs : List V} {ds : List D} : F a = some (.tup xs) → RepAll F xs ds → Rep F (.ref a) (.tuple ds)
  | dk {a : Addr} {kvs : List (Key × V)} {l : List (D × D)} : Rd F a (.dK kvs) → l.map (·.1) = kvs.map (fun p => kD p.1) → RepAll F (kvs.map (·.2)) (l.map (·.2)) → Rep F (.ref a) (.dict l)
  | dt {a : Addr} {kvs : List (List Key × V)} {l : List (D × D)} : Rd F a (.dT kvs) → l.map (·.1) = kvs.map (fun p => tkD p.1) → RepAll F (kvs.map (·.2)) (l.map (·.2)) → Rep F (.ref a) (.dict l)
  | scr {a : Addr} {ns : List Int} : SqL K F a (ns.map V.int) → Rep F (.ref a) (mkScr (ns.map .int))
  | seti {a : Addr} {S : Int → Bool} {ns : List Int} : F a = some (.set S ns.length) → (∀ i, S i = decide (i ∈ ns)) → ns.Nodup → Rep F (.ref a) (mkSet (ns.map .int))
  | sett {a : Addr} {L : List (Addr × List Int)} : F a = some (SetTO P w a L) → (∀ p ∈ L, F p.1 = some (.tup (p.2.map V.int))) → (L.map (·.2)).Nodup → ∀ ks : List (List Int), ks.Perm (L.map (·.2)) → Rep F (.ref a) (mkSet (ks.map tI))
inductive RepAll (F : Hp) : List V → List D → Prop
  | nil : RepAll F [] []
  | cons {v : V} {vs : List V} {d : D} {ds : List D} : Rep F v d → RepAll F vs ds → RepAll F (v :: vs) (d :: ds)
end
mutual
/-- owned to the depth m: the addresses at ft are its own -/
inductive Own (F H : Hp) : Nat → V → D → List Addr → Prop
  | sh {m : Nat} {v : V} {d : D} : Rep K P w F v d → (m = 0 ∨ immut d = true) → Own F H m v d []
  | lst {m : Nat} {a : Addr} {xs : List V} {ds : List D} {ft : List Addr} : F a = none → H a = some (.lst xs) → OwnAll F H m xs ds ft → Own F H (m + 1) (.ref a) (.list ds) (a :: ft)
  | tup {m : Nat} {a : Addr} {xs : List V} {ds : List D} {ft : List Addr} : F a = some (.tup xs) → OwnAll F H m xs ds ft → Own F H (m + 1) (.ref a) (.tuple ds) ft
  | dk {m : Nat} {a : Addr} {kvs : List (Key × V)} {l : List (D × D)} {ft : List Addr} : F a = none → H a = some (.dK kvs) → l.map (·.1) = kvs.map (fun p => kD p.1) → OwnAll F H m (kvs.map (·.2)) (l.map (·.2)) ft →
      Own F H (m + 1) (.ref a) (.dict l) (a :: ft)
  | dt {m : Nat} {a : Addr} {kvs : List (List Key × V)} {l : List (D × D)} {ft : List Addr} : F a = none → H a = some (.dT kvs) → l.map (·.1) = kvs.map (fun p => tkD p.1) → OwnAll F H m (kvs.map (·.2)) (l.map (·.2)) ft →
      Own F H (m + 1) (.ref a) (.dict l) (a :: ft)
inductive OwnAll (F H : Hp) : Nat → List V → List D → List Addr → Prop
  | nil {m : Nat} : OwnAll F H m [] [] []
  | cons {m : Nat} {v : V} {vs : List V} {d : D} {ds : List D} {f g : List Addr} : Own F H m v d f → OwnAll F H m vs ds g → OwnAll F H m (v :: vs) (d :: ds) (f ++ g)
end
end
/-- a part of a heap -/
def Sub (F H : Hp) : Prop := ∀ a o, F a = some o → H a = some o
theorem Sub.refl (F : Hp) : Sub F F := fun _ _ h => h
theorem Sub.trans {F G H : Hp} (a : Sub F G) (b : Sub G H) : Sub F H := fun c o h => b c o (a c o h)
theorem Sub.nn {F H : Hp} (s : Sub F H) {a : Addr} (h : H a = none) : F a = none := by
  cases e : F a with
  | none => rfl
  | some o => rw [s a o e] at h; cases h
theorem Sub.up {F H : Hp} (s : Sub F H) {p : Addr} {o : HO} (h : F p = none) : Sub F (upd H p o) := fun a x e => by
  rw [upd_ne (ne_of_none e h)]
  exact s a x e
theorem Sub.rd {F H : Hp} (s : Sub F H) {a : Addr} {u : HO} (h : Rd F a u) : Rd H a u := by
  rcases h with h | ⟨o, h⟩
  · exact .inl (s _ _ h)
  · exact .inr ⟨o, s _ _ h⟩
theorem Sub.sql {K : PySem.W.Frag} {F H : Hp} (s : Sub F H) {a : Addr} {xs : List V} (h : SqL K F a xs) : SqL K H a xs := by
  rcases h with h | h
  · exact .inl (s.rd h)
  · exact .inr h

section
variable {K : PySem.W.Frag} {P : Program} {w : World} {F F' H H' : Hp}
mutual
theorem Rep.mono (s : Sub F F') : ∀ {v : V} {d : D}, Rep K P w F v d → Rep K P w F' v d
  | _, _, .non => .non
  | _, _, .bl b => .bl b
  | _, _, .int i => .int i
  | _, _, .str x => .str x
  | _, _, .lst h r => .lst (s _ _ h) (RepAll.mono s r)
  | _, _, .tup h r => .tup (s _ _ h) (RepAll.mono s r)
  | _, _, .dk h e r => .dk (s.rd h) e (RepAll.mono s r)
  | _, _, .dt h e r => .dt (s.rd h) e (RepAll.mono s r)
  | _, _, .scr h => .scr (s.sql h)
  | _, _, .seti h e n => .seti (s _ _ h) e n
  | _, _, .sett h e n ks pm => .sett (s _ _ h) (fun p hp => s _ _ (e p hp)) n ks pm
theorem RepAll.mono (s : Sub F F') : ∀ {vs : List V} {ds : List D}, RepAll K P w F vs ds → RepAll K P w F' vs ds
  | _, _, .nil => .nil
  | _, _, .cons h r => .cons (Rep.mono s h) (RepAll.mono s r)
end
theorem RepAll.length : ∀ {vs : List V} {ds : List D}, RepAll K P w F vs ds → vs.length = ds.length
  | _, _, .nil => rfl
  | _, _, .cons _ r => by rw [List.length_cons, List.length_cons, RepAll.length r]
theorem RepAll.get : ∀ {vs : List V} {ds : List D} {i : Nat} {d : D}, RepAll K P w F vs ds → ds[i]? = some d → ∃ v, vs[i]? = some v ∧ Rep K P w F v d
  | _, _, _, _, .nil, e => by simp at e
  | _, _, 0, _, .cons h _, e => by simp at e; subst e; exact ⟨_, rfl, h⟩
  | _, _, i + 1, _, .cons _ r, e => by
    obtain ⟨v, h1, h2⟩ := RepAll.get (i := i) r (by simpa using e)
    exact ⟨v, by simpa using h1, h2⟩
theorem RepAll.getV : ∀ {vs : List V} {ds : List D} {i : Nat} {v : V}, RepAll K P w F vs ds → vs[i]? = some v → ∃ d, ds[i]? = some d ∧ Rep K P w F v d
  | _, _, _, _, .nil, e => by simp at e
  | _, _, 0, _, .cons h _, e => by simp at e; subst e; exact ⟨_, rfl, h⟩
  | _, _, i + 1, _, .cons _ r, e => by
    obtain ⟨v, h1, h2⟩ := RepAll.getV (i := i) r (by simpa using e)
    exact ⟨v, by simpa using h1, h2⟩
theorem RepAll.append : ∀ {vs us : List V} {ds es : List D}, RepAll K P w F vs ds → RepAll K P w F us es → RepAll K P w F (vs ++ us) (ds ++ es)
  | _, _, _, _, .nil, s => s
  | _, _, _, _, .cons h r, s => .cons h (RepAll.append r s)
theorem RepAll.take (n : Nat) : ∀ {vs : List V} {ds : List D}, RepAll K P w F vs ds → RepAll K P w F (vs.take n) (ds.take n) := by
  intro vs ds r
  induction n generalizing vs ds with
  | zero => simp; exact .nil
  | succ n ih =>
    cases r with
    | nil => simp; exact .nil
    | cons h r => simp; exact .cons h (ih r)
theorem RepAll.drop (n : Nat) : ∀ {vs : List V} {ds : List D}, RepAll K P w F vs ds → RepAll K P w F (vs.drop n) (ds.drop n) := by
  intro vs ds r
  induction n generalizing vs ds with
  | zero => simpa using r
  | succ n ih =>
    cases r with
    | nil => simp; exact .nil
    | cons h r => simpa using ih r
theorem RepAll.reverse : ∀ {vs : List V} {ds : List D}, RepAll K P w F vs ds → RepAll K P w F vs.reverse ds.reverse
  | _, _, .nil => .nil
  | _, _, .cons h r => by
    rw [List.reverse_cons, List.reverse_cons]
    exact (RepAll.reverse r).append (.cons h .nil)
theorem RepAll.set {v : V} {d : D} (h : Rep K P w F v d) : ∀ {vs : List V} {ds : List D} (i : Nat), RepAll K P w F vs ds → RepAll K P w F (vs.set i v) (ds.set i d)
  | _, _, _, .nil => .nil
  | _, _, 0, .cons _ r => .cons h r
  | _, _, i + 1, .cons g r => .cons g (RepAll.set h i r)
theorem RepAll.rep (k : Nat) {vs : List V} {ds : List D} (h : RepAll K P w F vs ds) : RepAll K P w F (List.replicate k vs).flatten (List.replicate k ds).flatten := by
  induction k with
  | zero => exact .nil
  | succ k ih => simp only [List.replicate_succ, List.flatten_cons]; exact h.append ih
theorem RepAll.ints : ∀ ns : List Int, RepAll K P w F (ns.map V.int) (ns.map .int)
  | [] => .nil
  | n :: ns => .cons (.int n) (RepAll.ints ns)
theorem RepAll.ints_inv : ∀ {ns : List Int} {ds : List D}, RepAll K P w F (ns.map V.int) ds → ds = ns.map .int
  | [], _, .nil => rfl
  | n :: ns, _, .cons h r => by cases h; rw [RepAll.ints_inv r]; rfl
theorem RepAll.of_ints : ∀ {vs : List V} {ds : List D}, RepAll K P w F vs ds → ds.all isInt = true → ∃ ns : List Int, vs = ns.map V.int ∧ ds = ns.map .int
  | _, _, .nil, _ => ⟨[], rfl, rfl⟩
  | _, _, .cons h r, e => by
    rw [List.all_cons, Bool.and_eq_true] at e
    obtain ⟨ns, e1, e2⟩ := RepAll.of_ints r e.2
    cases h with
    | int i => exact ⟨i :: ns, by rw [e1]; rfl, by rw [e2]; rfl⟩
    | _ => exact absurd e.1 (by simp [isInt, mkScr, mkSet])

theorem RepAll.own0 : ∀ {vs : List V} {ds : List D}, RepAll K P w F vs ds → OwnAll K P w F H 0 vs ds []
  | _, _, .nil => .nil
  | _, _, .cons h r => .cons (f := []) (.sh h (.inl rfl)) (RepAll.own0 r)

/-! what is frozen stays so when a dict is locked or let go -/
theorem sql_lock {d : Addr} {u o : HO} (hne : ∀ xs, u ≠ .lst xs) (hf : ∀ x y, u ≠ .frz x y) (e : F d = some u) (h : ∀ a, a ≠ d → F' a = F a) {a : Addr} {xs : List V} (s : SqL K F a xs) : SqL K F' a xs := by
  rcases s with s | s
  · refine .inl ?_
    by_cases q : a = d
    · subst q
      rcases s with s | ⟨ob, s⟩
      · rw [e] at s; cases s; exact absurd rfl (hne _)
      · rw [e] at s; cases s; exact absurd rfl (hf _ _)
    · rcases s with s | ⟨ob, s⟩
      · exact .inl (by rw [h a q]; exact s)
      · exact .inr ⟨ob, by rw [h a q]; exact s⟩
  · exact .inr s
def isDk : HO → Prop
  | .dK _ => True
  | .dT _ => True
  | _ => False
mutual
theorem Rep.relock {d : Addr} {u : HO} (hu : isDk u) (hF : ∀ a o, a ≠ d → F a = some o → F' a = some o) (h0 : ∀ v, Rd F d v → isDk v → Rd F' d v) (h1 : ∀ o, F d = some o → isDk o ∨ ∃ x v, o = .frz x v ∧ isDk v) : ∀ {v : V} {e : D}, Rep K P w F v e → Rep K P w F' v e
  | _, _, .non => .non
  | _, _, .bl b => .bl b
  | _, _, .int i => .int i
  | _, _, .str x => .str x
  | _, _, .lst (a := a) h r => .lst (hF a _ (fun q => by subst q; rcases h1 _ h with z | ⟨_, _, z, _⟩ <;> cases z) h) (RepAll.relock hu hF h0 h1 r)
  | _, _, .tup (a := a) h r => .tup (hF a _ (fun q => by subst q; rcases h1 _ h with z | ⟨_, _, z, _⟩ <;> cases z) h) (RepAll.relock hu hF h0 h1 r)
  | _, _, .dk (a := a) h e r => .dk (by
      by_cases q : a = d
      · subst q; exact h0 _ h trivial
      · rcases h with h | ⟨o, h⟩
        · exact .inl (hF a _ q h)
        · exact .inr ⟨o, hF a _ q h⟩) e (RepAll.relock hu hF h0 h1 r)
  | _, _, .dt (a := a) h e r => .dt (by
      by_cases q : a = d
      · subst q; exact h0 _ h trivial
      · rcases h with h | ⟨o, h⟩
        · exact .inl (hF a _ q h)
        · exact .inr ⟨o, hF a _ q h⟩) e (RepAll.relock hu hF h0 h1 r)
  | _, _, .scr (a := a) h => .scr (by
      rcases h with h | h
      · refine .inl ?_
        have hq : a ≠ d := fun q => by
          subst q
          rcases h with h | ⟨o, h⟩
          · rcases h1 _ h with z | ⟨_, _, z, _⟩ <;> cases z
          · rcases h1 _ h with z | ⟨_, _, z, y⟩
            · cases z
            · cases z; cases y
        rcases h with h | ⟨o, h⟩
        · exact .inl (hF a _ hq h)
        · exact .inr ⟨o, hF a _ hq h⟩
      · exact .inr h)
  | _, _, .seti (a := a) h e n => .seti (hF a _ (fun q => by subst q; rcases h1 _ h with z | ⟨_, _, z, _⟩ <;> cases z) h) e n
  | _, _, .sett (a := a) h e n ks pm => .sett (hF a _ (fun q => by subst q; rcases h1 _ h with z | ⟨_, _, z, _⟩ <;> cases z) h)
      (fun p hp => hF _ _ (fun q => by have h2 := e p hp; rw [q] at h2; rcases h1 _ h2 with z | ⟨_, _, z, _⟩ <;> cases z) (e p hp)) n ks pm
theorem RepAll.relock {d : Addr} {u : HO} (hu : isDk u) (hF : ∀ a o, a ≠ d → F a = some o → F' a = some o) (h0 : ∀ v, Rd F d v → isDk v → Rd F' d v) (h1 : ∀ o, F d = some o → isDk o ∨ ∃ x v, o = .frz x v ∧ isDk v) : ∀ {vs : List V} {es : List D}, RepAll K P w F vs es → RepAll K P w F' vs es
  | _, _, .nil => .nil
  | _, _, .cons h r => .cons (Rep.relock hu hF h0 h1 h) (RepAll.relock hu hF h0 h1 r)
end

/-! unchangeable things need tuples alone -/
mutual
theorem Rep.imm (s : ∀ a xs, F a = some (.tup xs) → F' a = some (.tup xs)) : ∀ {v : V} {d : D}, Rep K P w F v d → immut d = true → Rep K P w F' v d
  | _, _, .non, _ => .non
  | _, _, .bl b, _ => .bl b
  | _, _, .int i, _ => .int i
  | _, _, .str x, _ => .str x
  | _, _, .tup h r, e => .tup (s _ _ h) (RepAll.imm s r (by simpa [immut] using e))
  | _, _, .lst _ _, e => by simp [immut] at e
  | _, _, .dk _ _ _, e => by simp [immut] at e
  | _, _, .dt _ _ _, e => by simp [immut] at e
  | _, _, .scr _, e => by simp [immut, mkScr] at e
  | _, _, .seti _ _ _, e => by simp [immut, mkSet] at e
  | _, _, .sett _ _ _ _ _, e => by simp [immut, mkSet] at e
theorem RepAll.imm (s : ∀ a xs, F a = some (.tup xs) → F' a = some (.tup xs)) : ∀ {vs : List V} {ds : List D}, RepAll K P w F vs ds → immuts ds = true → RepAll K P w F' vs ds
  | _, _, .nil, _ => .nil
  | _, _, .cons h r, e => by
    simp only [immuts, Bool.and_eq_true] at e
    exact .cons (Rep.imm s h e.1) (RepAll.imm s r e.2)
end

/-! owned things -/
mutual
theorem Own.mono (s : Sub F F') : ∀ {m : Nat} {v : V} {d : D} {ft : List Addr}, Own K P w F H m v d ft → (∀ a ∈ ft, F' a = none ∧ ∀ o, H a = some o → H' a = some o) → Own K P w F' H' m v d ft
  | _, _, _, _, .sh h e, _ => .sh (h.mono s) e
  | _, _, _, _, .lst h1 h2 r, k => .lst (k _ List.mem_cons_self).1 ((k _ List.mem_cons_self).2 _ h2) (OwnAll.mono s r fun a ha => k a (List.mem_cons_of_mem _ ha))
  | _, _, _, _, .tup h1 r, k => .tup (s _ _ h1) (OwnAll.mono s r k)
  | _, _, _, _, .dk h1 h2 e r, k => .dk (k _ List.mem_cons_self).1 ((k _ List.mem_cons_self).2 _ h2) e (OwnAll.mono s r fun a ha => k a (List.mem_cons_of_mem _ ha))
  | _, _, _, _, .dt h1 h2 e r, k => .dt (k _ List.mem_cons_self).1 ((k _ List.mem_cons_self).2 _ h2) e (OwnAll.mono s r fun a ha => k a (List.mem_cons_of_mem _ ha))
theorem OwnAll.mono (s : Sub F F') : ∀ {m : Nat} {vs : List V} {ds : List D} {ft : List Addr}, OwnAll K P w F H m vs ds ft → (∀ a ∈ ft, F' a = none ∧ ∀ o, H a = some o → H' a = some o) → OwnAll K P w F' H' m vs ds ft
  | _, _, _, _, .nil, _ => .nil
  | _, _, _, _, .cons h r, k => .cons (Own.mono s h fun a ha => k a (List.mem_append_left _ ha)) (OwnAll.mono s r fun a ha => k a (List.mem_append_right _ ha))
end
/-- what is owned is tracked, and no tuple -/
def ownable : HO → Prop
  | .lst _ => True
  | .dK _ => True
  | .dT _ => True
  | _ => False
mutual
theorem Own.at_ : ∀ {m : Nat} {v : V} {d : D} {ft : List Addr}, Own K P w F H m v d ft → ∀ a ∈ ft, F a = none ∧ ∃ o, H a = some o ∧ ownable o
  | _, _, _, _, .sh _ _, a, h => absurd h (by simp)
  | _, _, _, _, .lst h1 h2 r, a, h => by
    rcases List.mem_cons.mp h with e | h
    · subst e; exact ⟨h1, _, h2, trivial⟩
    · exact OwnAll.at_ r a h
  | _, _, _, _, .tup h1 r, a, h => OwnAll.at_ r a h
  | _, _, _, _, .dk h1 h2 e r, a, h => by
    rcases List.mem_cons.mp h with e | h
    · subst e; exact ⟨h1, _, h2, trivial⟩
    · exact OwnAll.at_ r a h
  | _, _, _, _, .dt h1 h2 e r, a, h => by
    rcases List.mem_cons.mp h with e | h
    · subst e; exact ⟨h1, _, h2, trivial⟩
    · exact OwnAll.at_ r a h
theorem OwnAll.at_ : ∀ {m : Nat} {vs : List V} {ds : List D} {ft : List Addr}, OwnAll K P w F H m vs ds ft → ∀ a ∈ ft, F a = none ∧ ∃ o, H a = some o ∧ ownable o
  | _, _, _, _, .nil, a, h => absurd h (by simp)
  | _, _, _, _, .cons h r, a, ha => by
    rcases List.mem_append.mp ha with ha | ha
    · exact Own.at_ h a ha
    · exact OwnAll.at_ r a ha
end
mutual
/-- .. frozen -/
theorem Own.rep (s : Sub F F') : ∀ {m : Nat} {v : V} {d : D} {ft : List Addr}, Own K P w F H m v d ft → (∀ a ∈ ft, ∀ o, H a = some o → F' a = some o) → Rep K P w F' v d
  | _, _, _, _, .sh h e, _ => h.mono s
  | _, _, _, _, .lst h1 h2 r, k => .lst (k _ List.mem_cons_self _ h2) (OwnAll.rep s r fun a ha => k a (List.mem_cons_of_mem _ ha))
  | _, _, _, _, .tup h1 r, k => .tup (s _ _ h1) (OwnAll.rep s r k)
  | _, _, _, _, .dk h1 h2 e r, k => .dk (.inl (k _ List.mem_cons_self _ h2)) e (OwnAll.rep s r fun a ha => k a (List.mem_cons_of_mem _ ha))
  | _, _, _, _, .dt h1 h2 e r, k => .dt (.inl (k _ List.mem_cons_self _ h2)) e (OwnAll.rep s r fun a ha => k a (List.mem_cons_of_mem _ ha))
theorem OwnAll.rep (s : Sub F F') : ∀ {m : Nat} {vs : List V} {ds : List D} {ft : List Addr}, OwnAll K P w F H m vs ds ft → (∀ a ∈ ft, ∀ o, H a = some o → F' a = some o) → RepAll K P w F' vs ds
  | _, _, _, _, .nil, _ => .nil
  | _, _, _, _, .cons h r, k => .cons (Own.rep s h fun a ha => k a (List.mem_append_left _ ha)) (OwnAll.rep s r fun a ha => k a (List.mem_append_right _ ha))
end
mutual
/-- a clean thing, owned over a greater frozen part, is owned over the lesser one with the same tuples -/
theorem Own.clean (hT : ∀ a xs, F a = some (.tup xs) → F' a = some (.tup xs)) (hN : ∀ a, F a = none → F' a = none) : ∀ {m : Nat} {v : V} {d : D} {ft : List Addr}, Own K P w F H m v d ft → clean m d = true → Own K P w F' H m v d ft
  | m, _, d, _, .sh h e, c => by
    have hi : immut d = true := by
      rcases e with e | e
      · subst e
        cases d <;> simp_all [Wc.clean, immut]
      · exact e
    exact .sh (h.imm hT hi) (.inr hi)
  | _, _, _, _, .lst h1 h2 r, c => .lst (hN _ h1) h2 (OwnAll.clean hT hN r (by simpa [Wc.clean] using c))
  | _, _, _, _, .tup (ds := ds) h1 r, c => by
    by_cases q : immuts ds = true
    · exact .tup (hT _ _ h1) (OwnAll.cleanI hT hN r q)
    · refine .tup (hT _ _ h1) (OwnAll.clean hT hN r ?_)
      simpa [Wc.clean, q] using c
  | _, _, _, _, .dk h1 h2 e r, c => .dk (hN _ h1) h2 e (OwnAll.clean hT hN r (by rw [← cleanv_map]; simpa [Wc.clean] using c))
  | _, _, _, _, .dt h1 h2 e r, c => .dt (hN _ h1) h2 e (OwnAll.clean hT hN r (by rw [← cleanv_map]; simpa [Wc.clean] using c))
theorem OwnAll.clean (hT : ∀ a xs, F a = some (.tup xs) → F' a = some (.tup xs)) (hN : ∀ a, F a = none → F' a = none) : ∀ {m : Nat} {vs : List V} {ds : List D} {ft : List Addr}, OwnAll K P w F H m vs ds ft → cleans m ds = true → OwnAll K P w F' H m vs ds ft
  | _, _, _, _, .nil, _ => .nil
  | _, _, _, _, .cons h r, c => by
    simp only [cleans, Bool.and_eq_true] at c
    exact .cons (Own.clean hT hN h c.1) (OwnAll.clean hT hN r c.2)
theorem OwnAll.cleanI (hT : ∀ a xs, F a = some (.tup xs) → F' a = some (.tup xs)) (hN : ∀ a, F a = none → F' a = none) : ∀ {m : Nat} {vs : List V} {ds : List D} {ft : List Addr}, OwnAll K P w F H m vs ds ft → immuts ds = true → OwnAll K P w F' H m vs ds ft
  | _, _, _, _, .nil, _ => .nil
  | _, _, _, _, .cons h r, c => by
    simp only [immuts, Bool.and_eq_true] at c
    exact .cons (Own.cleanI hT hN h c.1) (OwnAll.cleanI hT hN r c.2)
theorem Own.cleanI (hT : ∀ a xs, F a = some (.tup xs) → F' a = some (.tup xs)) (hN : ∀ a, F a = none → F' a = none) : ∀ {m : Nat} {v : V} {d : D} {ft : List Addr}, Own K P w F H m v d ft → immut d = true → Own K P w F' H m v d ft
  | _, _, _, _, .sh h e, c => .sh (h.imm hT c) (.inr c)
  | _, _, _, _, .lst h1 h2 r, c => by simp [immut] at c
  | _, _, _, _, .tup h1 r, c => .tup (hT _ _ h1) (OwnAll.cleanI hT hN r (by simpa [immut] using c))
  | _, _, _, _, .dk h1 h2 e r, c => by simp [immut] at c
  | _, _, _, _, .dt h1 h2 e r, c => by simp [immut] at c
theorem cleanv_map {m : Nat} : ∀ {l : List (D × D)}, cleanv m l = cleans m (l.map (·.2))
  | [] => rfl
  | (_, d) :: l => by simp only [cleanv, List.map_cons, cleans]; rw [cleanv_map]
end
/-- F with what stands in H at ft -/
def addF (F H : Hp) (ft : List Addr) : Hp := fun a => if a ∈ ft then H a else F a
theorem addF_in {F H : Hp} {ft : List Addr} {a : Addr} (h : a ∈ ft) : addF F H ft a = H a := by unfold addF; rw [if_pos h]
theorem addF_out {F H : Hp} {ft : List Addr} {a : Addr} (h : a ∉ ft) : addF F H ft a = F a := by unfold addF; rw [if_neg h]
theorem addF_sub {F H : Hp} {ft : List Addr} (s : Sub F H) : Sub F (addF F H ft) := fun a o e => by
  by_cases q : a ∈ ft
  · rw [addF_in q]; exact s _ _ e
  · rw [addF_out q]; exact e
theorem addF_into {F H : Hp} {ft : List Addr} (s : Sub F H) : Sub (addF F H ft) H := fun a o e => by
  by_cases q : a ∈ ft
  · rw [addF_in q] at e; exact e
  · rw [addF_out q] at e; exact s _ _ e
theorem addF_nil {F H : Hp} : addF F H [] = F := by funext a; exact addF_out (by simp)

theorem addF_mono {F H : Hp} {l m : List Addr} (s : Sub F H) (h : ∀ a ∈ l, a ∈ m) : Sub (addF F H l) (addF F H m) := fun a o e => by
  by_cases q : a ∈ l
  · rw [addF_in q] at e; rw [addF_in (h a q)]; exact e
  · rw [addF_out q] at e
    by_cases z : a ∈ m
    · rw [addF_in z]; exact s _ _ e
    · rw [addF_out z]; exact e
theorem addF_none {F H : Hp} {l : List Addr} {a : Addr} (h : a ∉ l) (e : F a = none) : addF F H l a = none := by rw [addF_out h]; exact e
mutual
/-- owned less deep: the rest is frozen -/
theorem Own.weak (s : Sub F H) : ∀ {m : Nat} (m' : Nat) {v : V} {d : D} {ft : List Addr}, Own K P w F H m v d ft → m' ≤ m → ft.Nodup → ∃ ft' fz, (ft' ++ fz).Perm ft ∧ Own K P w (addF F H fz) H m' v d ft'
  | _, m', _, _, _, .sh h e, hm, _ => ⟨[], [], .refl _, .sh (h.mono (addF_sub s)) (e.imp (fun e => by omega) id)⟩
  | _, 0, _, _, _, .lst (a := a) (ft := fs) h1 h2 r, hm, nd => ⟨[], a :: fs, .refl _, .sh (Own.rep (addF_sub s) (.lst h1 h2 r) fun b hb o e => by rw [addF_in hb]; exact e) (.inl rfl)⟩
  | _, 0, _, _, _, .dk (a := a) (ft := fs) h1 h2 e r, hm, nd => ⟨[], a :: fs, .refl _, .sh (Own.rep (addF_sub s) (.dk h1 h2 e r) fun b hb o e => by rw [addF_in hb]; exact e) (.inl rfl)⟩
  | _, 0, _, _, _, .dt (a := a) (ft := fs) h1 h2 e r, hm, nd => ⟨[], a :: fs, .refl _, .sh (Own.rep (addF_sub s) (.dt h1 h2 e r) fun b hb o e => by rw [addF_in hb]; exact e) (.inl rfl)⟩
  | _, 0, _, _, _, .tup (ft := fs) h1 r, hm, nd => ⟨[], fs, .refl _, .sh (Own.rep (addF_sub s) (.tup h1 r) fun b hb o e => by rw [addF_in hb]; exact e) (.inl rfl)⟩
  | _, m' + 1, _, _, _, .lst (a := a) h1 h2 r, hm, nd => by
    obtain ⟨n1, n2⟩ := List.nodup_cons.mp nd
    obtain ⟨f', fz, p, o⟩ := OwnAll.weak s m' r (by omega) n2
    refine ⟨a :: f', fz, p.cons a, .lst (addF_none (fun z => n1 (p.mem_iff.mp (List.mem_append_right _ z))) h1) h2 o⟩
  | _, m' + 1, _, _, _, .tup h1 r, hm, nd => by
    obtain ⟨f', fz, p, o⟩ := OwnAll.weak s m' r (by omega) nd
    exact ⟨f', fz, p, .tup (addF_sub s _ _ h1) o⟩
  | _, m' + 1, _, _, _, .dk (a := a) h1 h2 e r, hm, nd => by
    obtain ⟨n1, n2⟩ := List.nodup_cons.mp nd
    obtain ⟨f', fz, p, o⟩ := OwnAll.weak s m' r (by omega) n2
    refine ⟨a :: f', fz, p.cons a, .dk (addF_none (fun z => n1 (p.mem_iff.mp (List.mem_append_right _ z))) h1) h2 e o⟩
  | _, m' + 1, _, _, _, .dt (a := a) h1 h2 e r, hm, nd => by
    obtain ⟨n1, n2⟩ := List.nodup_cons.mp nd
    obtain ⟨f', fz, p, o⟩ := OwnAll.weak s m' r (by omega) n2
    refine ⟨a :: f', fz, p.cons a, .dt (addF_none (fun z => n1 (p.mem_iff.mp (List.mem_append_right _ z))) h1) h2 e o⟩
theorem OwnAll.weak (s : Sub F H) : ∀ {m : Nat} (m' : Nat) {vs : List V} {ds : List D} {ft : List Addr}, OwnAll K P w F H m vs ds ft → m' ≤ m → ft.Nodup → ∃ ft' fz, (ft' ++ fz).Perm ft ∧ OwnAll K P w (addF F H fz) H m' vs ds ft'
  | _, _, _, _, _, .nil, _, _ => ⟨[], [], .refl _, .nil⟩
  | _, m', _, _, _, .cons (f := f) (g := g) h r, hm, nd => by
    obtain ⟨n1, n2, n3⟩ := List.nodup_append.mp nd
    obtain ⟨f', fz, p, o⟩ := Own.weak s m' h hm n1
    obtain ⟨g', gz, q, t⟩ := OwnAll.weak s m' r hm n2
    have aF : ∀ a ∈ f, F a = none := fun a ha => (Own.at_ h a ha).1
    have aG : ∀ a ∈ g, F a = none := fun a ha => (OwnAll.at_ r a ha).1
    have p1 : ∀ a, a ∈ f' → a ∈ f := fun a ha => p.mem_iff.mp (List.mem_append_left _ ha)
    have p2 : ∀ a, a ∈ fz → a ∈ f := fun a ha => p.mem_iff.mp (List.mem_append_right _ ha)
    have q1 : ∀ a, a ∈ g' → a ∈ g := fun a ha => q.mem_iff.mp (List.mem_append_left _ ha)
    have q2 : ∀ a, a ∈ gz → a ∈ g := fun a ha => q.mem_iff.mp (List.mem_append_right _ ha)
    have d1 := (List.nodup_append.mp (p.nodup_iff.mpr n1)).2.2
    have d2 := (List.nodup_append.mp (q.nodup_iff.mpr n2)).2.2
    refine ⟨f' ++ g', fz ++ gz, ?_, .cons (Own.mono (addF_mono s fun a ha => List.mem_append_left _ ha) o fun a ha => ⟨addF_none (fun z => ?_) (aF a (p1 a ha)), fun _ e => e⟩)
      (OwnAll.mono (addF_mono s fun a ha => List.mem_append_right _ ha) t fun a ha => ⟨addF_none (fun z => ?_) (aG a (q1 a ha)), fun _ e => e⟩)⟩
    · have e1 : (f' ++ g' ++ (fz ++ gz)).Perm (f' ++ fz ++ (g' ++ gz)) := by
        rw [List.append_assoc, List.append_assoc]
        refine List.Perm.append_left f' ?_
        rw [← List.append_assoc, ← List.append_assoc]
        exact List.Perm.append_right gz (List.perm_append_comm)
      exact e1.trans (p.append q)
    · rcases List.mem_append.mp z with z | z
      · exact d1 a ha a z rfl
      · exact n3 a (p1 a ha) a (q2 a z) rfl
    · rcases List.mem_append.mp z with z | z
      · exact n3 a (p2 a z) a (q1 a ha) rfl
      · exact d2 a ha a z rfl
end
end
end Wc
/- part WcE1 -/
namespace Wc
open PySem PySem.Spec PyProof.Rows L2

/-- what grew: the frozen part F within H becomes F' within H' -/
structure Grow (F H F' H' : Hp) : Prop where
  sub : Sub F F'
  same : Sub H H'
  into : Sub F' H'
  new : ∀ a, F' a ≠ none → F a ≠ none ∨ H a = none ∨ ∃ xs, H a = some (.tup xs)
theorem Grow.refl {F H : Hp} (s : Sub F H) : Grow F H F H := ⟨.refl _, .refl _, s, fun _ h => .inl h⟩
theorem Grow.trans {F H F1 H1 F2 H2 : Hp} (a : Grow F H F1 H1) (b : Grow F1 H1 F2 H2) : Grow F H F2 H2 where
  sub := a.sub.trans b.sub
  same := a.same.trans b.same
  into := b.into
  new := fun c h => by
    rcases b.new c h with h | h | ⟨xs, h⟩
    · exact a.new c h
    · refine .inr (.inl ?_)
      cases q : H c with
      | none => rfl
      | some o => rw [a.same c o q] at h; cases h
    · cases q : H c with
      | none => exact .inr (.inl rfl)
      | some o =>
        rw [a.same c o q] at h
        cases h
        exact .inr (.inr ⟨xs, rfl⟩)
/-- a new object, frozen -/
theorem Grow.newF {F H : Hp} (s : Sub F H) {p : Addr} {o : HO} (h : H p = none) : Grow F H (upd F p o) (upd H p o) where
  sub := Sub.up (Sub.refl F) (s.nn h)
  same := Sub.up (Sub.refl H) h
  into := fun a x e => by
    by_cases q : a = p
    · subst q; rw [upd_same] at e; cases e; exact upd_same
    · rw [upd_ne q] at e; rw [upd_ne q]; exact s a x e
  new := fun a e => by
    by_cases q : a = p
    · subst q; exact .inr (.inl h)
    · rw [upd_ne q] at e; exact .inl e
/-- a new object, not frozen -/
theorem Grow.newH {F H : Hp} (s : Sub F H) {p : Addr} {o : HO} (h : H p = none) : Grow F H F (upd H p o) where
  sub := .refl _
  same := Sub.up (Sub.refl H) h
  into := s.trans (Sub.up (Sub.refl H) h)
  new := fun a e => .inl e
/-- a tuple of the heap, frozen -/
theorem Grow.tupF {F H : Hp} (s : Sub F H) {p : Addr} {xs : List V} (h : H p = some (.tup xs)) : Grow F H (upd F p (.tup xs)) H where
  sub := fun a o e => by
    by_cases q : a = p
    · subst q; rw [s _ _ e] at h; cases h; exact upd_same
    · rw [upd_ne q]; exact e
  same := .refl _
  into := fun a x e => by
    by_cases q : a = p
    · subst q; rw [upd_same] at e; cases e; exact h
    · rw [upd_ne q] at e; exact s a x e
  new := fun a e => by
    by_cases q : a = p
    · subst q; exact .inr (.inr ⟨xs, h⟩)
    · rw [upd_ne q] at e; exact .inl e

theorem Grow.addF {F H F' H' : Hp} {ft : List Addr} (g : Grow F H F' H') (hn : ∀ a ∈ ft, H a = none) : Grow F H (addF F' H' ft) H' where
  sub := g.sub.trans (addF_sub g.into)
  same := g.same
  into := addF_into g.into
  new := fun a e => by
    by_cases q : a ∈ ft
    · exact .inr (.inl (hn a q))
    · rw [addF_out q] at e; exact g.new a e

section
variable (K : PySem.W.Frag) (P : Program) (w : World)
structure EnvR (F : Hp) (σ : L2.St) (r : Env) : Prop where
  len : σ.length = r.length
  get : ∀ i d, getv r i = some d → ∃ v, σ[i]? = some (some v) ∧ Rep K P w F v d
/-- what is wanted of every value that stands for d, owned to the depth m -/
def Res (F H : Hp) (d : D) (m : Nat) (Q : VK) : Prop := ∀ v H' F' ft, Grow F H F' H' → Own K P w F' H' m v d ft → (∀ a ∈ ft, H a = none) → ft.Nodup → Q v H'
def tEv (C : Orc) (c : CE) : TE := fun σ H Q => ∃ F r d m, Sub F H ∧ EnvR K P w F σ r ∧ evE C r c = some (d, m) ∧ Res K P w F H d m Q
def tTs (C : Orc) (c : CE) : TT := fun σ H Q => ∃ F r b m, Sub F H ∧ EnvR K P w F σ r ∧ evE C r c = some (.bool b, m) ∧ ∀ H' F', Grow F H F' H' → Q b H'
end
section
variable {K : PySem.W.Frag} {P : Program} {w : World} {F H F' H' : Hp} {σ : L2.St} {r : Env} {C : Orc} {c a b : CE} {Q : VK} {d x y : D} {m m' : Nat}
theorem EnvR.mono (s : Sub F F') (e : EnvR K P w F σ r) : EnvR K P w F' σ r := ⟨e.len, fun i d h => by
  obtain ⟨v, h1, h2⟩ := e.get i d h
  exact ⟨v, h1, h2.mono s⟩⟩
/-- with the value frozen -/
theorem use (s : Sub F H) (e : EnvR K P w F σ r) (h : evE C r c = some (d, m)) (q : ∀ v H' F', Grow F H F' H' → Rep K P w F' v d → Q v H') : tEv K P w C c σ H Q :=
  ⟨F, r, d, m, s, e, h, fun v H' F' ft g o hn nd => q v H' (addF F' H' ft) (g.addF hn) (o.rep (addF_sub g.into) fun a ha ob e => by rw [addF_in ha]; exact e)⟩
theorem use2 (s : Sub F H) (e : EnvR K P w F σ r) (h1 : evE C r a = some (x, m)) (h2 : evE C r b = some (y, m')) {R : V → V → Hp → Prop}
    (q : ∀ u v H' F', Grow F H F' H' → Rep K P w F' u x → Rep K P w F' v y → R u v H') : tEv K P w C a σ H fun u H1 => tEv K P w C b σ H1 fun v H2 => R u v H2 :=
  use s e h1 fun u H1 F1 g1 r1 => use g1.into (e.mono g1.sub) h2 fun v H2 F2 g2 r2 => q u v H2 F2 (g1.trans g2) (r1.mono g2.sub) r2
theorem Res.sh (q : Res K P w F H d m Q) {v : V} (g : Grow F H F' H') (h : Rep K P w F' v d) (hm : m = 0 ∨ immut d = true) : Q v H' := q v H' F' [] g (.sh h hm) (fun _ h => absurd h (by simp)) List.nodup_nil
theorem Res.int {i : Int} (q : Res K P w F H (.int i) m Q) (g : Grow F H F' H') : Q (.int i) H' := q.sh g (.int i) (.inr rfl)
theorem Res.bl {i : Bool} (q : Res K P w F H (.bool i) m Q) (g : Grow F H F' H') : Q (.bl i) H' := q.sh g (.bl i) (.inr rfl)
/-- a new list -/
theorem Res.newL {ds : List D} {xs : List V} (q : Res K P w F H (.list ds) 1 Q) (g : Grow F H F' H') (h : RepAll K P w F' xs ds) {p : Addr} (hp : H' p = none) : Q (.ref p) (upd H' p (.lst xs)) := by
  refine q _ _ F' [p] (g.trans (Grow.newH g.into hp)) (.lst (g.into.nn hp) upd_same h.own0) (fun a ha => ?_) (by simp)
  have e : a = p := by simpa using ha
  subst e
  cases z : H a with
  | none => rfl
  | some o => rw [g.same a o z] at hp; cases hp
end
end Wc
/- part WcE2 -/
namespace Wc
open PySem PySem.Spec PyProof.Rows L2
section
variable {K : PySem.W.Frag} {P : Program} {w : World} {F F' H H' : Hp}
mutual
theorem Rep.dp (s : Sub F H) : ∀ {v : V} {d : D}, Rep K P w F v d → d.canLay0 = true → Dp K H v d
  | _, _, .non, _ => .non
  | _, _, .bl b, _ => .bl b
  | _, _, .int i, _ => .int i
  | _, _, .str x, _ => .str x
  | _, _, .lst h r, e => .lst (.of (s _ _ h)) (RepAll.dp s r (by simpa [PyData.canLay0] using e))
  | _, _, .tup h r, e => .tup (.of (s _ _ h)) (RepAll.dp s r (by simpa [PyData.canLay0] using e))
  | _, _, .dk _ _ _, e => by simp [PyData.canLay0] at e
  | _, _, .dt _ _ _, e => by simp [PyData.canLay0] at e
  | _, _, .scr _, e => by simp [PyData.canLay0, mkScr] at e
  | _, _, .seti _ _ _, e => by simp [PyData.canLay0, mkSet] at e
  | _, _, .sett _ _ _ _ _, e => by simp [PyData.canLay0, mkSet] at e
theorem RepAll.dp (s : Sub F H) : ∀ {vs : List V} {ds : List D}, RepAll K P w F vs ds → PyData.canLayAll0 ds = true → DpAll K H vs ds
  | _, _, .nil, _ => .nil
  | _, _, .cons h r, e => by
    simp only [PyData.canLayAll0, Bool.and_eq_true] at e
    exact .cons (Rep.dp s h e.1) (RepAll.dp s r e.2)
end
theorem Rep.int_inv {v : V} {i : Int} (h : Rep K P w F v (.int i)) : v = .int i := by cases h; rfl
theorem Rep.bl_inv {v : V} {i : Bool} (h : Rep K P w F v (.bool i)) : v = .bl i := by cases h; rfl
theorem Rep.str_inv {v : V} {i : Str} (h : Rep K P w F v (.str i)) : v = .str i := by cases h; rfl
theorem Rep.non_inv {v : V} (h : Rep K P w F v .none) : v = .non := by cases h; rfl
theorem Rep.lst_inv {v : V} {ds : List D} (h : Rep K P w F v (.list ds)) : ∃ a xs, v = .ref a ∧ F a = some (.lst xs) ∧ RepAll K P w F xs ds := by cases h; exact ⟨_, _, rfl, by assumption, by assumption⟩
theorem Rep.tup_inv {v : V} {ds : List D} (h : Rep K P w F v (.tuple ds)) : ∃ a xs, v = .ref a ∧ F a = some (.tup xs) ∧ RepAll K P w F xs ds := by cases h; exact ⟨_, _, rfl, by assumption, by assumption⟩
end

/-! ### keys -/
section
variable {K : PySem.W.Frag} {P : Program} {w : World} {F F' H H' : Hp}
theorem rep_isK {v : V} {d : D} (h : Rep K P w F v d) (e : isK d = true) : ∃ k : Key, v = kV k ∧ d = kD k := by
  cases d with
  | int i => exact ⟨.inl i, h.int_inv, rfl⟩
  | str x => exact ⟨.inr x, h.str_inv, rfl⟩
  | _ => simp [isK] at e
theorem reps_isK : ∀ {vs : List V} {ds : List D}, RepAll K P w F vs ds → ds.all isK = true → ∃ ks : List Key, vs = ks.map kV ∧ ds = ks.map kD
  | _, _, .nil, _ => ⟨[], rfl, rfl⟩
  | _, _, .cons h r, e => by
    rw [List.all_cons, Bool.and_eq_true] at e
    obtain ⟨k, e1, e2⟩ := rep_isK h e.1
    obtain ⟨ks, e3, e4⟩ := reps_isK r e.2
    exact ⟨k :: ks, by rw [e1, e3]; rfl, by rw [e2, e4]; rfl⟩
theorem rep_isTK {v : V} {d : D} (h : Rep K P w F v d) (e : isTK d = true) : ∃ (b : Addr) (k : List Key), v = .ref b ∧ F b = some (.tup (k.map kV)) ∧ d = tkD k := by
  cases d with
  | tuple ds =>
    obtain ⟨a, xs, rfl, h1, h2⟩ := h.tup_inv
    obtain ⟨ks, rfl, rfl⟩ := reps_isK h2 (by simpa [isTK] using e)
    exact ⟨a, ks, rfl, h1, rfl⟩
  | _ => simp [isTK] at e
theorem kD_inj {a b : Key} : deq (kD a) (kD b) = decide (a = b) := by
  cases a with
  | inl i => cases b with
    | inl j => simp [kD, deq]
    | inr y => simp [kD, deq]
  | inr x => cases b with
    | inl j => simp [kD, deq]
    | inr y => simp [kD, deq]
theorem kDs_inj : ∀ {a b : List Key}, deqs (a.map kD) (b.map kD) = decide (a = b)
  | [], [] => by simp [deqs]
  | [], _ :: _ => by simp [deqs]
  | _ :: _, [] => by simp [deqs]
  | x :: a, y :: b => by
    simp only [List.map_cons, deqs, kD_inj, kDs_inj (a := a) (b := b)]
    by_cases h : x = y <;> simp [h]
theorem tkD_inj {a b : List Key} : deq (tkD a) (tkD b) = decide (a = b) := by
  unfold tkD
  simp only [deq]
  exact kDs_inj
theorem kD_isK (k : Key) : isK (kD k) = true := by cases k <;> rfl
theorem tkD_isTK (k : List Key) : isTK (tkD k) = true := by
  simp only [isTK, tkD, List.all_map, List.all_eq_true]
  intro x _
  exact kD_isK x
theorem isTK_K (k : List Key) : isK (tkD k) = false := rfl
theorem isK_TK (k : Key) : isTK (kD k) = false := by cases k <;> rfl

/-- a list of pairs against a dict of the heap -/
theorem look_of {κ : Type} [DecidableEq κ] {f : κ → D} (hf : ∀ a b, deq (f a) (f b) = decide (a = b)) (k : κ) : ∀ {kvs : List (κ × V)} {l : List (D × D)}, l.map (·.1) = kvs.map (fun p => f p.1) → RepAll K P w F (kvs.map (·.2)) (l.map (·.2)) →
    (∀ v, valV kvs k = some v → ∃ d, look l (f k) = some d ∧ Rep K P w F v d) ∧ (valV kvs k = none → look l (f k) = none)
  | [], [], _, _ => ⟨fun v h => by simp [valV] at h, fun _ => rfl⟩
  | [], _ :: _, e, _ => by simp at e
  | _ :: _, [], e, _ => by simp at e
  | p :: kvs, q :: l, e, r => by
    simp only [List.map_cons, List.cons.injEq] at e
    obtain ⟨e1, e2⟩ := e
    cases r with
    | cons h r =>
      have ih := look_of hf k e2 r
      have c : deq q.1 (f k) = decide (p.1 = k) := by rw [e1]; exact hf _ _
      by_cases hk : p.1 = k
      · refine ⟨fun v hv => ?_, fun hv => ?_⟩
        · rw [valV_pos hk] at hv
          cases hv
          exact ⟨q.2, by simp [look, List.find?_cons, c, hk], h⟩
        · rw [valV_pos hk] at hv; cases hv
      · have c' : look (q :: l) (f k) = look l (f k) := by simp [look, List.find?_cons, c, hk]
        rw [c', valV_neg hk]
        exact ih
theorem any_of {κ : Type} [DecidableEq κ] {f : κ → D} (hf : ∀ a b, deq (f a) (f b) = decide (a = b)) (k : κ) : ∀ {kvs : List (κ × V)} {l : List (D × D)}, l.map (·.1) = kvs.map (fun p => f p.1) →
    (l.any fun p => deq p.1 (f k)) = (kvs.any fun kv => decide (kv.1 = k))
  | [], [], _ => rfl
  | [], _ :: _, e => by simp at e
  | _ :: _, [], e => by simp at e
  | p :: kvs, q :: l, e => by
    simp only [List.map_cons, List.cons.injEq] at e
    rw [List.any_cons, List.any_cons, any_of hf k e.2, e.1, hf]
end
end Wc
/- part WcE3 -/
namespace Wc
open PySem PySem.Spec PyProof.Rows L2
/-! ### dicts: the empty one is of both kinds -/
def DGet2 (H : Hp) (a : Addr) (y : V) (r : Option V) : Prop :=
  DGet H a y r ∨ (Rd H a (.dK []) ∧ r = none ∧ ∃ (b : Addr) (k : List Key), y = .ref b ∧ H b = some (.tup (k.map kV))) ∨ (Rd H a (.dT []) ∧ r = none ∧ ∃ k : Key, y = kV k)
section
variable {X : Cx} {pins : List (Addr × Obj)} {σ : L2.St} {H : Hp} {s : Shared} {a : Addr} {y v d : V} {u r : Value} {o : Option V} {A : Around} {E : Value → Shared → Prop}
theorem empty_K (I : L2.Inv X pins σ H s) (e : Rd H a (.dK [])) : (a == sysModules) = false ∧ s.heap.DictOfH (tupleKind (mixKind X.prog X.w)) a [] := by
  obtain ⟨z, hd, vs, rel, ob, es, ep, h1, h2, h3, h4, h5, h6⟩ := dk_rd I.hok e
  cases rel
  have h7 : es.toList = [] := by
    cases q : es.toList with
    | nil => rfl
    | cons x xs => rw [q] at h5; cases h5
  exact ⟨hd, ob, es, ep, h1, h2, h3, by rw [h7]; rfl, fun x hx => absurd hx (by simp), List.nodup_nil⟩
theorem empty_T (I : L2.Inv X pins σ H s) (e : Rd H a (.dT [])) : (a == sysModules) = false ∧ s.heap.DictOf (mixKind X.prog X.w) a [] := by
  obtain ⟨z, hd, xs, rel, ob, es, ep, h1, h2, h3, h4, _, _⟩ := dt_rd I.hok e
  cases rel
  have h5 : es = #[] := by
    cases es with
    | mk l => simp at h4; subst h4; rfl
  subst h5
  exact ⟨hd, ob, #[], ep, h1, h2, h3, fun x hx => absurd hx (by simp), .nil, List.nodup_nil⟩
theorem d_in2 {Q : Value → Shared → Prop} (hu : A.units + 1 < cLine) (I : L2.Inv X pins σ H s) (g : DGet2 H a y o) (ry : RelV y u) (h : ∀ s', L2.Inv X pins σ H s' → Q (.bool o.isSome) s') :
    wpAny (model X.prog X.w) A (compareOp .In u (.ref a)) Q E s := by
  rcases g with g | ⟨e, rfl, b, k, rfl, eb⟩ | ⟨e, rfl, k, rfl⟩
  · exact d_in hu I g ry h
  · cases (show u = Value.ref b from ry)
    obtain ⟨hd, dd⟩ := empty_K I e
    exact wpAny_in_heap (tupleKind_room_in1 hu) (key_of I.hok eb) hd dd (h _ (I.tok _))
  · obtain ⟨hd, dd⟩ := empty_T I e
    exact wpAny_in_of (kV_is ry) hd dd.mapOf (h _ (I.tok _))
theorem d_notIn2 {Q : Value → Shared → Prop} (hu : A.units + 1 < cLine) (I : L2.Inv X pins σ H s) (g : DGet2 H a y o) (ry : RelV y u) (h : ∀ s', L2.Inv X pins σ H s' → Q (.bool (!o.isSome)) s') :
    wpAny (model X.prog X.w) A (compareOp .NotIn u (.ref a)) Q E s := by
  rcases g with g | ⟨e, rfl, b, k, rfl, eb⟩ | ⟨e, rfl, k, rfl⟩
  · exact d_notIn hu I g ry h
  · cases (show u = Value.ref b from ry)
    obtain ⟨hd, dd⟩ := empty_K I e
    exact wpAny_notIn_heap (tupleKind_room_in1 hu) (key_of I.hok eb) hd dd (h _ (I.tok _))
  · obtain ⟨hd, dd⟩ := empty_T I e
    exact wpAny_notIn_of (kV_is ry) hd dd.mapOf (h _ (I.tok _))
theorem d_get12 {Q : Value → Shared → Prop} (hu : A.units + 1 < cLine) (I : L2.Inv X pins σ H s) (g : DGet2 H a y o) (ry : RelV y u) (h : ∀ w' s', L2.Inv X pins σ H s' → RelV (o.getD .non) w' → Q w' s') :
    wpAny (model X.prog X.w) A (call (.builtin "dict.get") [.ref a, u]) Q E s := by
  rcases g with g | ⟨e, rfl, b, k, rfl, eb⟩ | ⟨e, rfl, k, rfl⟩
  · exact d_get1 hu I g ry h
  · cases (show u = Value.ref b from ry)
    obtain ⟨hd, dd⟩ := empty_K I e
    exact call_meetsIn PySem.F.slot_dict_get dd.typeIs PySem.F.entry_dict_get (PySem.F.args_dict_get_2 _ _) (meetsH_dict_get (tupleKind (mixKind X.prog X.w)) a b hd) ⟨tupleKind_room_in1 hu, k, [], key_of I.hok eb, dd, h _ _ (I.tok _) rfl⟩
  · obtain ⟨hd, dd⟩ := empty_T I e
    exact call_meetsIn PySem.F.slot_dict_get dd.typeIs PySem.F.entry_dict_get (PySem.F.args_dict_get_2 _ _) (meets_dict_get (mixKind X.prog X.w) a (kV_is ry) hd) ⟨_, dd.mapOf, h _ _ (I.tok _) rfl⟩
theorem d_get22 {Q : Value → Shared → Prop} (hu : A.units + 1 < cLine) (I : L2.Inv X pins σ H s) (g : DGet2 H a y o) (ry : RelV y u) (rd : RelV d r) (h : ∀ w' s', L2.Inv X pins σ H s' → RelV (o.getD d) w' → Q w' s') :
    wpAny (model X.prog X.w) A (call (.builtin "dict.get") [.ref a, u, r]) Q E s := by
  rcases g with g | ⟨e, rfl, b, k, rfl, eb⟩ | ⟨e, rfl, k, rfl⟩
  · exact d_get2 hu I g ry rd h
  · cases (show u = Value.ref b from ry)
    obtain ⟨hd, dd⟩ := empty_K I e
    exact call_meetsIn PySem.F.slot_dict_get dd.typeIs PySem.F.entry_dict_get (PySem.F.args_dict_get_3 _ _ _) (meetsH_dict_get_default (tupleKind (mixKind X.prog X.w)) a b hd r) ⟨tupleKind_room_in1 hu, k, [], key_of I.hok eb, dd, h _ _ (I.tok _) rd⟩
  · obtain ⟨hd, dd⟩ := empty_T I e
    exact call_meetsIn PySem.F.slot_dict_get dd.typeIs PySem.F.entry_dict_get (PySem.F.args_dict_get_3 _ _ _) (meets_dict_get_default (mixKind X.prog X.w) a (kV_is ry) hd r) ⟨_, dd.mapOf, h _ _ (I.tok _) rd⟩
/-- the kinds of the empty dict may be exchanged -/
theorem inv_KT (I : L2.Inv X pins σ H s) (e : H a = some (.dK [])) : L2.Inv X pins σ (upd H a (.dT [])) s := by
  obtain ⟨hd, ob, es, ep, h1, h2, h3, h4, _, _⟩ := empty_K I (.inl e)
  exact I.write (x := a) (e := a) (h' := s.heap) (t' := s.toks) (by rw [e]; trivial) (.inl rfl) (fun b q _ z => z) ⟨ob, h1⟩ ⟨Nat.zero_le _, hd, [], .nil, ob, es, ep, h1, h2, h3, h4, List.nodup_nil⟩
theorem inv_TK (I : L2.Inv X pins σ H s) (e : H a = some (.dT [])) : L2.Inv X pins σ (upd H a (.dK [])) s := by
  obtain ⟨hd, ob, es, ep, h1, h2⟩ := empty_T I (.inl e)
  exact I.write (x := a) (e := a) (h' := s.heap) (t' := s.toks) (by rw [e]; trivial) (.inl rfl) (fun b q _ z => z) ⟨ob, h1⟩ ⟨Nat.zero_le _, hd, [], .nil, ob, es, ep, h1, h2⟩
def DPut2 (H : Hp) (a : Addr) (y v : V) (H' : Hp) : Prop :=
  DPut H a y v H' ∨ (H a = some (.dK []) ∧ ∃ (b : Addr) (k : List Key), y = .ref b ∧ H b = some (.tup (k.map kV)) ∧ H' = upd H a (.dT [(k, v)])) ∨ (H a = some (.dT []) ∧ ∃ k : Key, y = kV k ∧ H' = upd H a (.dK [(k, v)]))
theorem d_setItem2 {H' : Hp} {Q : Unit → Shared → Prop} (hu : A.units + 1 < cLine) (I : L2.Inv X pins σ H s) (g : DPut2 H a y v H') (ry : RelV y u) (rv : RelV v r) (h : ∀ s', L2.Inv X pins σ H' s' → Q () s') :
    wpAny (model X.prog X.w) A (setItem (.ref a) u r) Q E s := by
  rcases g with g | ⟨e, b, k, rfl, eb, rfl⟩ | ⟨e, k, rfl, rfl⟩
  · exact d_setItem hu I g ry rv h
  · refine d_setItem hu (inv_KT I e) (.inr ⟨[], k, b, upd_same, rfl, ?_, by rw [sizeLine_eq]; decide, rfl⟩) ry rv fun s' I' => h s' ?_
    · rw [upd_ne (ne_of eb e (fun z => nomatch z))]; exact eb
    · rw [upd_upd] at I'; exact I'
  · refine d_setItem hu (inv_TK I e) (.inl ⟨[], k, upd_same, rfl, by rw [sizeLine_eq]; decide, rfl⟩) ry rv fun s' I' => h s' ?_
    rw [upd_upd] at I'; exact I'
end

/-! ### a dict of the heap against its pairs -/
section
variable {K : PySem.W.Frag} {P : Program} {w : World} {F F' H H' : Hp}
theorem kdOf_of_isK {l : List (D × D)} (h : l.all (fun p => isK p.1) = true) : kdOf l = .plain := by
  cases l with
  | nil => rfl
  | cons p l =>
    obtain ⟨k, v⟩ := p
    cases k <;> first | rfl | (simp [isK] at h)
theorem rep_dict {v : V} {l : List (D × D)} (h : Rep K P w F v (.dict l)) (hk : kdOf l = .plain) : ∃ a, v = .ref a ∧
    ((∃ kvs : List (Key × V), Rd F a (.dK kvs) ∧ l.map (·.1) = kvs.map (fun p => kD p.1) ∧ RepAll K P w F (kvs.map (·.2)) (l.map (·.2))) ∨
     (∃ kvs : List (List Key × V), Rd F a (.dT kvs) ∧ l.map (·.1) = kvs.map (fun p => tkD p.1) ∧ RepAll K P w F (kvs.map (·.2)) (l.map (·.2)))) := by
  generalize hd : PyData.dict l = d at h
  cases h with
  | dk h1 h2 h3 => cases hd; exact ⟨_, rfl, .inl ⟨_, h1, h2, h3⟩⟩
  | dt h1 h2 h3 => cases hd; exact ⟨_, rfl, .inr ⟨_, h1, h2, h3⟩⟩
  | scr h => cases hd; simp [kdOf] at hk
  | seti h1 h2 h3 => cases hd; simp [kdOf] at hk
  | sett h1 h2 h3 ks pm => cases hd; simp [kdOf] at hk
  | _ => cases hd
theorem map_nil_of {α β γ : Type} {f : α → γ} {g : β → γ} {l : List α} {m : List β} (h : l.map f = m.map g) (e : l = []) : m = [] := by subst e; cases m with | nil => rfl | cons => simp at h
theorem allK_of {kvs : List (Key × V)} {l : List (D × D)} (e : l.map (·.1) = kvs.map (fun p => kD p.1)) : ∀ p ∈ l, isTK p.1 = false := by
  intro p hp
  have : p.1 ∈ kvs.map (fun p => kD p.1) := by rw [← e]; exact List.mem_map.mpr ⟨p, hp, rfl⟩
  obtain ⟨q, _, hq⟩ := List.mem_map.mp this
  rw [← hq]; exact isK_TK _
theorem allT_of {kvs : List (List Key × V)} {l : List (D × D)} (e : l.map (·.1) = kvs.map (fun p => tkD p.1)) : ∀ p ∈ l, isK p.1 = false := by
  intro p hp
  have : p.1 ∈ kvs.map (fun p => tkD p.1) := by rw [← e]; exact List.mem_map.mpr ⟨p, hp, rfl⟩
  obtain ⟨q, _, hq⟩ := List.mem_map.mp this
  rw [← hq]; rfl
theorem nil_of_all {l : List (D × D)} {f : D → Bool} (h : l.all (fun p => f p.1) = true) (n : ∀ p ∈ l, f p.1 = false) : l = [] := by
  cases l with
  | nil => rfl
  | cons p l =>
    rw [List.all_cons, Bool.and_eq_true] at h
    rw [n p List.mem_cons_self] at h
    cases h.1
/-- what the dict at a holds at a key -/
theorem dget_of {v y : V} {l : List (D × D)} {k : D} (s : Sub F H) (h : Rep K P w F v (.dict l)) (hy : Rep K P w F y k) (ok : keyOk l k = true) :
    ∃ a o, v = .ref a ∧ IsD H a ∧ DGet2 H a y o ∧ ((∃ u d, o = some u ∧ look l k = some d ∧ Rep K P w F u d) ∨ (o = none ∧ look l k = none)) := by
  have hp : kdOf l = .plain := by
    unfold keyOk at ok
    split at ok <;> first | assumption | cases ok
  unfold keyOk at ok
  rw [hp] at ok
  simp only [Bool.or_eq_true, Bool.and_eq_true] at ok
  obtain ⟨a, rfl, h5⟩ := rep_dict h hp
  rcases h5 with ⟨kvs, h1, h2, h3⟩ | ⟨kvs, h1, h2, h3⟩
  · have isd : IsD H a := .inl ⟨kvs, s.rd h1⟩
    rcases ok with ⟨ok, al⟩ | ⟨ok, al⟩
    · obtain ⟨k', rfl, rfl⟩ := rep_isK hy ok
      obtain ⟨f1, f2⟩ := look_of (K := K) (P := P) (w := w) (F := F) (fun a b => kD_inj) k' h2 h3
      refine ⟨a, valV kvs k', rfl, isd, .inl (.inl ⟨kvs, k', s.rd h1, rfl, rfl⟩), ?_⟩
      cases q : valV kvs k' with
      | none => exact .inr ⟨rfl, f2 q⟩
      | some u => obtain ⟨d, e1, e2⟩ := f1 u q; exact .inl ⟨u, d, rfl, e1, e2⟩
    · obtain ⟨b, k', rfl, hb, rfl⟩ := rep_isTK hy ok
      have e := nil_of_all al (allK_of h2)
      subst e
      have e2 := map_nil_of h2 rfl
      subst e2
      exact ⟨a, none, rfl, isd, .inr (.inl ⟨s.rd h1, rfl, b, k', rfl, s _ _ hb⟩), .inr ⟨rfl, rfl⟩⟩
  · have isd : IsD H a := .inr ⟨kvs, s.rd h1⟩
    rcases ok with ⟨ok, al⟩ | ⟨ok, al⟩
    · obtain ⟨k', rfl, rfl⟩ := rep_isK hy ok
      have e := nil_of_all al (allT_of h2)
      subst e
      have e2 := map_nil_of h2 rfl
      subst e2
      exact ⟨a, none, rfl, isd, .inr (.inr ⟨s.rd h1, rfl, k', rfl⟩), .inr ⟨rfl, rfl⟩⟩
    · obtain ⟨b, k', rfl, hb, rfl⟩ := rep_isTK hy ok
      obtain ⟨f1, f2⟩ := look_of (K := K) (P := P) (w := w) (F := F) (fun a b => tkD_inj) k' h2 h3
      refine ⟨a, valV kvs k', rfl, isd, .inl (.inr ⟨kvs, k', b, s.rd h1, rfl, s _ _ hb, rfl⟩), ?_⟩
      cases q : valV kvs k' with
      | none => exact .inr ⟨rfl, f2 q⟩
      | some u => obtain ⟨d, e1, e2⟩ := f1 u q; exact .inl ⟨u, d, rfl, e1, e2⟩
theorem any_look (l : List (D × D)) (k : D) : (l.any fun p => deq p.1 k) = (look l k).isSome := by
  induction l with
  | nil => rfl
  | cons p l ih =>
    unfold look at ih ⊢
    rw [List.any_cons, List.find?_cons]
    by_cases h : deq p.1 k = true
    · simp [h]
    · have h' : deq p.1 k = false := by simpa using h
      simp [h', ih]
end
end Wc
/- part WcE4 -/
namespace Wc
open PySem PySem.Spec PyProof.Rows L2
/-- what is used of a context all through -/
structure Ctx0 (X : Cx) : Prop where
  calm : X.calm = true
  hu : X.A.units + 200 < cLine
  gd : X.A.guards = some []
def bopO : BOp → Operator
  | .add => .Add
  | .sub => .Sub
  | .mul => .Mult
  | .fdiv => .FloorDiv
  | .mod => .Mod
  | .pow => .Pow
def copO : COp → CmpOp
  | .eq => .Eq
  | .ne => .NotEq
  | .lt => .Lt
  | .le => .LtE
  | .gt => .Gt
  | .ge => .GtE
  | .isin => .In
  | .notin => .NotIn
theorem line_eq : line = sizeLine := sizeLine_eq.symm
section
variable {X : Cx}
def rBin (X : Cx) (op : BOp) : R2 := fun u v H Q => ∃ F x y d m, Sub F H ∧ Rep X.K X.prog X.w F u x ∧ Rep X.K X.prog X.w F v y ∧ binv op x y = some (d, m) ∧ Res X.K X.prog X.w F H d m Q
theorem small_ok {i j : Int} (h : (small i || small j) = true) : CMul i j := by
  simp only [small, Bool.or_eq_true, Bool.and_eq_true, decide_eq_true_eq] at h
  exact h
theorem op_bin (op : BOp) : OpR X (binaryOp (bopO op)) (rBin X op) := by
  intro pins s σ H u v uv vv Q I ru rv h
  obtain ⟨F, x, y, d, m, sb, hx, hy, e, q⟩ := h
  have g0 : Grow F H F H := Grow.refl sb
  unfold binv at e
  split at e
  · cases e
    exact op_add pins s σ H u v uv vv Q I ru rv ⟨_, _, hx.int_inv, hy.int_inv, q.int g0⟩
  · split at e
    · cases e
      obtain ⟨a, xs, rfl, h1, h2⟩ := hx.lst_inv
      obtain ⟨b, ys, rfl, h3, h4⟩ := hy.lst_inv
      refine op_cat pins s σ H _ _ uv vv Q I ru rv ⟨a, b, xs, ys, rfl, rfl, sb _ _ h1, sb _ _ h3, ?_, fun p hp => q.newL g0 (h2.append h4) hp⟩
      rw [h2.length, h4.length, ← line_eq]; assumption
    · cases e
  · cases e
    exact op_sub pins s σ H u v uv vv Q I ru rv ⟨_, _, hx.int_inv, hy.int_inv, q.int g0⟩
  · split at e
    · cases e
      exact op_mul pins s σ H u v uv vv Q I ru rv ⟨_, _, hx.int_inv, hy.int_inv, small_ok (by assumption), q.int g0⟩
    · cases e
  · split at e
    · rename_i hc
      cases e
      obtain ⟨a, xs, rfl, h1, h2⟩ := hx.lst_inv
      refine op_rep pins s σ H _ _ uv vv Q I ru rv ⟨a, _, xs, rfl, hy.int_inv, sb _ _ h1, hc.1, hc.2.1, ?_, fun p hp => q.newL g0 (h2.rep _) hp⟩
      rw [h2.length, ← line_eq]; exact hc.2.2
    · cases e
  · split at e
    · rename_i hc
      cases e
      exact op_fdiv pins s σ H u v uv vv Q I ru rv ⟨_, _, hx.int_inv, hy.int_inv, hc, q.int g0⟩
    · cases e
  · split at e
    · rename_i hc
      cases e
      exact op_mod pins s σ H u v uv vv Q I ru rv ⟨_, _, hx.int_inv, hy.int_inv, hc, q.int g0⟩
    · cases e
  · split at e
    · rename_i hc
      cases e
      exact op_pow pins s σ H u v uv vv Q I ru rv ⟨_, _, hx.int_inv, hy.int_inv, hc, q.int g0⟩
    · cases e
  · cases e

/-! comparisons -/
def rCmpv (X : Cx) (op : COp) : R2 := fun u v H Q => ∃ F x y b, Sub F H ∧ Rep X.K X.prog X.w F u x ∧ Rep X.K X.prog X.w F v y ∧ cmpv op x y = some b ∧ Q (.bl b) H
theorem lt_ok {E : Value → Shared → Prop} (c : Ctx0 X) {pins : List (Addr × Obj)} {s : Shared} {σ : L2.St} {H F : Hp} {u v : V} {uv vv : Value} {x y : D} {b : Bool} (I : L2.Inv X pins σ H s) (ru : RelV u uv) (rv : RelV v vv) (sb : Sub F H)
    (hx : Rep X.K X.prog X.w F u x) (hy : Rep X.K X.prog X.w F v y) (e : ltv x y = some b) :
    (∀ (Q : Value → Shared → Prop), Q (.bool b) s → wpAny (model X.prog X.w) X.A (compareOp .Lt uv vv) Q E s) ∧
    (∀ (Q : Value → Shared → Prop), Q (.bool b) s → wpAny (model X.prog X.w) X.A (compareOp .Gt vv uv) Q E s) ∧
    (∀ (Q : Value → Shared → Prop), Q (.bool (!b)) s → wpAny (model X.prog X.w) X.A (compareOp .LtE vv uv) Q E s) ∧
    (∀ (Q : Value → Shared → Prop), Q (.bool (!b)) s → wpAny (model X.prog X.w) X.A (compareOp .GtE uv vv) Q E s) := by
  have hu := c.hu
  have core : ∀ (h : (shp x && shp y && W.alike x y) = true), x ≠ .none → y ≠ .none → b = W.dataLt x y → 
    (∀ (Q : Value → Shared → Prop), Q (.bool b) s → wpAny (model X.prog X.w) X.A (compareOp .Lt uv vv) Q E s) ∧
    (∀ (Q : Value → Shared → Prop), Q (.bool b) s → wpAny (model X.prog X.w) X.A (compareOp .Gt vv uv) Q E s) ∧
    (∀ (Q : Value → Shared → Prop), Q (.bool (!b)) s → wpAny (model X.prog X.w) X.A (compareOp .LtE vv uv) Q E s) ∧
    (∀ (Q : Value → Shared → Prop), Q (.bool (!b)) s → wpAny (model X.prog X.w) X.A (compareOp .GtE uv vv) Q E s) := by
    intro h n1 n2 e
    simp only [Bool.and_eq_true] at h
    obtain ⟨⟨h1, h2⟩, h3⟩ := h
    obtain ⟨as, r1⟩ := Dp.reads I x u uv (hx.dp sb (SeqAt.canLay_of_shaped h1)) ru
    obtain ⟨bs, r2⟩ := Dp.reads I y v vv (hy.dp sb (SeqAt.canLay_of_shaped h2)) rv
    have d1 := SeqAt.depth_of_shaped h1
    have d2 := SeqAt.depth_of_shaped h2
    have m1 : min x.depth y.depth ≤ x.depth := Nat.min_le_left _ _
    have m2 : min y.depth x.depth ≤ y.depth := Nat.min_le_left _ _
    have h3' : W.alike y x = true := by rw [W.alike_comm]; exact h3
    subst e
    exact ⟨fun Q q => W.lt_data r1 r2 h3 n1 (by omega) q, fun Q q => W.gt_data r2 r1 h3' n2 (by omega) q, fun Q q => W.le_data r2 r1 h3' n2 (by omega) q, fun Q q => W.ge_data r1 r2 h3 n1 (by omega) q⟩
  unfold ltv at e
  split at e
  · rename_i i j
    cases e
    have e1 := hx.int_inv
    have e2 := hy.int_inv
    subst e1 e2
    obtain ⟨t, rfl⟩ := ru
    obtain ⟨t', rfl⟩ := rv
    refine ⟨fun Q q => lt_int q, fun Q q => gt_int q, fun Q q => le_int ?_, fun Q q => ge_int ?_⟩
    · rw [show decide (j ≤ i) = !decide (i < j) by by_cases h : i < j <;> simp [h] <;> omega]; exact q
    · rw [show decide (j ≤ i) = !decide (i < j) by by_cases h : i < j <;> simp [h] <;> omega]; exact q
  · split at e
    · cases e
      exact core (by assumption) (by simp) (by simp) rfl
    · cases e
  · split at e
    · cases e
      exact core (by assumption) (by simp) (by simp) rfl
    · cases e
  · cases e
theorem op_cmpv (c : Ctx0 X) (op : COp) : OpR X (compareOp (copO op)) (rCmpv X op) := by
  intro pins s σ H u v uv vv Q I ru rv h
  obtain ⟨F, x, y, b, sb, hx, hy, e, q⟩ := h
  have hu := c.hu
  have fin : EP X pins σ Q (.bool b) s := ⟨.bl b, H, I, rfl, q⟩
  have inl : ∀ {k : Bool}, inv x y = some k → (∀ Q : Value → Shared → Prop, (∀ s', L2.Inv X pins σ H s' → Q (.bool k) s') → wpAny (model X.prog X.w) X.A (compareOp .In uv vv) Q X.xe s) ∧
      (∀ Q : Value → Shared → Prop, (∀ s', L2.Inv X pins σ H s' → Q (.bool (!k)) s') → wpAny (model X.prog X.w) X.A (compareOp .NotIn uv vv) Q X.xe s) := by
    intro k e
    unfold inv at e
    split at e
    · split at e
      · rename_i hc
        cases e
        simp only [Bool.and_eq_true] at hc
        obtain ⟨h1, h2⟩ := hc
        obtain ⟨as, r1⟩ := Dp.reads I x u uv (hx.dp sb (SeqAt.canLay_of_shaped h1)) ru
        obtain ⟨bs, r2⟩ := Dp.reads I _ v vv (hy.dp sb (SeqAt.canLay_of_shaped h2)) rv
        exact ⟨fun Q q => SeqAt.in_list_reads r2 r1 (SeqAt.canLay_of_shaped h2) (SeqAt.canLay_of_shaped h1) (room_in_shaped h1 (by omega)) (q s I), fun Q q => SeqAt.notIn_list_reads r2 r1 (SeqAt.canLay_of_shaped h2) (SeqAt.canLay_of_shaped h1) (room_in_shaped h1 (by omega)) (q s I)⟩
      · cases e
    · unfold kdIn at e
      split at e
      · split at e
        · rename_i l _ _ _ hk
          cases e
          obtain ⟨a, o, rfl, _, g, hl⟩ := dget_of sb hy hx hk
          obtain rfl : vv = Value.ref a := rv
          have e2 : o.isSome = (l.any fun p => deq p.1 x) := by
            rw [any_look]
            rcases hl with ⟨w, d, h1, h2, _⟩ | ⟨h1, h2⟩
            · rw [h1, h2]; rfl
            · rw [h1, h2]; rfl
          exact ⟨fun Q q => d_in2 (by omega) I g ru fun s' I' => by rw [e2]; exact q s' I', fun Q q => d_notIn2 (by omega) I g ru fun s' I' => by rw [e2]; exact q s' I'⟩
        · cases e
      · cases e
    · cases e
  unfold cmpv at e
  cases op with
  | eq =>
    simp only at e
    split at e
    · rename_i hc
      cases e
      simp only [Bool.and_eq_true] at hc
      exact op_eqD (by omega) pins s σ H u v uv vv Q I ru rv ⟨x, y, hx.dp sb (SeqAt.canLay_of_shaped hc.1), hy.dp sb (SeqAt.canLay_of_shaped hc.2), hc.1, hc.2, q⟩
    · cases e
  | ne =>
    simp only at e
    split at e
    · rename_i hc
      cases e
      simp only [Bool.and_eq_true] at hc
      exact op_neD (by omega) pins s σ H u v uv vv Q I ru rv ⟨x, y, hx.dp sb (SeqAt.canLay_of_shaped hc.1), hy.dp sb (SeqAt.canLay_of_shaped hc.2), hc.1, hc.2, q⟩
    · cases e
  | lt => exact (lt_ok c I ru rv sb hx hy e).1 _ fin
  | gt => exact (lt_ok c I rv ru sb hy hx e).2.1 _ fin
  | le =>
    simp only [Option.map_eq_some_iff] at e
    obtain ⟨k, e, rfl⟩ := e
    exact (lt_ok c I rv ru sb hy hx e).2.2.1 _ fin
  | ge =>
    simp only [Option.map_eq_some_iff] at e
    obtain ⟨k, e, rfl⟩ := e
    exact (lt_ok c I ru rv sb hx hy e).2.2.2 _ fin
  | isin => exact (inl e).1 _ fun s' I' => ⟨.bl b, H, I', rfl, q⟩
  | notin =>
    simp only [Option.map_eq_some_iff] at e
    obtain ⟨k, e, rfl⟩ := e
    exact (inl e).2 _ fun s' I' => ⟨.bl _, H, I', rfl, q⟩
end
end Wc
/- part WcSort -/
namespace Wc
open PySem PySem.Spec PyProof.Rows L2
/-! ### one order, one sorted list -/
theorem dle_trans {a b c : D} (h1 : dle a b = true) (h2 : dle b c = true) : dle a c = true := by
  have t := (W.sortLe_total (PyProof.Rows.listOrd PyProof.Rows.itemOrd) false W.keyToks).trans a b c
  exact t h1 h2
theorem dle_total (a b : D) : dle a b = true ∨ dle b a = true := (W.sortLe_total (PyProof.Rows.listOrd PyProof.Rows.itemOrd) false W.keyToks).total a b
mutual
theorem eqv_eq : ∀ {x y : D}, W.alike x y = true → PyData.eqv x y = true → x = y
  | .none, .none, _, _ => rfl
  | .bool a, .bool b, _, e => by simp [PyData.eqv] at e; rw [e]
  | .int a, .int b, _, e => by simp [PyData.eqv] at e; rw [e]
  | .str a, .str b, _, e => by simp [PyData.eqv] at e; rw [e]
  | .list xs, .list ys, h, e => by
    simp only [PyData.eqv] at e
    rw [eqvs_eq (by simpa [W.alike] using h) e]
  | .tuple xs, .tuple ys, h, e => by
    simp only [PyData.eqv] at e
    rw [eqvs_eq (by simpa [W.alike] using h) e]
  | .none, .bool _, h, _ | .none, .int _, h, _ | .none, .str _, h, _ | .none, .list _, h, _ | .none, .tuple _, h, _ | .none, .dict _, h, _ => by simp [W.alike] at h
  | .bool _, .none, h, _ | .bool _, .int _, h, _ | .bool _, .str _, h, _ | .bool _, .list _, h, _ | .bool _, .tuple _, h, _ | .bool _, .dict _, h, _ => by simp [W.alike] at h
  | .int _, .none, h, _ | .int _, .bool _, h, _ | .int _, .str _, h, _ | .int _, .list _, h, _ | .int _, .tuple _, h, _ | .int _, .dict _, h, _ => by simp [W.alike] at h
  | .str _, .none, h, _ | .str _, .bool _, h, _ | .str _, .int _, h, _ | .str _, .list _, h, _ | .str _, .tuple _, h, _ | .str _, .dict _, h, _ => by simp [W.alike] at h
  | .list _, .none, h, _ | .list _, .bool _, h, _ | .list _, .int _, h, _ | .list _, .str _, h, _ | .list _, .tuple _, h, _ | .list _, .dict _, h, _ => by simp [W.alike] at h
  | .tuple _, .none, h, _ | .tuple _, .bool _, h, _ | .tuple _, .int _, h, _ | .tuple _, .str _, h, _ | .tuple _, .list _, h, _ | .tuple _, .dict _, h, _ => by simp [W.alike] at h
  | .dict _, _, h, _ => by simp [W.alike] at h
theorem eqvs_eq : ∀ {xs ys : List D}, W.alikeAll xs ys = true → PyData.eqvAll xs ys = true → xs = ys
  | [], [], _, _ => rfl
  | [], _ :: _, _, e => by simp [PyData.eqvAll] at e
  | _ :: _, [], _, e => by simp [PyData.eqvAll] at e
  | x :: xs, y :: ys, h, e => by
    simp only [PyData.eqvAll, Bool.and_eq_true] at e
    simp only [W.alikeAll, Bool.and_eq_true] at h
    rw [eqv_eq h.1 e.1, eqvs_eq h.2 e.2]
end
theorem dle_antisymm {a b : D} (al : W.alike a b = true) (h1 : dle a b = true) (h2 : dle b a = true) : a = b := by
  have h1' : W.dataLt b a = false := by simpa [dle] using h1
  have h2' : W.dataLt a b = false := by simpa [dle] using h2
  have e : W.keyToks a = W.keyToks b := PyProof.Rows.lex_total (O := PyProof.Rows.itemOrd) _ _ h2' h1'
  refine eqv_eq al ?_
  cases q : PyData.eqv a b with
  | true => rfl
  | false =>
    have t := (W.toks_eqv a b al).2 q [] [.inl 0]
    have t2 := (W.toks_eqv a b al).2 q [.inl 0] []
    rw [e] at t t2
    simp only [List.append_nil] at t t2
    have x1 : PyProof.Rows.lexLt PyProof.Rows.itemOrd (W.keyToks b) (W.keyToks b) = false := PyProof.Rows.lex_irrefl (O := PyProof.Rows.itemOrd) _
    rw [x1] at t
    have := W.lex_pre (W.keyToks b) [] [Sum.inl 0]
    rw [List.append_nil] at this
    rw [this] at t
    exact absurd t (by decide)
theorem insO_perm (x : D) : ∀ l : List D, (insO dle x l).Perm (x :: l)
  | [] => .refl _
  | y :: l => by
    unfold insO
    split
    · exact .refl _
    · exact ((insO_perm x l).cons y).trans (.swap x y l)
theorem isort_perm : ∀ l : List D, (isort dle l).Perm l
  | [] => .refl _
  | x :: l => (insO_perm x _).trans ((isort_perm l).cons x)
theorem insO_sorted (x : D) : ∀ {l : List D}, l.Pairwise (fun a b => dle a b = true) → (insO dle x l).Pairwise (fun a b => dle a b = true)
  | [], _ => by simp [insO]
  | y :: l, h => by
    unfold insO
    obtain ⟨h1, h2⟩ := List.pairwise_cons.mp h
    split
    · rename_i e
      refine List.pairwise_cons.mpr ⟨fun z hz => ?_, h⟩
      rcases List.mem_cons.mp hz with rfl | hz
      · exact e
      · exact dle_trans e (h1 z hz)
    · rename_i e
      refine List.pairwise_cons.mpr ⟨fun z hz => ?_, insO_sorted x h2⟩
      rcases List.mem_cons.mp ((insO_perm x l).mem_iff.mp hz) with rfl | hz
      · rcases dle_total z y with q | q
        · exact absurd q e
        · exact q
      · exact h1 z hz
theorem isort_sorted : ∀ l : List D, (isort dle l).Pairwise (fun a b => dle a b = true)
  | [] => .nil
  | x :: l => insO_sorted x (isort_sorted l)
theorem sorted_one : ∀ {l m : List D}, l.Perm m → l.Pairwise (fun a b => dle a b = true) → m.Pairwise (fun a b => dle a b = true) → (∀ a ∈ l, ∀ b ∈ l, W.alike a b = true) → l = m
  | [], m, p, _, _, _ => by simpa using p.symm
  | a :: l, m, p, h1, h2, al => by
    cases m with
    | nil => simpa using p.length_eq
    | cons b m =>
      have hb : b ∈ a :: l := p.mem_iff.mpr List.mem_cons_self
      have ha : a ∈ b :: m := p.mem_iff.mp List.mem_cons_self
      obtain ⟨a1, a2⟩ := List.pairwise_cons.mp h1
      obtain ⟨b1, b2⟩ := List.pairwise_cons.mp h2
      have e : a = b := by
        rcases List.mem_cons.mp hb with e | hb'
        · exact e.symm
        · rcases List.mem_cons.mp ha with e | ha'
          · exact e
          · exact dle_antisymm (al a List.mem_cons_self b hb) (a1 b hb') (b1 a ha')
      subst e
      rw [sorted_one ((List.perm_cons a).mp p) a2 b2 fun x hx y hy => al x (List.mem_cons_of_mem _ hx) y (List.mem_cons_of_mem _ hy)]
theorem allAlike_ok {ds : List D} (h : allAlike ds = true) : W.AllAlike ds := by
  intro d hd e he
  simp only [allAlike, List.all_eq_true] at h
  exact h d hd e he
theorem sortable_ok {ds : List D} (h : sortableB ds = true) : W.Sortable ds := by
  simp only [sortableB, Bool.or_eq_true, List.all_eq_true] at h
  rcases h with h | h
  · refine .inl fun d hd => ?_
    have := h d hd
    split at this
    · exact ⟨_, _, rfl⟩
    · cases this
  · refine .inr fun d hd => ?_
    have := h d hd
    split at this
    · cases this
    · cases this
    · rename_i n1 n2
      exact ⟨n1, n2⟩
/-- a list of values beside what they stand for, sorted -/
theorem zip_sort {xs : List V} {ds : List D} (hl : xs.length = ds.length) (al : W.AllAlike ds) : ((xs.zip ds).mergeSort (W.dataLe false (fun p : V × D => p.2))).map (·.2) = isort dle ds := by
  have hp := List.mergeSort_perm (xs.zip ds) (W.dataLe false (fun p : V × D => p.2))
  have e2 : (xs.zip ds).map (·.2) = ds := List.map_snd_zip (by omega)
  have p1 : (((xs.zip ds).mergeSort (W.dataLe false (fun p : V × D => p.2))).map (·.2)).Perm ds := by
    have := hp.map (·.2)
    rwa [e2] at this
  refine sorted_one (p1.trans (isort_perm ds).symm) ?_ (isort_sorted ds) fun a ha b hb => al a (p1.mem_iff.mp ha) b (p1.mem_iff.mp hb)
  rw [List.pairwise_map]
  have t := List.pairwise_mergeSort (le := W.dataLe false (fun p : V × D => p.2)) (fun a b c h1 h2 => dle_trans (a := a.2) (b := b.2) (c := c.2) h1 h2) (fun a b => by
    have := dle_total a.2 b.2
    simp only [Bool.or_eq_true]
    exact this) (xs.zip ds)
  exact t.imp fun h => h
end Wc
/- part WcE5 -/
namespace Wc
open PySem PySem.Spec PyProof.Rows L2
section
variable {X : Cx}
/-! ### subscripts -/
def rIdx (X : Cx) : R2 := fun u v H Q => ∃ F x y d, Sub F H ∧ Rep X.K X.prog X.w F u x ∧ Rep X.K X.prog X.w F v y ∧ idxv x y = some d ∧ ∀ z, Rep X.K X.prog X.w F z d → Q z H
theorem ixZ_eq (n : Nat) (i : Int) : ixZ n i = ixN n i := rfl
theorem ix_v (c : Ctx0 X) : IxR X (rIdx X) := by
  intro value slice pins s σ H u v uv vv Q I ru rv h hs
  obtain ⟨F, x, y, d, sb, hx, hy, e, q⟩ := h
  have hu := c.hu
  unfold idxv at e
  split at e
  · rename_i ds i
    obtain ⟨a, xs, rfl, h1, h2⟩ := hx.lst_inv
    obtain ⟨j, e1, e2⟩ := Option.bind_eq_some_iff.mp e
    obtain ⟨z, hz, rz⟩ := h2.get e2
    refine ix_list value slice pins s σ H _ _ uv vv Q I ru rv ⟨a, xs, i, z, rfl, hy.int_inv, .of (sb _ _ h1), ?_, q z rz⟩ hs
    unfold atI
    rw [h2.length, ← ixZ_eq, e1]
    exact hz
  · rename_i ds i
    obtain ⟨a, xs, rfl, h1, h2⟩ := hx.tup_inv
    obtain ⟨j, e1, e2⟩ := Option.bind_eq_some_iff.mp e
    obtain ⟨z, hz, rz⟩ := h2.get e2
    refine ix_tup value slice pins s σ H _ _ uv vv Q I ru rv ⟨a, xs, i, z, rfl, hy.int_inv, .of (sb _ _ h1), ?_, q z rz⟩ hs
    unfold atI
    rw [h2.length, ← ixZ_eq, e1]
    exact hz
  · split at e
    · rename_i l k hk
      obtain ⟨a, o, rfl, isd, g, hl⟩ := dget_of sb hx hy hk
      obtain rfl : uv = Value.ref a := ru
      rcases hl with ⟨w, d', rfl, h2, h3⟩ | ⟨_, h2⟩
      · rw [h2] at e
        cases e
        rcases g with g | ⟨_, z, _⟩ | ⟨_, z, _⟩
        · exact tail_any (ops := [.ref a, vv]) (dict_typeIs I g) PySem.F.slot_dict_getitem.lookup (d_getItem (by omega) I g rv fun w' s3 I3 rw' => ⟨w, H, I3, rw', q w h3⟩) hs
        · cases z
        · cases z
      · rw [h2] at e; cases e
    · cases e
  · cases e
/-! ### slices -/
def optI : D → Option Int
  | .int i => some i
  | _ => none
theorem sIx_eq {n d : Nat} {y : D} {k : Nat} (h : sIx n d y = some k) : HT.sIx n d (optI y) = k := by
  cases y with
  | none => simpa [sIx, optI, HT.sIx] using h
  | int i => simpa [sIx, optI, HT.sIx] using h
  | _ => simp [sIx] at h
def rSlv (X : Cx) : V → Option Int → Option Int → Hp → VK → Prop := fun u lo hi H Q => ∃ F x y z d m, Sub F H ∧ Rep X.K X.prog X.w F u x ∧ lo = optI y ∧ hi = optI z ∧ slcv x y z = some (d, m) ∧ Res X.K X.prog X.w F H d m Q
theorem cut_eq {n : Nat} {y z : D} {ds l : List D} {xs : List V} {K : PySem.W.Frag} {P : Program} {w : World} {F : Hp} (r : RepAll K P w F xs ds) (hn : n = ds.length) (h : cut n y z ds = some l) : RepAll K P w F (cutV xs (optI y) (optI z)) l := by
  unfold cut at h
  split at h
  · rename_i a b h1 h2
    cases h
    unfold cutV
    rw [r.length, ← hn, sIx_eq h1, sIx_eq h2]
    exact (r.drop a).take (b - a)
  · cases h
theorem sl_v : SlR X (rSlv X) := by
  intro pins s σ H u v vl vu lo hi sl Q I ru hs pl pu h
  obtain ⟨F, x, y, z, d, m, sb, hx, rfl, rfl, e, q⟩ := h
  have g0 : Grow F H F H := Grow.refl sb
  unfold slcv at e
  split at e
  · rename_i ds
    obtain ⟨a, xs, rfl, h1, h2⟩ := hx.lst_inv
    obtain ⟨l, e1, e2⟩ := Option.map_eq_some_iff.mp e
    cases e2
    exact sl_list pins s σ H _ v vl vu _ _ sl Q I ru hs pl pu ⟨a, xs, rfl, .of (sb _ _ h1), fun p hp => q.newL g0 (cut_eq h2 rfl e1) hp⟩
  · rename_i ds
    obtain ⟨a, xs, rfl, h1, h2⟩ := hx.tup_inv
    split at e
    · rename_i k j e1 e2
      split at e
      · cases e
      · rename_i hw
        cases e
        refine sl_tup pins s σ H _ v vl vu _ _ sl Q I ru hs pl pu ⟨a, xs, rfl, .of (sb _ _ h1), ?_, fun p hp => ?_⟩
        · rw [h2.length, sIx_eq e1, sIx_eq e2]; exact hw
        · refine q.sh (g0.trans (Grow.newF sb hp)) (.tup upd_same ?_) (.inl rfl)
          refine RepAll.mono (Sub.up (Sub.refl F) (sb.nn hp)) ?_
          refine cut_eq h2 rfl ?_
          unfold cut
          rw [e1, e2]
    · cases e
  · rename_i ds
    obtain ⟨l, e1, e2⟩ := Option.map_eq_some_iff.mp e
    cases e2
    generalize hd : PyData.dict [(PyData.list [], PyData.list ds)] = d0 at hx
    cases hx with
    | scr h =>
      rename_i a ns
      cases hd
      refine sl_list pins s σ H _ v vl vu _ _ sl Q I ru hs pl pu ⟨a, ns.map V.int, rfl, sb.sql h, fun p hp => q.newL g0 (cut_eq (RepAll.ints ns) rfl e1) hp⟩
    | dk h1 h2 h3 =>
      cases hd
      rename_i kvs
      cases kvs with
      | nil => simp at h2
      | cons p r =>
        simp only [List.map_cons, List.map_nil, List.cons.injEq] at h2
        obtain ⟨k, w⟩ := p
        cases k <;> simp [kD] at h2
    | dt h1 h2 h3 =>
      cases hd
      rename_i kvs
      cases kvs with
      | nil => simp at h2
      | cons p r => simp [tkD] at h2
    | seti h1 h2 h3 => simp [mkSet] at hd
    | sett h1 h2 h3 ks pm => simp [mkSet] at hd
    | _ => cases hd
  · cases e

/-! ### built-in functions -/
def rBlt (X : Cx) (f : Blt) : List V → Hp → VK → Prop := fun vs H Q => ∃ F ds d m, Sub F H ∧ RepAll X.K X.prog X.w F vs ds ∧ bltv f ds = some (d, m) ∧ Res X.K X.prog X.w F H d m Q
theorem reps1 {K : PySem.W.Frag} {P : Program} {w : World} {F : Hp} {vs : List V} {d : D} (r : RepAll K P w F vs [d]) : ∃ v, vs = [v] ∧ Rep K P w F v d := by
  cases r with
  | cons h r => cases r; exact ⟨_, rfl, h⟩
theorem reps2 {K : PySem.W.Frag} {P : Program} {w : World} {F : Hp} {vs : List V} {d e : D} (r : RepAll K P w F vs [d, e]) : ∃ v u, vs = [v, u] ∧ Rep K P w F v d ∧ Rep K P w F u e := by
  cases r with
  | cons h r =>
    obtain ⟨u, rfl, h'⟩ := reps1 r
    exact ⟨_, u, rfl, h, h'⟩
theorem c_len (c : Ctx0 X) : CallR X (.builtin "len") (rBlt X .len) := by
  intro pins s σ H vs us Q I rv h
  obtain ⟨F, ds, d, m, sb, r, e, q⟩ := h
  have g0 : Grow F H F H := Grow.refl sb
  unfold bltv at e
  split at e <;> first | (rename_i hf; cases hf) | skip
  · cases e
    obtain ⟨v, rfl, hv⟩ := reps1 r
    obtain ⟨a, xs, rfl, h1, h2⟩ := hv.lst_inv
    exact call_len_seq pins s σ H _ us Q I rv ⟨a, xs, rfl, .inl (.of (sb _ _ h1)), by rw [h2.length]; exact q.int g0⟩
  · cases e
    obtain ⟨v, rfl, hv⟩ := reps1 r
    obtain ⟨a, xs, rfl, h1, h2⟩ := hv.tup_inv
    exact call_len_seq pins s σ H _ us Q I rv ⟨a, xs, rfl, .inr (.of (sb _ _ h1)), by rw [h2.length]; exact q.int g0⟩
  · rename_i l
    split at e
    · rename_i hk
      cases e
      obtain ⟨v, rfl, hv⟩ := reps1 r
      obtain ⟨a, rfl, hd⟩ := rep_dict hv hk
      rw [Vals.ref1 rv]
      rcases hd with ⟨kvs, h1, h2, h3⟩ | ⟨kvs, h1, h2, h3⟩
      · have e1 : l.length = kvs.length := by have := congrArg List.length h2; simpa using this
        exact d_len I (sb.rd h1) fun t s' I' => ⟨.int kvs.length, H, I', ⟨t, rfl⟩, by rw [← e1]; exact q.int g0⟩
      · have e1 : l.length = kvs.length := by have := congrArg List.length h2; simpa using this
        obtain ⟨z, hd, ys, rel, dd⟩ := dt_rd I.hok (sb.rd h1)
        have hl : kvs.length = ys.length := Paired.length rel
        refine call_len_dictH hd dd (by rw [← hl]; rw [sizeLine_eq] at z; omega) ?_
        rw [← hl]
        exact ⟨.int ((kvs.length : Nat) : Int), H, I.tok _, ⟨_, rfl⟩, by rw [← e1]; exact q.int g0⟩
    · cases e
  · cases e
theorem c_int (c : Ctx0 X) : CallR X (.type "int") (rBlt X .int) := by
  intro pins s σ H vs us Q I rv h
  obtain ⟨F, ds, d, m, sb, r, e, q⟩ := h
  have g0 : Grow F H F H := Grow.refl sb
  unfold bltv at e
  split at e <;> first | (rename_i hf; cases hf) | skip
  · cases e
    obtain ⟨v, rfl, hv⟩ := reps1 r
    exact call_int1 pins s σ H _ us Q I rv (.inl ⟨_, by rw [hv.int_inv], q.int g0⟩)
  · cases e
    obtain ⟨v, rfl, hv⟩ := reps1 r
    exact call_int1 pins s σ H _ us Q I rv (.inr ⟨_, by rw [hv.bl_inv], q.int g0⟩)
  · cases e
theorem c_abs (c : Ctx0 X) : CallR X (.builtin "abs") (rBlt X .abs) := by
  intro pins s σ H vs us Q I rv h
  obtain ⟨F, ds, d, m, sb, r, e, q⟩ := h
  have g0 : Grow F H F H := Grow.refl sb
  unfold bltv at e
  split at e <;> first | (rename_i hf; cases hf) | skip
  · cases e
    obtain ⟨v, rfl, hv⟩ := reps1 r
    exact call_abs pins s σ H _ us Q I rv ⟨_, by rw [hv.int_inv], q.int g0⟩
  · cases e
theorem c_min2 (c : Ctx0 X) : CallR X (.builtin "min") (rBlt X .min2) := by
  intro pins s σ H vs us Q I rv h
  obtain ⟨F, ds, d, m, sb, r, e, q⟩ := h
  have g0 : Grow F H F H := Grow.refl sb
  unfold bltv at e
  split at e <;> first | (rename_i hf; cases hf) | skip
  · cases e
    obtain ⟨v, u, rfl, hv, hu⟩ := reps2 r
    exact call_min2 c.calm pins s σ H _ us Q I rv ⟨_, _, by rw [hv.int_inv, hu.int_inv], q.int g0⟩
  · cases e
theorem c_max2 (c : Ctx0 X) : CallR X (.builtin "max") (rBlt X .max2) := by
  intro pins s σ H vs us Q I rv h
  obtain ⟨F, ds, d, m, sb, r, e, q⟩ := h
  have g0 : Grow F H F H := Grow.refl sb
  unfold bltv at e
  split at e <;> first | (rename_i hf; cases hf) | skip
  · cases e
    obtain ⟨v, u, rfl, hv, hu⟩ := reps2 r
    exact call_max2 c.calm pins s σ H _ us Q I rv ⟨_, _, by rw [hv.int_inv, hu.int_inv], q.int g0⟩
  · cases e
theorem c_list (c : Ctx0 X) : CallR X (.type "list") (rBlt X .list) := by
  intro pins s σ H vs us Q I rv h
  obtain ⟨F, ds, d, m, sb, r, e, q⟩ := h
  have g0 : Grow F H F H := Grow.refl sb
  unfold bltv at e
  split at e <;> first | (rename_i hf; cases hf) | skip
  · cases e
    obtain ⟨v, rfl, hv⟩ := reps1 r
    obtain ⟨a, xs, rfl, h1, h2⟩ := hv.lst_inv
    exact call_list_of pins s σ H _ us Q I rv ⟨a, xs, rfl, .inl (.of (sb _ _ h1)), fun p hp => q.newL g0 h2 hp⟩
  · cases e
    obtain ⟨v, rfl, hv⟩ := reps1 r
    obtain ⟨a, xs, rfl, h1, h2⟩ := hv.tup_inv
    exact call_list_of pins s σ H _ us Q I rv ⟨a, xs, rfl, .inr (.of (sb _ _ h1)), fun p hp => q.newL g0 h2 hp⟩
  · cases e
theorem c_tuple (c : Ctx0 X) : CallR X (.type "tuple") (rBlt X .tuple) := by
  intro pins s σ H vs us Q I rv h
  obtain ⟨F, ds, d, m, sb, r, e, q⟩ := h
  have g0 : Grow F H F H := Grow.refl sb
  unfold bltv at e
  split at e <;> first | (rename_i hf; cases hf) | skip
  · cases e
    obtain ⟨v, rfl, hv⟩ := reps1 r
    obtain ⟨a, xs, rfl, h1, h2⟩ := hv.lst_inv
    exact call_tuple_of pins s σ H _ us Q I rv ⟨a, xs, rfl, .inl ⟨.of (sb _ _ h1), fun p hp => q.sh (Grow.newF sb hp) (.tup upd_same (h2.mono (Sub.up (Sub.refl F) (sb.nn hp)))) (.inl rfl)⟩⟩
  · cases e
    obtain ⟨v, rfl, hv⟩ := reps1 r
    obtain ⟨a, xs, rfl, h1, h2⟩ := hv.tup_inv
    exact call_tuple_of pins s σ H _ us Q I rv ⟨a, xs, rfl, .inr ⟨.of (sb _ _ h1), q.sh g0 hv (.inl rfl)⟩⟩
  · cases e
theorem sumv_ints : ∀ {ds : List D} {i : Int}, sumv ds = some i → ∃ ns : List Int, ds = ns.map .int ∧ i = ns.sum
  | [], _, h => by cases h; exact ⟨[], rfl, rfl⟩
  | .int j :: ds, i, h => by
    simp only [sumv, Option.map_eq_some_iff] at h
    obtain ⟨k, h, rfl⟩ := h
    obtain ⟨ns, rfl, rfl⟩ := sumv_ints h
    exact ⟨j :: ns, rfl, by simp⟩
  | .none :: _, _, h | .bool _ :: _, _, h | .str _ :: _, _, h | .list _ :: _, _, h | .tuple _ :: _, _, h | .dict _ :: _, _, h => by simp [sumv] at h
theorem reps_ints {K : PySem.W.Frag} {P : Program} {w : World} {F : Hp} {vs : List V} {ns : List Int} (r : RepAll K P w F vs (ns.map .int)) : vs = ns.map V.int := by
  obtain ⟨ms, h1, h2⟩ := r.of_ints (by simp only [List.all_map, List.all_eq_true]; intro x _; rfl)
  have h3 : ns = ms := by
    have := congrArg (List.map (fun d => match d with | PyData.int i => i | _ => 0)) h2
    simpa [List.map_map, Function.comp_def] using this
  rw [h1, h3]
theorem c_sum (c : Ctx0 X) : CallR X (.builtin "sum") (rBlt X .sum) := by
  intro pins s σ H vs us Q I rv h
  obtain ⟨F, ds, d, m, sb, r, e, q⟩ := h
  have g0 : Grow F H F H := Grow.refl sb
  unfold bltv at e
  split at e <;> first | (rename_i hf; cases hf) | skip
  · obtain ⟨i, e1, e2⟩ := Option.map_eq_some_iff.mp e
    cases e2
    obtain ⟨ns, rfl, rfl⟩ := sumv_ints e1
    obtain ⟨v, rfl, hv⟩ := reps1 r
    obtain ⟨a, xs, rfl, h1, h2⟩ := hv.lst_inv
    rw [reps_ints h2] at h1
    exact cr_sum c.calm pins s σ H _ us Q I rv ⟨a, ns, rfl, .of (sb _ _ h1), q.int g0⟩
  · cases e
theorem c_dict (c : Ctx0 X) : CallR X (.type "dict") (rBlt X .dict) := by
  intro pins s σ H vs us Q I rv h
  obtain ⟨F, ds, d, m, sb, r, e, q⟩ := h
  have g0 : Grow F H F H := Grow.refl sb
  unfold bltv at e
  split at e <;> first | (rename_i hf; cases hf) | skip
  · rename_i l
    split at e
    · rename_i hk
      split at e
      · rename_i hall
        cases e
        obtain ⟨v, rfl, hv⟩ := reps1 r
        obtain ⟨a, rfl, hd⟩ := rep_dict hv hk
        rw [Vals.ref1 rv]
        have own0 : ∀ {kvs : List (Key × V)}, l.map (·.1) = kvs.map (fun p => kD p.1) → RepAll X.K X.prog X.w F (kvs.map (·.2)) (l.map (·.2)) → ∀ p, H p = none → Q (.ref p) (upd H p (.dK kvs)) := fun {kvs} h2 h3 p hp => by
          refine q _ _ F [p] (Grow.newH sb hp) (.dk (sb.nn hp) upd_same h2 h3.own0) (fun a ha => ?_) (by simp)
          have e : a = p := by simpa using ha
          rw [e]; exact hp
        rcases hd with ⟨kvs, h1, h2, h3⟩ | ⟨kvs, h1, h2, h3⟩
        · exact d_copyOf I (sb.rd h1) fun p s' hp I' => ⟨.ref p, _, I', rfl, own0 h2 h3 p hp⟩
        · have e0 : l = [] := nil_of_all (f := isK) hall (allT_of h2)
          subst e0
          have e1 := map_nil_of h2 rfl
          subst e1
          obtain ⟨hd, dd⟩ := empty_T I (sb.rd h1)
          refine kt_call_dict hd dd (Nat.zero_le _) fun h' dd' hs => ?_
          refine ⟨.ref s.heap.objs.size, upd H s.heap.objs.size (.dK []), I.laid (a := s.heap.objs.size) (o := .dK []) (t' := s.toks) (fun b q hq => (hs.2 b (Nat.ne_of_lt (Heap.lt_size hq))).trans (Heap.get?_push_of_some _ hq)) (Nat.le_refl _)
            (dk_new (Nat.zero_le _) (beq_eq_false_iff_ne.mpr (Ne.symm (Nat.ne_of_lt I.big))) .nil dd'), rfl, own0 rfl .nil _ I.fresh⟩
      · cases e
    · cases e
  · cases e
theorem c_repr (c : Ctx0 X) : CallR X (.builtin "repr") (rBlt X .repr) := by
  intro pins s σ H vs us Q I rv h
  obtain ⟨F, ds, d, m, sb, r, e, q⟩ := h
  have g0 : Grow F H F H := Grow.refl sb
  have hu := c.hu
  unfold bltv at e
  split at e <;> first | (rename_i hf; cases hf) | skip
  · rename_i d0
    split at e
    · rename_i hc
      cases e
      simp only [Bool.and_eq_true, decide_eq_true_eq] at hc
      obtain ⟨⟨⟨h1, h2⟩, h3⟩, h4⟩ := hc
      obtain ⟨v, rfl, hv⟩ := reps1 r
      obtain ⟨u, rfl, ru⟩ := vals1 rv
      obtain ⟨as, rd⟩ := Dp.reads I d0 v u (hv.dp sb (SeqAt.canLay_of_shaped h2)) ru
      have hd := SeqAt.depth_of_shaped h2
      obtain ⟨a, rfl⟩ : ∃ a, v = .ref a := by
        cases d0 with
        | list l => obtain ⟨a, _, rfl, _⟩ := hv.lst_inv; exact ⟨a, rfl⟩
        | tuple l => obtain ⟨a, _, rfl, _⟩ := hv.tup_inv; exact ⟨a, rfl⟩
        | _ => cases h1
      obtain rfl : u = Value.ref a := ru
      refine PySem.repr_of_reads' rd h3 (PyData.noDict_hsm (PyData.hasDict_of_canLay _ (SeqAt.canLay_of_shaped h2))) c.gd (by omega) (fun _ _ e => e) (fun h' u tk hk => ⟨.str _, H, I.kept hk, ⟨u, rfl⟩, q.sh g0 (.str _) (.inr rfl)⟩) ?_
      rw [line_eq] at h4; exact h4
    · cases e
  · cases e
end
end Wc
/- part WcE6 -/
namespace Wc
open PySem PySem.Spec PyProof.Rows L2
section
variable {X : Cx}
theorem depthAll_mem : ∀ {ds : List D} {d : D}, d ∈ ds → d.depth ≤ PyData.depthAll ds
  | x :: ds, d, h => by
    simp only [PyData.depthAll]
    rcases List.mem_cons.mp h with e | h
    · subst e; omega
    · have := depthAll_mem h; omega
theorem each_vals {xs : List V} {ds : List D} {us : List Value} (hl : xs.length = ds.length) (r : Vals xs us) : W.EachIs (fun (u : Value) (p : V × D) => RelV p.1 u) us (xs.zip ds) := by
  induction r generalizing ds with
  | nil => cases ds with
    | nil => exact .nil
    | cons _ _ => simp at hl
  | cons h t ih => cases ds with
    | nil => simp at hl
    | cons d ds => exact .cons h (ih (by simpa using hl))
theorem vals_each : ∀ {us : List Value} {ps : List (V × D)}, W.EachIs (fun (u : Value) (p : V × D) => RelV p.1 u) us ps → Vals (ps.map (·.1)) us
  | _, _, .nil => .nil
  | _, _, .cons h t => .cons h (vals_each t)
theorem each_reads {pins : List (Addr × Obj)} {s : Shared} {σ : L2.St} {H F : Hp} (I : L2.Inv X pins σ H s) (sb : Sub F H) : ∀ {xs : List V} {ds : List D} {us : List Value}, RepAll X.K X.prog X.w F xs ds → PyData.canLayAll0 ds = true → Vals xs us →
    W.EachIs (fun (u : Value) (p : V × D) => ∃ as, Reads s.heap u p.2 as) us (xs.zip ds)
  | _, _, _, .nil, _, .nil => .nil
  | _, _, _, .cons h r, c, .cons hu t => by
    simp only [PyData.canLayAll0, Bool.and_eq_true] at c
    exact .cons (Dp.reads I _ _ _ (h.dp sb c.1) hu) (each_reads I sb r c.2 t)
theorem rep_zip {K : PySem.W.Frag} {P : Program} {w : World} {F : Hp} : ∀ {xs : List V} {ds : List D}, RepAll K P w F xs ds → ∀ p ∈ xs.zip ds, Rep K P w F p.1 p.2
  | _, _, .nil, p, h => by simp at h
  | _, _, .cons h r, p, hp => by
    rw [List.zip_cons_cons] at hp
    rcases List.mem_cons.mp hp with e | hp
    · subst e; exact h
    · exact rep_zip r p hp
theorem rep_of_zip {K : PySem.W.Frag} {P : Program} {w : World} {F : Hp} : ∀ {ps : List (V × D)}, (∀ p ∈ ps, Rep K P w F p.1 p.2) → RepAll K P w F (ps.map (·.1)) (ps.map (·.2))
  | [], _ => .nil
  | p :: ps, h => .cons (h p List.mem_cons_self) (rep_of_zip fun q hq => h q (List.mem_cons_of_mem _ hq))
theorem c_sorted (c : Ctx0 X) : CallR X (.builtin "sorted") (rBlt X .sorted) := by
  intro pins s σ H vs us Q I rv h
  obtain ⟨F, ds, d, m, sb, r, e, q⟩ := h
  have g0 : Grow F H F H := Grow.refl sb
  have hu := c.hu
  unfold bltv at e
  split at e <;> first | (rename_i hf; cases hf) | skip
  · rename_i ys
    obtain ⟨l, e1, e2⟩ := Option.map_eq_some_iff.mp e
    cases e2
    obtain ⟨v, rfl, hv⟩ := reps1 r
    obtain ⟨a, xs, rfl, h1, h2⟩ := hv.lst_inv
    rw [Vals.ref1 rv]
    unfold sortv at e1
    split at e1
    · rename_i hc
      cases e1
      simp only [Bool.and_eq_true, decide_eq_true_eq] at hc
      obtain ⟨⟨⟨c1, c2⟩, c3⟩, c4⟩ := hc
      obtain ⟨its, rvs, pl, hz⟩ := I.list (.of (sb _ _ h1))
      have hlen := h2.length
      have al := allAlike_ok c1
      have e2 : (xs.zip ys).map (·.2) = ys := List.map_snd_zip (by omega)
      have hb : ∀ p, p ∈ xs.zip ys → X.A.units + 2 + p.2.depth < cLine := fun p hp => by
        have hm : p.2 ∈ ys := by rw [← e2]; exact List.mem_map.mpr ⟨p, hp, rfl⟩
        have := SeqAt.depth_of_shaped (List.all_eq_true.mp c3 _ hm)
        omega
      have cl : PyData.canLayAll0 ys = true := by
        have : ∀ l : List D, l.all shp = true → PyData.canLayAll0 l = true := by
          intro l
          induction l with
          | nil => intro _; rfl
          | cons x l ih =>
            intro h
            rw [List.all_cons, Bool.and_eq_true] at h
            simp only [PyData.canLayAll0, Bool.and_eq_true]
            exact ⟨SeqAt.canLay_of_shaped h.1, ih h.2⟩
        exact this ys c3
      refine W.sorted_data (enc := fun p : V × D => p.2) (bs := xs.zip ys) (R := fun (u : Value) (p : V × D) => RelV p.1 u) pl.isList (each_vals hlen rvs) (each_reads I sb h2 cl rvs) (by rw [e2]; exact al) (by rw [e2]; exact sortable_ok c2) (by rw [List.length_zip, ← hlen, Nat.min_self]; exact hz) hb fun out ho eo => ?_
      obtain ⟨ep, he'⟩ := PyProof.Rows.sortedAll_at s.heap its out.toArray
      have v1 := vals_each eo
      have ez := zip_sort hlen al
      have rr : RepAll X.K X.prog X.w F (((xs.zip ys).mergeSort (W.dataLe false (fun p : V × D => p.2))).map (·.1)) (isort dle ys) := by
        have := rep_of_zip (ps := (xs.zip ys).mergeSort (W.dataLe false (fun p : V × D => p.2))) fun p hp => rep_zip h2 p ((List.mergeSort_perm _ _).mem_iff.mp hp)
        rwa [ez] at this
      have hn : H (s.heap.objs.size + 1) = none := I.hok.fresh (Nat.le_succ _)
      refine ⟨.ref _, _, I.laid (t' := s.toks) (o := .lst (((xs.zip ys).mergeSort (W.dataLe false (fun p : V × D => p.2))).map (·.1))) (fun _ _ => PyProof.Rows.sortedAll_old) (Nat.le_succ _) ⟨?_, out, ep, v1, he'⟩, rfl, q.newL g0 rr hn⟩
      rw [v1.length, ho, List.length_zip, ← hlen, Nat.min_self]
      exact hz
    · cases e1
  · cases e
/-! ### isinstance -/
def tyS : Ty → String
  | .int => "int"
  | .bool => "bool"
  | .list => "list"
  | .tuple => "tuple"
  | .str => "str"
theorem kit_all (K : PySem.W.Frag) (t : Ty) : PySem.W.kitOne K (.type "int") (.type (tyS t)) = some (match t with | .int => true | _ => false) ∧ PySem.W.kitOne K (.type "bool") (.type (tyS t)) = some (match t with | .int => true | .bool => true | _ => false) ∧
    PySem.W.kitOne K (.type "list") (.type (tyS t)) = some (match t with | .list => true | _ => false) ∧ PySem.W.kitOne K (.type "tuple") (.type (tyS t)) = some (match t with | .tuple => true | _ => false) ∧
    PySem.W.kitOne K (.type "str") (.type (tyS t)) = some (match t with | .str => true | _ => false) ∧ PySem.W.kitOne K (.type "NoneType") (.type (tyS t)) = some false := by
  cases t <;> exact ⟨rfl, rfl, rfl, rfl, rfl, rfl⟩
end
end Wc
/- part WcE7 -/
namespace Wc
open PySem PySem.Spec PyProof.Rows L2
/-! ### slots -/
section
variable {K : PySem.W.Frag} {P : Program} {w : World} {F F' H H' : Hp} {σ : L2.St} {r : Env} {C : Orc}
theorem getv_set {i j : Nat} {x : Option Slot} : getv (r.set i x) j = if j = i then (if i < r.length then x.map (·.2) else none) else getv r j := by
  unfold getv
  by_cases h : j = i
  · subst h
    rw [if_pos rfl]
    by_cases hi : j < r.length
    · rw [if_pos hi, List.getElem?_set_self hi]
      cases x with
      | none => rfl
      | some p => rfl
    · rw [if_neg hi, List.getElem?_eq_none (by simpa using hi)]
  · rw [if_neg h, List.getElem?_set_ne (Ne.symm h)]
theorem EnvR.set (e : EnvR K P w F σ r) {i m : Nat} {v : V} {d : D} (h : Rep K P w F v d) : EnvR K P w F (σ.set i (some v)) (r.set i (some (m, d))) := by
  refine ⟨by rw [List.length_set, List.length_set]; exact e.len, fun j x hj => ?_⟩
  rw [getv_set] at hj
  split at hj
  · rename_i q
    subst q
    split at hj
    · rename_i hl
      cases hj
      exact ⟨v, List.getElem?_set_self (by rw [e.len]; exact hl), h⟩
    · cases hj
  · rename_i q
    obtain ⟨u, h1, h2⟩ := e.get j x hj
    exact ⟨u, by rw [List.getElem?_set_ne (Ne.symm q)]; exact h1, h2⟩
theorem EnvR.wipe (e : EnvR K P w F σ r) : ∀ vs : List Nat, EnvR K P w F (L2.wipe σ vs) (wipeE r vs)
  | [] => e
  | v :: vs => by
    have ih := EnvR.wipe e vs
    unfold L2.wipe wipeE
    refine ⟨by rw [List.length_set, List.length_set]; exact ih.len, fun j x hj => ?_⟩
    rw [getv_set] at hj
    split at hj
    · split at hj <;> cases hj
    · rename_i q
      obtain ⟨u, h1, h2⟩ := ih.get j x hj
      exact ⟨u, by rw [List.getElem?_set_ne (Ne.symm q)]; exact h1, h2⟩
/-! ### targets -/
def gNames : List Nat → TGs
  | [] => gNil
  | i :: is => gCons (gName i) (gNames is)
def gTg (K : PySem.W.Frag) : Tg → TG
  | .one i => gName i
  | .many is => gTup K is.length (gNames is)
def setVs : List Nat → List V → L2.St → L2.St
  | i :: is, v :: vs, σ => setVs is vs (σ.set i (some v))
  | _, _, σ => σ
theorem gNames_ok {Q : L2.St → Hp → Prop} : ∀ {is : List Nat} {vs : List V} {σ : L2.St}, is.length = vs.length → Q (setVs is vs σ) H → gNames is vs σ H Q
  | [], [], σ, _, q => ⟨rfl, q⟩
  | [], _ :: _, _, e, _ => by simp at e
  | _ :: _, [], _, e, _ => by simp at e
  | i :: is, v :: vs, σ, e, q => ⟨v, vs, rfl, gNames_ok (by simpa using e) q⟩
theorem setVs_env : ∀ {is : List Nat} {vs : List V} {ds : List D} {σ : L2.St} {r r' : Env} {m : Nat}, EnvR K P w F σ r → RepAll K P w F vs ds → setMany m is ds r = some r' → is.length = vs.length ∧ EnvR K P w F (setVs is vs σ) r'
  | [], _, _, _, _, _, _, e, .nil, h => by simp only [setMany, Option.some.injEq] at h; subst h; exact ⟨rfl, e⟩
  | i :: is, _, _, _, _, _, _, e, .cons hv hr, h => by
    simp only [setMany] at h
    obtain ⟨h1, h2⟩ := setVs_env (e.set (i := i) (m := _) hv) hr h
    exact ⟨by simp [h1], h2⟩
  | [], _, _, _, _, _, _, _, .cons _ _, h => by simp [setMany] at h
  | _ :: _, _, _, _, _, _, _, _, .nil, h => by simp [setMany] at h
/-- the slots behind a target -/
def tgV (H : Hp) : Tg → V → L2.St → L2.St
  | .one i, v, σ => σ.set i (some v)
  | .many is, .ref a, σ => match H a with
    | some (.tup xs) => setVs is xs σ
    | _ => σ
  | .many _, _, σ => σ
theorem gTg_ok {tg : Tg} {v : V} {d : D} {m : Nat} {r' : Env} {Q : L2.St → Hp → Prop} (s : Sub F H) (e : EnvR K P w F σ r) (h : Rep K P w F v d) (ht : setTg m tg d r = some r') (q : EnvR K P w F (tgV F tg v σ) r' → Q (tgV F tg v σ) H) : gTg K tg v σ H Q := by
  cases tg with
  | one i =>
    simp only [setTg, Option.some.injEq] at ht
    subst ht
    exact q (e.set h)
  | many is =>
    cases d with
    | tuple ds =>
      simp only [setTg] at ht
      obtain ⟨a, xs, rfl, h1, h2⟩ := h.tup_inv
      obtain ⟨hl, he⟩ := setVs_env e h2 ht
      have e1 : tgV F (.many is) (.ref a) σ = setVs is xs σ := by simp [tgV, h1]
      rw [e1] at q
      exact ⟨a, xs, rfl, .of (s _ _ h1), hl.symm, gNames_ok hl (q he)⟩
    | _ => simp [setTg] at ht
theorem setVs_wipe : ∀ {is vs' : List Nat} {xs : List V} {σ : L2.St}, (∀ i ∈ is, i ∈ vs') → L2.wipe (setVs is xs σ) vs' = L2.wipe σ vs' := by
  have set1 : ∀ (vs' : List Nat) (i : Nat) (x : Option V) (σ : L2.St), i ∈ vs' → L2.wipe (σ.set i x) vs' = L2.wipe σ vs' := by
    intro vs'
    induction vs' with
    | nil => intro i x σ h; cases h
    | cons v vs ih =>
      intro i x σ h
      have comm : ∀ (l : List Nat) (σ : L2.St), i ∉ l → L2.wipe (σ.set i x) l = (L2.wipe σ l).set i x := by
        intro l
        induction l with
        | nil => intro σ _; rfl
        | cons y l ih2 =>
          intro σ hn
          unfold L2.wipe
          rw [ih2 σ fun z => hn (List.mem_cons_of_mem _ z), List.set_comm _ _ (fun z => hn (by rw [z]; exact List.mem_cons_self))]
      unfold L2.wipe
      by_cases hm : i ∈ vs
      · rw [ih i x σ hm]
      · rcases List.mem_cons.mp h with e | h
        · subst e
          rw [comm vs σ hm, List.set_set]
        · exact absurd h hm
  intro is
  induction is with
  | nil => intro vs' xs σ _; cases xs <;> rfl
  | cons i is ih =>
    intro vs' xs σ h
    cases xs with
    | nil => rfl
    | cons x xs =>
      show L2.wipe (setVs is xs (σ.set i (some x))) vs' = _
      rw [ih fun j hj => h j (List.mem_cons_of_mem _ hj), set1 vs' i _ σ (h i List.mem_cons_self)]
theorem wipe_wipe {σ : L2.St} (l : List Nat) : L2.wipe (L2.wipe σ l) l = L2.wipe σ l := by
  have out : ∀ (l : List Nat) (σ : L2.St) (j : Nat), (L2.wipe σ l)[j]? = if j ∈ l then (if j < σ.length then some none else none) else σ[j]? := by
    intro l
    induction l with
    | nil => intro σ j; simp [L2.wipe]
    | cons v l ih =>
      intro σ j
      unfold L2.wipe
      by_cases hj : j = v
      · subst hj
        by_cases hl : j < σ.length
        · rw [List.getElem?_set_self (by rw [wipe_length]; exact hl)]; simp [hl]
        · rw [List.getElem?_eq_none (by rw [List.length_set, wipe_length]; omega)]; simp [hl]
      · rw [List.getElem?_set_ne (Ne.symm hj), ih]
        simp [hj]
  refine List.ext_getElem? fun j => ?_
  rw [out, out, wipe_length]
  by_cases h : j ∈ l <;> simp [h, out]
theorem tgV_wipe {tg : Tg} {v : V} {vs : List Nat} (h : ∀ i ∈ tgs tg, i ∈ vs) : L2.wipe (tgV F tg v (L2.wipe σ vs)) vs = L2.wipe σ vs := by
  cases tg with
  | one i =>
    have := setVs_wipe (is := [i]) (vs' := vs) (xs := [v]) (σ := L2.wipe σ vs) (by simpa [tgs] using h)
    exact this.trans (wipe_wipe vs)
  | many is =>
    cases v with
    | ref a =>
      cases q : F a with
      | none => simp only [tgV, q]; exact wipe_wipe vs
      | some o =>
        cases o with
        | tup xs => simp only [tgV, q]; exact (setVs_wipe h).trans (wipe_wipe vs)
        | _ => simp only [tgV, q]; exact wipe_wipe vs
    | _ => simp only [tgV]; exact wipe_wipe vs
end
end Wc
/- part WcE8 -/
namespace Wc
open PySem PySem.Spec PyProof.Rows L2
/-! ### what a loop goes through -/
structure WalkJ (K : PySem.W.Frag) (P : Program) (w : World) (J : It) (F : Hp) (ds : List D) : Prop where
  go : ∀ i H, Sub F H → i < ds.length → J.go i H
  yld : ∀ i H x H', Sub F H → i < ds.length → J.yld i H x H' → ∃ d, ds[i]? = some d ∧ H' = H ∧ ∀ G, Sub F G → Sub G H → ∃ G', Grow G H G' H ∧ Rep K P w G' x d
  stop : ∀ i H, Sub F H → ds.length ≤ i → J.stop i H
section
variable {K : PySem.W.Frag} {P : Program} {w : World} {F F' H H' : Hp} {σ : L2.St} {r : Env} {C : Orc}
theorem walk_list {a : Addr} {xs : List V} {ds : List D} (h : F a = some (.lst xs)) (rr : RepAll K P w F xs ds) : WalkJ K P w (Itl K a) F ds where
  go := fun i H s hi => by
    obtain ⟨v, hv, _⟩ := rr.get (List.getElem?_eq_getElem hi)
    exact ⟨xs, v, .of (s _ _ h), hv⟩
  yld := fun i H x H' s hi y => by
    obtain ⟨e, y⟩ := y
    obtain ⟨d, hd, rd⟩ := rr.getV (y xs (.of (s _ _ h)))
    exact ⟨d, hd, e, fun G g1 g2 => ⟨G, Grow.refl g2, rd.mono g1⟩⟩
  stop := fun i H s hi => ⟨xs, .of (s _ _ h), by rw [rr.length]; exact hi⟩
theorem walk_tup {a : Addr} {xs : List V} {ds : List D} (h : F a = some (.tup xs)) (rr : RepAll K P w F xs ds) : WalkJ K P w (Itt K a) F ds where
  go := fun i H s hi => by
    obtain ⟨v, hv, _⟩ := rr.get (List.getElem?_eq_getElem hi)
    exact ⟨xs, v, .of (s _ _ h), hv⟩
  yld := fun i H x H' s hi y => by
    obtain ⟨e, y⟩ := y
    obtain ⟨d, hd, rd⟩ := rr.getV (y xs (.of (s _ _ h)))
    exact ⟨d, hd, e, fun G g1 g2 => ⟨G, Grow.refl g2, rd.mono g1⟩⟩
  stop := fun i H s hi => ⟨xs, .of (s _ _ h), by rw [rr.length]; exact hi⟩
theorem walk_rev {a : Addr} {xs : List V} {ds : List D} (h : F a = some (.lst xs)) (rr : RepAll K P w F xs ds) : WalkJ K P w (Itv K a xs.length) F ds.reverse where
  go := fun i H s hi => by
    have hl := rr.length
    rw [List.length_reverse] at hi
    have h2 : ds.length - 1 - i < ds.length := by omega
    obtain ⟨v, hv, _⟩ := rr.get (List.getElem?_eq_getElem h2)
    exact ⟨by omega, xs, v, .of (s _ _ h), by rw [hl]; exact hv⟩
  yld := fun i H x H' s hi y => by
    have hl := rr.length
    rw [List.length_reverse] at hi
    obtain ⟨e, y⟩ := y
    obtain ⟨d, hd, rd⟩ := rr.getV (y xs (.of (s _ _ h)))
    refine ⟨d, ?_, e, fun G g1 g2 => ⟨G, Grow.refl g2, rd.mono g1⟩⟩
    rw [List.getElem?_reverse hi, ← hl]
    exact hd
  stop := fun i H s hi => by
    rw [List.length_reverse] at hi
    show xs.length ≤ i
    rw [rr.length]; exact hi
theorem walk_rng (i j : Int) : WalkJ K P w (Itr i (j - i).toNat) F (rngv i j) where
  go := fun k H s hk => by
    simp only [rngv, List.length_map, List.length_range] at hk
    exact hk
  yld := fun k H x H' s hk y => by
    obtain ⟨e, y⟩ := y
    subst y
    simp only [rngv, List.length_map, List.length_range] at hk
    refine ⟨.int (i + k), ?_, e, fun G g1 g2 => ⟨G, Grow.refl g2, .int _⟩⟩
    simp only [rngv, List.getElem?_map, List.getElem?_range hk]
    rfl
  stop := fun k H s hk => by
    simp only [rngv, List.length_map, List.length_range] at hk
    exact hk
theorem walk_keysK {d : Addr} {o : Obj} {kvs : List (Key × V)} {l : List (D × D)} (h : F d = some (.frz o (.dK kvs))) (e : l.map (·.1) = kvs.map (fun p => kD p.1)) : WalkJ K P w (Itk d o kvs) F (l.map (·.1)) where
  go := fun i H s hi => ⟨s _ _ h, by rw [e, List.length_map] at hi; exact hi⟩
  yld := fun i H x H' s hi y => by
    obtain ⟨e1, k, v, hk, rfl⟩ := y
    refine ⟨kD k, ?_, e1, fun G g1 g2 => ⟨G, Grow.refl g2, ?_⟩⟩
    · rw [e, List.getElem?_map, hk]; rfl
    · cases k with
      | inl i => exact .int i
      | inr x => exact .str x
  stop := fun i H s hi => ⟨s _ _ h, by rw [e, List.length_map] at hi; exact hi⟩
theorem RepAll.keys (k : List Key) : RepAll K P w F (k.map kV) (k.map kD) := by
  induction k with
  | nil => exact .nil
  | cons x k ih =>
    refine .cons ?_ ih
    cases x with
    | inl i => exact .int i
    | inr x => exact .str x
theorem walk_keysT {d : Addr} {o : Obj} {kvs : List (List Key × V)} {l : List (D × D)} (h : F d = some (.frz o (.dT kvs))) (e : l.map (·.1) = kvs.map (fun p => tkD p.1)) : WalkJ K P w (Itkt d o kvs) F (l.map (·.1)) where
  go := fun i H s hi => ⟨s _ _ h, by rw [e, List.length_map] at hi; exact hi⟩
  yld := fun i H x H' s hi y => by
    obtain ⟨e1, k, v, q, hk, rfl, hq⟩ := y
    refine ⟨tkD k, ?_, e1, fun G g1 g2 => ⟨_, Grow.tupF g2 hq, .tup upd_same (RepAll.keys k)⟩⟩
    rw [e, List.getElem?_map, hk]; rfl
  stop := fun i H s hi => ⟨s _ _ h, by rw [e, List.length_map] at hi; exact hi⟩
end
section
variable (K : PySem.W.Frag) (P : Program) (w : World)
def tIt (C : Orc) (c : CE) : TI := fun σ H R => ∃ F r x m ds, Sub F H ∧ EnvR K P w F σ r ∧ evE C r c = some (x, m) ∧ itemsOf x = some ds ∧ ∀ H' F' Fw J, Grow F H F' H' → WalkJ K P w J Fw ds → Sub Fw F' → (clean m x = true → ∀ a o, Fw a = some o → H a = none ∨ ∃ xs, o = .tup xs) → R J H'
end
section
variable {X : Cx} {C : Orc} {tg e : Expr} {c : CE}
theorem pi_imp {wi wi' : TI} (h : PI X tg e wi) (f : ∀ σ H R, wi' σ H R → wi σ H R) : PI X tg e wi' := ⟨fun pins s σ H R I q => h.run pins s σ H R I (f σ H R q)⟩
theorem pi_either {wi wi' : TI} (h : PI X tg e wi) (h' : PI X tg e wi') : PI X tg e (fun σ H R => wi σ H R ∨ wi' σ H R) := ⟨fun pins s σ H R I q => q.elim (h.run pins s σ H R I) (h'.run pins s σ H R I)⟩
/-- what of a frozen part is tuples -/
def thinF (F : Hp) : Hp := fun a => match F a with
  | some (.tup xs) => some (.tup xs)
  | _ => none
theorem thin_sub (F : Hp) : Sub (thinF F) F := fun a o e => by
  unfold thinF at e
  split at e
  · rename_i xs h; cases e; exact h
  · cases e
theorem thin_tup {F : Hp} {a : Addr} {o : HO} (e : thinF F a = some o) : ∃ xs, o = .tup xs := by
  unfold thinF at e
  split at e
  · cases e; exact ⟨_, rfl⟩
  · cases e
/-- the value of what is walked, with as little frozen as may be -/
theorem walk_at {K : PySem.W.Frag} {P : Program} {w : World} {F H F1 H1 : Hp} {x : D} {m : Nat} {v : V} {ft : List Addr} (g : Grow F H F1 H1) (o : Own K P w F1 H1 m v x ft) (hn : ∀ a ∈ ft, H a = none) :
    ∃ Fw, Rep K P w Fw v x ∧ Sub Fw (addF F1 H1 ft) ∧ Sub Fw H1 ∧ (clean m x = true → ∀ a o, Fw a = some o → H a = none ∨ ∃ xs, o = .tup xs) := by
  have fr : ∀ {F2 : Hp}, ∀ a ∈ ft, ∀ ob, H1 a = some ob → addF F2 H1 ft a = some ob := fun a ha ob e => by rw [addF_in ha]; exact e
  by_cases hc : clean m x = true
  · have ct := o.clean (F' := thinF F1) (fun a xs e => by unfold thinF; rw [e]) (fun a e => by unfold thinF; rw [e]) hc
    have st : Sub (thinF F1) H1 := (thin_sub F1).trans g.into
    refine ⟨addF (thinF F1) H1 ft, ct.rep (addF_sub st) fr, fun a ob e => ?_, addF_into st, fun _ a ob e => ?_⟩
    · by_cases q : a ∈ ft
      · rw [addF_in q] at e; rw [addF_in q]; exact e
      · rw [addF_out q] at e; rw [addF_out q]; exact thin_sub _ _ _ e
    · by_cases q : a ∈ ft
      · exact .inl (hn a q)
      · rw [addF_out q] at e; exact .inr (thin_tup e)
  · exact ⟨addF F1 H1 ft, o.rep (addF_sub g.into) fr, Sub.refl _, addF_into g.into, fun z => absurd z hc⟩
theorem WalkJ.mono {K : PySem.W.Frag} {P : Program} {w : World} {J : It} {F F' : Hp} {ds : List D} (s : Sub F F') (h : WalkJ K P w J F ds) : WalkJ K P w J F' ds where
  go := fun i H k hi => h.go i H (s.trans k) hi
  yld := fun i H x H' k hi y => by
    obtain ⟨d, e1, e2, e3⟩ := h.yld i H x H' (s.trans k) hi y
    exact ⟨d, e1, e2, fun G g1 g2 => e3 G (s.trans g1) g2⟩
  stop := fun i H k hi => h.stop i H (s.trans k) hi
/-- a list or a tuple -/
theorem pi_val (h : PE X e (tEv X.K X.prog X.w C c)) : PI X tg e (tIt X.K X.prog X.w C c) := by
  refine pi_imp (pi_either (pi_list h) (pi_tup h)) fun σ H R ⟨F, r, x, m, ds, s, en, ev, it, q⟩ => ?_
  cases x with
  | list l =>
    simp only [itemsOf, Option.some.injEq] at it
    subst it
    refine .inl ⟨F, r, _, m, s, en, ev, fun v H' F1 ft g o hn nd => ?_⟩
    obtain ⟨Fw, rv, w1, w2, w3⟩ := walk_at g o hn
    obtain ⟨a, xs, rfl, h1, h2⟩ := rv.lst_inv
    exact ⟨a, rfl, ⟨xs, .of (w2 _ _ h1)⟩, q H' _ Fw _ (g.addF hn) (walk_list h1 h2) w1 w3⟩
  | tuple l =>
    simp only [itemsOf, Option.some.injEq] at it
    subst it
    refine .inr ⟨F, r, _, m, s, en, ev, fun v H' F1 ft g o hn nd => ?_⟩
    obtain ⟨Fw, rv, w1, w2, w3⟩ := walk_at g o hn
    obtain ⟨a, xs, rfl, h1, h2⟩ := rv.tup_inv
    exact ⟨a, rfl, ⟨xs, .of (w2 _ _ h1)⟩, q H' _ Fw _ (g.addF hn) (walk_tup h1 h2) w1 w3⟩
  | _ => simp [itemsOf] at it
theorem ev_rng {r : Env} {a b : CE} {x : D} {m : Nat} (h : evE C r (.rng a b) = some (x, m)) : ∃ i j m1 m2, evE C r a = some (.int i, m1) ∧ evE C r b = some (.int j, m2) ∧ rngOk i j = true ∧ x = .list (rngv i j) := by
  simp only [evE] at h
  split at h
  · split at h
    · split at h
      · cases h
        exact ⟨_, _, _, _, by assumption, by assumption, by assumption, rfl⟩
      · cases h
    · cases h
  · cases h
theorem rng_ok {i j : Int} (h : rngOk i j = true) : -(2 ^ 62) ≤ i ∧ i < 2 ^ 62 ∧ -(2 ^ 62) ≤ j ∧ j < 2 ^ 62 := by
  simp only [rngOk, Bool.and_eq_true, decide_eq_true_eq] at h
  exact ⟨h.1.1.1, h.1.1.2, h.1.2, h.2⟩
/-- range(a, b) -/
theorem pi_rng2 {a b : CE} {ea eb : Expr} {p pos : Pos} (hg : Gl X "range") (hm : X.mg "range" = none) (ha : PE X ea (tEv X.K X.prog X.w C a)) (hb : PE X eb (tEv X.K X.prog X.w C b))
    (s1 : starEach [ea, eb] X.env = (false, eval ea X.env) :: starEach [eb] X.env) (s2 : starEach [eb] X.env = (false, eval eb X.env) :: starEach [] X.env) :
    PI X tg (.Call (.Name "range" p) [ea, eb] [] pos) (tIt X.K X.prog X.w C (.rng a b)) := by
  refine pi_imp (pi_range2 hg hm (pa_cons ha (pa_cons hb pa_nil s2) s1) (by rw [s1, s2]; rfl) s2) fun σ H R ⟨F, r, x, m, ds, s, en, ev, it, q⟩ => ?_
  obtain ⟨i, j, m1, m2, e1, e2, ok, rfl⟩ := ev_rng ev
  simp only [itemsOf, Option.some.injEq] at it
  subst it
  refine use2 s en e1 e2 fun u v H' F' g ru rv => ⟨i, j, by rw [ru.int_inv, rv.int_inv], rng_ok ok, q H' F' (fun _ => none) _ g (walk_rng i j) (fun _ _ h => by cases h) (fun _ _ _ h => by cases h)⟩
theorem pi_rng1 {b : CE} {eb : Expr} {p pos : Pos} (hg : Gl X "range") (hm : X.mg "range" = none) (hb : PE X eb (tEv X.K X.prog X.w C b)) (s2 : starEach [eb] X.env = (false, eval eb X.env) :: starEach [] X.env) :
    PI X tg (.Call (.Name "range" p) [eb] [] pos) (tIt X.K X.prog X.w C (.rng (.lit (.int 0)) b)) := by
  refine pi_imp (pi_range1 hg hm (pa_cons hb pa_nil s2) s2) fun σ H R ⟨F, r, x, m, ds, s, en, ev, it, q⟩ => ?_
  obtain ⟨i, j, m1, m2, e1, e2, ok, rfl⟩ := ev_rng ev
  simp only [evE, Option.some.injEq, Prod.mk.injEq, PyData.int.injEq] at e1
  obtain ⟨e1, _⟩ := e1
  subst e1
  simp only [itemsOf, Option.some.injEq] at it
  subst it
  refine use s en e2 fun v H' F' g rv => ?_
  obtain ⟨_, _, k1, k2⟩ := rng_ok ok
  have := q H' F' (fun _ => none) _ g (walk_rng 0 j) (fun _ _ h => by cases h) (fun _ _ _ h => by cases h)
  rw [Int.sub_zero] at this
  exact ⟨j, by rw [rv.int_inv], k1, k2, this⟩
/-- reversed(x) -/
theorem pi_rvd {a : CE} {ea : Expr} {p pos : Pos} (hg : Gl X "reversed") (hm : X.mg "reversed" = none) (ha : PE X ea (tEv X.K X.prog X.w C a)) (s2 : starEach [ea] X.env = (false, eval ea X.env) :: starEach [] X.env) :
    PI X tg (.Call (.Name "reversed" p) [ea] [] pos) (tIt X.K X.prog X.w C (.rvd a)) := by
  refine pi_imp (pi_reversed hg hm (pa_cons ha pa_nil s2) s2) fun σ H R ⟨F, r, x, m, ds, s, en, ev, it, q⟩ => ?_
  simp only [evE] at ev
  split at ev
  · rename_i l m' e1
    cases ev
    simp only [itemsOf, Option.some.injEq] at it
    subst it
    refine use s en e1 fun v H' F' g rv => ?_
    obtain ⟨a, xs, rfl, h1, h2⟩ := rv.lst_inv
    exact ⟨a, xs, rfl, .of (g.into _ _ h1), q H' F' F' _ g (walk_rev h1 h2) (Sub.refl _) (fun z => by simp [clean] at z)⟩
  · cases ev
end
end Wc
/- part WcE9 -/
namespace Wc
open PySem PySem.Spec PyProof.Rows L2
/-! ### argument lists -/
section
variable (K : PySem.W.Frag) (P : Program) (w : World)
inductive OwnEach (F H : Hp) : List (D × Nat) → List V → List Addr → Prop
  | nil : OwnEach F H [] [] []
  | cons {d : D} {m : Nat} {l : List (D × Nat)} {v : V} {vs : List V} {f g : List Addr} : Own K P w F H m v d f → OwnEach F H l vs g → OwnEach F H ((d, m) :: l) (v :: vs) (f ++ g)
def tEvs (C : Orc) (cs : List CE) : TA := fun σ H Q => ∃ F r l, Sub F H ∧ EnvR K P w F σ r ∧ evEs C r cs = some l ∧ ∀ vs H' F' ft, Grow F H F' H' → OwnEach K P w F' H' l vs ft → (∀ a ∈ ft, H a = none) → ft.Nodup → Q vs H'
end
section
variable {K : PySem.W.Frag} {P : Program} {w : World} {F F' H H' : Hp} {σ : L2.St} {r : Env} {C : Orc}
theorem OwnEach.at_ : ∀ {l : List (D × Nat)} {vs : List V} {ft : List Addr}, OwnEach K P w F H l vs ft → ∀ a ∈ ft, F a = none ∧ ∃ o, H a = some o ∧ ownable o
  | _, _, _, .nil, a, h => absurd h (by simp)
  | _, _, _, .cons h r, a, ha => by
    rcases List.mem_append.mp ha with ha | ha
    · exact h.at_ a ha
    · exact OwnEach.at_ r a ha
theorem OwnEach.rep (s : Sub F F') : ∀ {l : List (D × Nat)} {vs : List V} {ft : List Addr}, OwnEach K P w F H l vs ft → (∀ a ∈ ft, ∀ o, H a = some o → F' a = some o) → RepAll K P w F' vs (l.map (·.1))
  | _, _, _, .nil, _ => .nil
  | _, _, _, .cons h r, k => .cons (h.rep s fun a ha => k a (List.mem_append_left _ ha)) (OwnEach.rep s r fun a ha => k a (List.mem_append_right _ ha))
theorem OwnEach.mono (s : Sub F F') : ∀ {l : List (D × Nat)} {vs : List V} {ft : List Addr}, OwnEach K P w F H l vs ft → (∀ a ∈ ft, F' a = none ∧ ∀ o, H a = some o → H' a = some o) → OwnEach K P w F' H' l vs ft
  | _, _, _, .nil, _ => .nil
  | _, _, _, .cons h r, k => .cons (h.mono s fun a ha => k a (List.mem_append_left _ ha)) (OwnEach.mono s r fun a ha => k a (List.mem_append_right _ ha))
/-- what is owned stays so while other things grow -/
theorem Grow.stays {F H F' H' : Hp} (g : Grow F H F' H') {a : Addr} {o : HO} (h1 : F a = none) (h2 : H a = some o) (ho : ownable o) : F' a = none ∧ ∀ o, H a = some o → H' a = some o := by
  refine ⟨?_, fun o e => g.same a o e⟩
  cases q : F' a with
  | none => rfl
  | some u =>
    exfalso
    rcases g.new a (by rw [q]; simp) with z | z | ⟨xs, z⟩
    · exact z h1
    · rw [h2] at z; cases z
    · rw [h2] at z; cases z; exact ho
theorem usel (s : Sub F H) (e : EnvR K P w F σ r) {cs : List CE} {l : List (D × Nat)} {Q : List V → Hp → Prop} (h : evEs C r cs = some l) (q : ∀ vs H' F', Grow F H F' H' → RepAll K P w F' vs (l.map (·.1)) → Q vs H') : tEvs K P w C cs σ H Q :=
  ⟨F, r, l, s, e, h, fun vs H' F' ft g o hn nd => q vs H' (addF F' H' ft) (g.addF hn) (o.rep (addF_sub g.into) fun a ha ob e => by rw [addF_in ha]; exact e)⟩
/-- one depth for all: the least one; unchangeable things have any -/
theorem OwnEach.all (s : Sub F H) : ∀ {l : List (D × Nat)} {vs : List V} {ft : List Addr} (k : Nat), OwnEach K P w F H l vs ft → k ≤ kmode l → ft.Nodup → ∃ ft' fz, (ft' ++ fz).Perm ft ∧ OwnAll K P w (Wc.addF F H fz) H k vs (l.map (·.1)) ft'
  | _, _, _, k, .nil, _, _ => ⟨[], [], .refl _, .nil⟩
  | _, _, _, k, .cons (d := d) (m := m) (f := f) (g := g) h r, hk, nd => by
    obtain ⟨n1, n2, n3⟩ := List.nodup_append.mp nd
    simp only [kmode] at hk
    have hk2 : k ≤ kmode _ := Nat.le_trans hk (Nat.min_le_right _ _)
    obtain ⟨g', gz, q, t⟩ := OwnEach.all s k r hk2 n2
    obtain ⟨f', fz, p, o⟩ : ∃ f' fz, (f' ++ fz).Perm f ∧ Own K P w (Wc.addF F H fz) H k _ d f' := by
      by_cases hi : immut d = true
      · obtain ⟨f', fz, p, o⟩ := Own.weak s 0 h (Nat.zero_le _) n1
        refine ⟨[], f' ++ fz, p, .sh ?_ (.inr hi)⟩
        cases o with
        | sh o _ => exact o
      · rw [if_neg hi] at hk
        exact Own.weak s k h (Nat.le_trans hk (Nat.min_le_left _ _)) n1
    have aF : ∀ a ∈ f, F a = none := fun a ha => (h.at_ a ha).1
    have aG : ∀ a ∈ g, F a = none := fun a ha => (r.at_ a ha).1
    have p1 : ∀ a, a ∈ f' → a ∈ f := fun a ha => p.mem_iff.mp (List.mem_append_left _ ha)
    have p2 : ∀ a, a ∈ fz → a ∈ f := fun a ha => p.mem_iff.mp (List.mem_append_right _ ha)
    have q1 : ∀ a, a ∈ g' → a ∈ g := fun a ha => q.mem_iff.mp (List.mem_append_left _ ha)
    have q2 : ∀ a, a ∈ gz → a ∈ g := fun a ha => q.mem_iff.mp (List.mem_append_right _ ha)
    have d1 := (List.nodup_append.mp (p.nodup_iff.mpr n1)).2.2
    have d2 := (List.nodup_append.mp (q.nodup_iff.mpr n2)).2.2
    refine ⟨f' ++ g', fz ++ gz, ?_, .cons (Own.mono (addF_mono s fun a ha => List.mem_append_left _ ha) o fun a ha => ⟨addF_none (fun z => ?_) (aF a (p1 a ha)), fun _ e => e⟩)
      (OwnAll.mono (addF_mono s fun a ha => List.mem_append_right _ ha) t fun a ha => ⟨addF_none (fun z => ?_) (aG a (q1 a ha)), fun _ e => e⟩)⟩
    · have e1 : (f' ++ g' ++ (fz ++ gz)).Perm (f' ++ fz ++ (g' ++ gz)) := by
        rw [List.append_assoc, List.append_assoc]
        refine List.Perm.append_left f' ?_
        rw [← List.append_assoc, ← List.append_assoc]
        exact List.Perm.append_right gz (List.perm_append_comm)
      exact e1.trans (p.append q)
    · rcases List.mem_append.mp z with z | z
      · exact d1 a ha a z rfl
      · exact n3 a (p1 a ha) a (q2 a z) rfl
    · rcases List.mem_append.mp z with z | z
      · exact n3 a (p2 a z) a (q1 a ha) rfl
      · exact d2 a ha a z rfl
end
section
variable {X : Cx} {C : Orc} {e ea eb ec : Expr} {c a b : CE} {pos : Pos}
abbrev TE' (X : Cx) (C : Orc) (c : CE) : TE := tEv X.K X.prog X.w C c
abbrev TT' (X : Cx) (C : Orc) (c : CE) : TT := tTs X.K X.prog X.w C c
theorem pe_imp {t t' : TE} (h : PE X e t) (f : ∀ σ H Q, t' σ H Q → t σ H Q) : PE X e t' := ⟨fun pins s σ H Q I q => h.run pins s σ H Q I (f σ H Q q)⟩
theorem pt_imp {t t' : TT} (h : PT X e t) (f : ∀ σ H Q, t' σ H Q → t σ H Q) : PT X e t' := ⟨fun pins s σ H Q I q => h.run pins s σ H Q I (f σ H Q q)⟩
theorem pw_imp {t t' : TT} (h : PW X e t) (f : ∀ σ H Q, t' σ H Q → t σ H Q) : PW X e t' := ⟨fun wh pins s σ H Q I q => h.run wh pins s σ H Q I (f σ H Q q)⟩
/-- a test by its value -/
theorem pt_of (h : PE X e (TE' X C c)) (he : ∀ whole, isTrue e X.env whole = (do let v ← whole; standAt e.pos; holding [v] (truthy v))) : PT X e (TT' X C c) :=
  pt_imp (pt_val h he) fun σ H Q ⟨F, r, b, m, s, en, ev, q⟩ => use s en ev fun v H' F' g rv => ⟨b, rv.bl_inv, q H' F' g⟩
theorem pa_nil' : PA X [] (tEvs X.K X.prog X.w C []) := ⟨fun pos pins s σ H Q I ⟨F, r, l, sb, en, ev, q⟩ => pa_nil.run pos pins s σ H Q I (by
  simp only [evEs, Option.some.injEq] at ev
  subst ev
  exact q [] H F [] (Grow.refl sb) .nil (fun _ h => absurd h (by simp)) List.nodup_nil)⟩
theorem pa_cons' {es : List Expr} {cs : List CE} (h : PE X e (TE' X C c)) (hr : PA X es (tEvs X.K X.prog X.w C cs)) (hs : starEach (e :: es) X.env = (false, eval e X.env) :: starEach es X.env) : PA X (e :: es) (tEvs X.K X.prog X.w C (c :: cs)) := by
  refine ⟨fun pos pins s σ H Q I ⟨F, r, l, sb, en, ev, q⟩ => (pa_cons h hr hs).run pos pins s σ H Q I ?_⟩
  simp only [evEs] at ev
  split at ev
  · rename_i p ep
    split at ev
    · rename_i l' el
      cases ev
      refine ⟨F, r, p.1, p.2, sb, en, ep, fun v H1 F1 f g1 o1 n1 nd1 => ⟨F1, r, l', g1.into, en.mono g1.sub, el, fun vs H2 F2 f2 g2 o2 n2 nd2 => ?_⟩⟩
      have st : ∀ a ∈ f, F2 a = none ∧ ∀ o, H1 a = some o → H2 a = some o := fun a ha => by
        obtain ⟨z, o, e, ho⟩ := o1.at_ a ha
        exact g2.stays z e ho
      refine q (v :: vs) H2 F2 (f ++ f2) (g1.trans g2) (.cons (o1.mono g2.sub st) o2) (fun a ha => ?_) ?_
      · rcases List.mem_append.mp ha with ha | ha
        · exact n1 a ha
        · have := n2 a ha
          cases z : H a with
          | none => rfl
          | some o => rw [g1.same a o z] at this; cases this
      · refine List.nodup_append.mpr ⟨nd1, nd2, fun a ha b hb e => ?_⟩
        subst e
        obtain ⟨_, o, e, _⟩ := o1.at_ a ha
        rw [n2 a hb] at e
        cases e
    · cases ev
  · cases ev
/-! ### names and constants -/
theorem e_var {i : Nat} {x : Str} (hN : X.N[i]? = some x) (hv : Vis X.env.scope x) (hd : (x == ("__debug__" : Str)) = false) (hcd : (x == ("__classdict__" : Str)) = false) : PE X (.Name x pos) (TE' X C (.var i)) := by
  refine pe_imp (pe_var hN hv hd hcd) fun σ H Q ⟨F, r, d, m, s, en, ev, q⟩ => ?_
  simp only [evE, Option.map_eq_some_iff] at ev
  obtain ⟨d', h1, h2⟩ := ev
  cases h2
  obtain ⟨v, h3, h4⟩ := en.get i d h1
  exact ⟨v, h3, q.sh (Grow.refl s) h4 (.inl rfl)⟩
theorem e_int {i : Int} {k : Nat} : PE X (.Constant (.int i) k pos) (TE' X C (.lit (.int i))) := pe_imp pe_int fun σ H Q ⟨F, r, d, m, s, en, ev, q⟩ => by
  simp only [evE, Option.some.injEq, Prod.mk.injEq] at ev
  obtain ⟨rfl, rfl⟩ := ev
  exact q.int (Grow.refl s)
theorem e_bl {i : Bool} {k : Nat} : PE X (.Constant (.bool i) k pos) (TE' X C (.lit (.bool i))) := pe_imp pe_bl fun σ H Q ⟨F, r, d, m, s, en, ev, q⟩ => by
  simp only [evE, Option.some.injEq, Prod.mk.injEq] at ev
  obtain ⟨rfl, rfl⟩ := ev
  exact q.bl (Grow.refl s)
theorem e_non {k : Nat} : PE X (.Constant .none k pos) (TE' X C (.lit .none)) := pe_imp pe_non fun σ H Q ⟨F, r, d, m, s, en, ev, q⟩ => by
  simp only [evE, Option.some.injEq, Prod.mk.injEq] at ev
  obtain ⟨rfl, rfl⟩ := ev
  exact q.sh (Grow.refl s) .non (.inl rfl)
theorem e_str {x : Str} {k : Nat} : PE X (.Constant (.str x) k pos) (TE' X C (.lit (.str x))) := pe_imp pe_str fun σ H Q ⟨F, r, d, m, s, en, ev, q⟩ => by
  simp only [evE, Option.some.injEq, Prod.mk.injEq] at ev
  obtain ⟨rfl, rfl⟩ := ev
  exact q.sh (Grow.refl s) (.str x) (.inl rfl)
/-! ### displays -/
theorem e_lst {es : List Expr} {cs : List CE} (h : PA X es (tEvs X.K X.prog X.w C cs)) (hn : cs.length ≤ 100) (he : es.length = cs.length) : PE X (.List es pos) (TE' X C (.lst cs)) := by
  refine pe_imp (pe_lst h) fun σ H Q ⟨F, r, d, m, s, en, ev, q⟩ => ?_
  simp only [evE] at ev
  split at ev
  · rename_i l el
    cases ev
    refine ⟨F, r, l, s, en, el, fun vs H1 F1 ft g o hf nd => ⟨?_, fun p hp => ?_⟩⟩
    · have : ∀ {cs : List CE} {l : List (D × Nat)}, evEs C r cs = some l → l.length = cs.length := by
        intro cs
        induction cs with
        | nil => intro l h; simp only [evEs, Option.some.injEq] at h; subst h; rfl
        | cons c cs ih =>
          intro l h
          simp only [evEs] at h
          split at h
          · split at h
            · cases h; rw [List.length_cons, List.length_cons, ih (by assumption)]
            · cases h
          · cases h
      have hl : ∀ {l : List (D × Nat)} {vs : List V} {ft : List Addr}, OwnEach X.K X.prog X.w F1 H1 l vs ft → vs.length = l.length := by
        intro l vs ft h
        induction h with
        | nil => rfl
        | cons _ _ ih => rw [List.length_cons, List.length_cons, ih]
      rw [hl o, this el, sizeLine_eq]
      omega
    · obtain ⟨f', fz, p', oa⟩ := o.all g.into (kmode l) (Nat.le_refl _) nd
      have hz : ∀ a, a ∈ fz → a ∈ ft := fun a ha => p'.mem_iff.mp (List.mem_append_right _ ha)
      have h1 : ∀ a, a ∈ f' → a ∈ ft := fun a ha => p'.mem_iff.mp (List.mem_append_left _ ha)
      have gz : Grow F H (addF F1 H1 fz) H1 := g.addF fun a ha => hf a (hz a ha)
      have pn : p ∉ ft := fun z => by
        obtain ⟨_, o', e, _⟩ := o.at_ p z
        rw [hp] at e; cases e
      refine q (.ref p) (upd H1 p (.lst vs)) (addF F1 H1 fz) (p :: f') (gz.trans (Grow.newH gz.into hp)) (.lst (gz.into.nn hp) upd_same (oa.mono (Sub.refl _) fun a ha => ?_)) (fun a ha => ?_) ?_
      · refine ⟨(oa.at_ a ha).1, fun o' e => ?_⟩
        rw [upd_ne (fun z : a = p => pn (z ▸ h1 a ha))]
        exact e
      · rcases List.mem_cons.mp ha with e | ha
        · subst e
          cases z : H a with
          | none => rfl
          | some o => rw [g.same a o z] at hp; cases hp
        · exact hf a (h1 a ha)
      · exact List.nodup_cons.mpr ⟨fun z => pn (h1 p z), (List.nodup_append.mp (p'.nodup_iff.mpr nd)).1⟩
  · cases ev
theorem e_tup {es : List Expr} {cs : List CE} {k : Nat} (h : PA X es (tEvs X.K X.prog X.w C cs)) (hn : cs.length ≤ 100) : PE X (.Tuple es k pos) (TE' X C (.tup cs)) := by
  refine pe_imp (pe_tup h) fun σ H Q ⟨F, r, d, m, s, en, ev, q⟩ => ?_
  simp only [evE] at ev
  split at ev
  · rename_i l el
    cases ev
    refine ⟨F, r, l, s, en, el, fun vs H1 F1 ft g o hf nd => ⟨?_, fun p hp => ?_⟩⟩
    · have : ∀ {cs : List CE} {l : List (D × Nat)}, evEs C r cs = some l → l.length = cs.length := by
        intro cs
        induction cs with
        | nil => intro l h; simp only [evEs, Option.some.injEq] at h; subst h; rfl
        | cons c cs ih =>
          intro l h
          simp only [evEs] at h
          split at h
          · split at h
            · cases h; rw [List.length_cons, List.length_cons, ih (by assumption)]
            · cases h
          · cases h
      have hl : ∀ {l : List (D × Nat)} {vs : List V} {ft : List Addr}, OwnEach X.K X.prog X.w F1 H1 l vs ft → vs.length = l.length := by
        intro l vs ft h
        induction h with
        | nil => rfl
        | cons _ _ ih => rw [List.length_cons, List.length_cons, ih]
      rw [hl o, this el, sizeLine_eq]
      omega
    · obtain ⟨f', fz, p', oa⟩ := o.all g.into (kmode l) (Nat.le_refl _) nd
      have hz : ∀ a, a ∈ fz → a ∈ ft := fun a ha => p'.mem_iff.mp (List.mem_append_right _ ha)
      have h1 : ∀ a, a ∈ f' → a ∈ ft := fun a ha => p'.mem_iff.mp (List.mem_append_left _ ha)
      have gz : Grow F H (addF F1 H1 fz) H1 := g.addF fun a ha => hf a (hz a ha)
      have pn : p ∉ ft := fun z => by
        obtain ⟨_, o', e, _⟩ := o.at_ p z
        rw [hp] at e; cases e
      refine q (.ref p) (upd H1 p (.tup vs)) (upd (addF F1 H1 fz) p (.tup vs)) f' (gz.trans (Grow.newF gz.into hp)) (.tup upd_same (oa.mono (Sub.up (Sub.refl _) (gz.into.nn hp)) fun a ha => ?_)) (fun a ha => hf a (h1 a ha)) ?_
      · have ne : a ≠ p := fun z : a = p => pn (z ▸ h1 a ha)
        refine ⟨?_, fun o' e => ?_⟩
        · rw [upd_ne ne]; exact (oa.at_ a ha).1
        · rw [upd_ne ne]; exact e
      · exact (List.nodup_append.mp (p'.nodup_iff.mpr nd)).1
  · cases ev
theorem e_dict0 {tk : Bool} : PE X (.Dict [] [] pos) (TE' X C (.dict0 tk)) := pe_imp pe_dnewK fun σ H Q ⟨F, r, d, m, s, en, ev, q⟩ => by
  simp only [evE, Option.some.injEq, Prod.mk.injEq] at ev
  obtain ⟨rfl, rfl⟩ := ev
  refine fun p hp => q (.ref p) _ F [p] (Grow.newH s hp) (.dk (s.nn hp) upd_same rfl .nil) (fun a ha => ?_) (by simp)
  have e : a = p := by simpa using ha
  rw [e]; exact hp
end
end Wc
/- part WcE10 -/
namespace Wc
open PySem PySem.Spec PyProof.Rows L2
def plainE : Expr → Bool
  | .Starred _ _ => false
  | .Set _ _ _ => false
  | .Slice _ _ _ _ => false
  | _ => true
theorem star_of {e : Expr} (h : plainE e = true) (es : List Expr) (env : PySem.Env) : starEach (e :: es) env = (false, eval e env) :: starEach es env := by
  cases e <;> first | rfl | (simp [plainE] at h)
theorem any_star : ∀ {es : List Expr} (env : PySem.Env) (pos : Pos), es.all plainE = true → (backTo pos (starEach es env)).any (·.1) = false
  | [], _, _, _ => rfl
  | e :: es, env, pos, h => by
    rw [List.all_cons, Bool.and_eq_true] at h
    rw [star_of h.1]
    have ih := any_star env pos h.2
    simp only [backTo, List.map_cons, List.any_cons, Bool.false_or] at ih ⊢
    exact ih
theorem plainIx_of {e : Expr} (h : plainE e = true) : PlainIx e := by
  intro o i
  cases e <;> first | rfl | (simp [plainE] at h)
theorem marks_of {e : Expr} (op : CmpOp) (h : plainE e = true) : behindInMarks op e = false := by
  cases e <;> first | rfl | (simp [plainE] at h)
section
variable {X : Cx} {C : Orc} {e ea eb ec : Expr} {c a b d : CE} {pos : Pos}
theorem ev_bin {r : Env} {op : BOp} {v : D} {m : Nat} (h : evE C r (.bin op a b) = some (v, m)) : ∃ x y m1 m2, evE C r a = some (x, m1) ∧ evE C r b = some (y, m2) ∧ binv op x y = some (v, m) := by
  simp only [evE] at h
  split at h
  · split at h
    · exact ⟨_, _, _, _, by assumption, by assumption, h⟩
    · cases h
  · cases h
theorem e_bin {op : BOp} (ha : PE X ea (TE' X C a)) (hb : PE X eb (TE' X C b)) : PE X (.BinOp ea (bopO op) eb pos) (TE' X C (.bin op a b)) := by
  refine pe_imp (pe_op (op_bin op) ha hb) fun σ H Q ⟨F, r, v, m, s, en, ev, q⟩ => ?_
  obtain ⟨x, y, m1, m2, e1, e2, e3⟩ := ev_bin ev
  exact use2 s en e1 e2 fun u v' H' F' g ru rv => ⟨F', x, y, v, m, g.into, ru, rv, e3, fun z H2 F2 ft g2 o hn nd => q z H2 F2 ft (g.trans g2) o (fun a ha => g.same.nn (hn a ha)) nd⟩
theorem e_neg (ha : PE X ea (TE' X C a)) : PE X (.UnaryOp .USub ea pos) (TE' X C (.neg a)) := by
  refine pe_imp (pe_un un_neg ha) fun σ H Q ⟨F, r, v, m, s, en, ev, q⟩ => ?_
  simp only [evE] at ev
  split at ev
  · cases ev
    exact use s en (by assumption) fun u H' F' g ru => ⟨_, ru.int_inv, q.int g⟩
  · cases ev
theorem ev_not {r : Env} {v : D} {m : Nat} (h : evE C r (.not a) = some (v, m)) : ∃ b m1, evE C r a = some (.bool b, m1) ∧ v = .bool (!b) := by
  simp only [evE] at h
  split at h
  · cases h; exact ⟨_, _, by assumption, rfl⟩
  · cases h
theorem e_not (ha : PE X ea (TE' X C a)) : PE X (.UnaryOp .Not ea pos) (TE' X C (.not a)) := by
  refine pe_imp (pe_not ha) fun σ H Q ⟨F, r, v, m, s, en, ev, q⟩ => ?_
  obtain ⟨b, m1, e1, rfl⟩ := ev_not ev
  exact use s en e1 fun u H' F' g ru => ⟨b, ru.bl_inv, q.bl g⟩
theorem t_not (ha : PT X ea (TT' X C a)) : PT X (.UnaryOp .Not ea pos) (TT' X C (.not a)) := by
  refine pt_imp (pt_not ha) fun σ H Q ⟨F, r, v, m, s, en, ev, q⟩ => ?_
  obtain ⟨b, m1, e1, e2⟩ := ev_not ev
  simp only [PyData.bool.injEq] at e2
  subst e2
  exact ⟨F, r, b, m1, s, en, e1, q⟩
theorem ev_cmp {r : Env} {op : COp} {v : D} {m : Nat} (h : evE C r (.cmp op a b) = some (v, m)) : ∃ x y m1 m2 k, evE C r a = some (x, m1) ∧ evE C r b = some (y, m2) ∧ cmpv op x y = some k ∧ v = .bool k := by
  simp only [evE] at h
  split at h
  · split at h
    · obtain ⟨k, e1, e2⟩ := Option.map_eq_some_iff.mp h
      cases e2
      exact ⟨_, _, _, _, k, by assumption, by assumption, e1, rfl⟩
    · cases h
  · cases h
theorem e_cmp (c0 : Ctx0 X) {op : COp} (hb' : plainE eb = true) (ha : PE X ea (TE' X C a)) (hb : PE X eb (TE' X C b)) : PE X (.Compare ea [copO op] [eb] pos) (TE' X C (.cmp op a b)) := by
  refine pe_imp (pe_cmpR (op_cmpv c0 op) ha hb (marks_of _ hb')) fun σ H Q ⟨F, r, v, m, s, en, ev, q⟩ => ?_
  obtain ⟨x, y, m1, m2, k, e1, e2, e3, rfl⟩ := ev_cmp ev
  exact use2 s en e1 e2 fun u v' H' F' g ru rv => ⟨F', x, y, k, g.into, ru, rv, e3, q.bl g⟩
theorem t_cmp (c0 : Ctx0 X) {op : COp} (hb' : plainE eb = true) (ha : PE X ea (TE' X C a)) (hb : PE X eb (TE' X C b)) : PT X (.Compare ea [copO op] [eb] pos) (TT' X C (.cmp op a b)) := by
  refine pt_imp (pt_cmpR (op_cmpv c0 op) ha hb (marks_of _ hb')) fun σ H Q ⟨F, r, v, m, s, en, ev, q⟩ => ?_
  obtain ⟨x, y, m1, m2, k, e1, e2, e3, e4⟩ := ev_cmp ev
  simp only [PyData.bool.injEq] at e4
  subst e4
  exact use2 s en e1 e2 fun u v' H' F' g ru rv => ⟨F', x, y, _, g.into, ru, rv, e3, _, rfl, q H' F' g⟩
/-! is None -/
theorem non_iff {K : PySem.W.Frag} {P : Program} {w : World} {F : Hp} {v : V} {x : D} (h : Rep K P w F v x) : decide (v = .non) = (match x with | .none => true | _ => false) := by
  cases h <;> simp [mkScr, mkSet]
theorem ev_isn {r : Env} {n : Bool} {v : D} {m : Nat} (h : evE C r (.isn n a) = some (v, m)) : ∃ x m1, evE C r a = some (x, m1) ∧ v = .bool (match x with | .none => !n | _ => n) := by
  simp only [evE] at h
  split at h
  · cases h; exact ⟨_, _, by assumption, rfl⟩
  · cases h
theorem isn_val {x : D} {n k : Bool} (h : k = (match x with | .none => true | _ => false)) : (if n = true then !k else k) = (match x with | .none => !n | _ => n) := by
  subst h
  cases x <;> cases n <;> rfl
theorem e_isn0 {k : Nat} {p : Pos} (ha : PE X ea (TE' X C a)) : PE X (.Compare ea [.Is] [.Constant .none k p] pos) (TE' X C (.isn false a)) := by
  refine pe_imp (pe_cmp (pc_isN ha)) fun σ H Q ⟨F, r, v, m, s, en, ev, q⟩ => ?_
  obtain ⟨x, m1, e1, rfl⟩ := ev_isn ev
  refine use s en e1 fun u H' F' g ru => ?_
  rw [non_iff ru]
  have := q.bl g
  cases x <;> exact this
theorem t_isn0 {k : Nat} {p : Pos} (ha : PE X ea (TE' X C a)) : PT X (.Compare ea [.Is] [.Constant .none k p] pos) (TT' X C (.isn false a)) := by
  refine pt_imp (pt_cmp (pc_isN ha)) fun σ H Q ⟨F, r, v, m, s, en, ev, q⟩ => ?_
  obtain ⟨x, m1, e1, e2⟩ := ev_isn ev
  simp only [PyData.bool.injEq] at e2
  subst e2
  refine use s en e1 fun u H' F' g ru => ⟨_, rfl, ?_⟩
  rw [non_iff ru]
  have := q H' F' g
  cases x <;> exact this
theorem e_isn1 {k : Nat} {p : Pos} (ha : PE X ea (TE' X C a)) : PE X (.Compare ea [.IsNot] [.Constant .none k p] pos) (TE' X C (.isn true a)) := by
  refine pe_imp (pe_cmp (pc_notN ha)) fun σ H Q ⟨F, r, v, m, s, en, ev, q⟩ => ?_
  obtain ⟨x, m1, e1, rfl⟩ := ev_isn ev
  refine use s en e1 fun u H' F' g ru => ?_
  rw [non_iff ru]
  have := q.bl g
  cases x <;> exact this
theorem t_isn1 {k : Nat} {p : Pos} (ha : PE X ea (TE' X C a)) : PT X (.Compare ea [.IsNot] [.Constant .none k p] pos) (TT' X C (.isn true a)) := by
  refine pt_imp (pt_cmp (pc_notN ha)) fun σ H Q ⟨F, r, v, m, s, en, ev, q⟩ => ?_
  obtain ⟨x, m1, e1, e2⟩ := ev_isn ev
  simp only [PyData.bool.injEq] at e2
  subst e2
  refine use s en e1 fun u H' F' g ru => ⟨_, rfl, ?_⟩
  rw [non_iff ru]
  have := q H' F' g
  cases x <;> exact this
/-! a op b op c -/
theorem last_marks {p q : CmpOp} (hc : plainE ec = true) : lastMarks [p, q] [eb, ec] = false := by
  show behindInMarks q ec = false
  exact marks_of q hc
theorem ev_chain {r : Env} {p o : COp} {v : D} {m : Nat} (h : evE C r (.chain p o a b c) = some (v, m)) : ∃ x y m1 m2, evE C r a = some (x, m1) ∧ evE C r b = some (y, m2) ∧
    ((∃ z m3 k, cmpv p x y = some true ∧ evE C r c = some (z, m3) ∧ cmpv o y z = some k ∧ v = .bool k) ∨ (cmpv p x y = some false ∧ v = .bool false)) := by
  simp only [evE] at h
  split at h
  · split at h
    · split at h
      · split at h
        · obtain ⟨k, e1, e2⟩ := Option.map_eq_some_iff.mp h
          cases e2
          exact ⟨_, _, _, _, by assumption, by assumption, .inl ⟨_, _, k, by assumption, by assumption, e1, rfl⟩⟩
        · cases h
      · cases h
        exact ⟨_, _, _, _, by assumption, by assumption, .inr ⟨by assumption, rfl⟩⟩
      · cases h
    · cases h
  · cases h
theorem e_chain (c0 : Ctx0 X) {p o : COp} (hc' : plainE ec = true) (ha : PE X ea (TE' X C a)) (hb : PE X eb (TE' X C b)) (hc : PE X ec (TE' X C c)) : PE X (.Compare ea [copO p, copO o] [eb, ec] pos) (TE' X C (.chain p o a b c)) := by
  refine pe_imp (pe_chain (op_cmpv c0 p) (op_cmpv c0 o) ha hb hc (last_marks hc')) fun σ H Q ⟨F, r, v, m, s, en, ev, q⟩ => ?_
  obtain ⟨x, y, m1, m2, e1, e2, e3⟩ := ev_chain ev
  refine use2 s en e1 e2 fun u v' H' F' g ru rv => ?_
  rcases e3 with ⟨z, m3, k, k1, k2, k3, rfl⟩ | ⟨k1, rfl⟩
  · refine ⟨F', x, y, true, g.into, ru, rv, k1, true, rfl, ?_⟩
    rw [if_pos rfl]
    exact use g.into (en.mono g.sub) k2 fun u2 H2 F2 g2 r2 => ⟨F2, y, z, k, g2.into, rv.mono g2.sub, r2, k3, q.bl (g.trans g2)⟩
  · refine ⟨F', x, y, false, g.into, ru, rv, k1, false, rfl, ?_⟩
    rw [if_neg Bool.false_ne_true]
    exact q.bl g
theorem t_chain (c0 : Ctx0 X) {p o : COp} (hc' : plainE ec = true) (ha : PE X ea (TE' X C a)) (hb : PE X eb (TE' X C b)) (hc : PE X ec (TE' X C c)) : PT X (.Compare ea [copO p, copO o] [eb, ec] pos) (TT' X C (.chain p o a b c)) := by
  refine pt_imp (pt_chain (op_cmpv c0 p) (op_cmpv c0 o) ha hb hc (last_marks hc')) fun σ H Q ⟨F, r, v, m, s, en, ev, q⟩ => ?_
  obtain ⟨x, y, m1, m2, e1, e2, e3⟩ := ev_chain ev
  refine use2 s en e1 e2 fun u v' H' F' g ru rv => ?_
  rcases e3 with ⟨z, m3, k, k1, k2, k3, e⟩ | ⟨k1, e⟩
  · simp only [PyData.bool.injEq] at e
    subst e
    refine ⟨F', x, y, true, g.into, ru, rv, k1, true, rfl, ?_⟩
    rw [if_pos rfl]
    exact use g.into (en.mono g.sub) k2 fun u2 H2 F2 g2 r2 => ⟨F2, y, z, _, g2.into, rv.mono g2.sub, r2, k3, _, rfl, q H2 F2 (g.trans g2)⟩
  · simp only [PyData.bool.injEq] at e
    subst e
    refine ⟨F', x, y, false, g.into, ru, rv, k1, false, rfl, ?_⟩
    rw [if_neg Bool.false_ne_true]
    exact ⟨false, rfl, q H' F' g⟩
/-! and, or -/
theorem ev_and {r : Env} {v : D} {m : Nat} (h : evE C r (.and a b) = some (v, m)) : (∃ m1 k m2, evE C r a = some (.bool true, m1) ∧ evE C r b = some (.bool k, m2) ∧ v = .bool k) ∨ (∃ m1, evE C r a = some (.bool false, m1) ∧ v = .bool false) := by
  simp only [evE] at h
  split at h
  · split at h
    · cases h; exact .inl ⟨_, _, _, by assumption, by assumption, rfl⟩
    · cases h
  · cases h; exact .inr ⟨_, by assumption, rfl⟩
  · cases h
theorem ev_or {r : Env} {v : D} {m : Nat} (h : evE C r (.or a b) = some (v, m)) : (∃ m1 k m2, evE C r a = some (.bool false, m1) ∧ evE C r b = some (.bool k, m2) ∧ v = .bool k) ∨ (∃ m1, evE C r a = some (.bool true, m1) ∧ v = .bool true) := by
  simp only [evE] at h
  split at h
  · split at h
    · cases h; exact .inl ⟨_, _, _, by assumption, by assumption, rfl⟩
    · cases h
  · cases h; exact .inr ⟨_, by assumption, rfl⟩
  · cases h
theorem e_and {rest : List Expr} (ha : PE X ea (TE' X C a)) (hb : PE X (.BoolOp .And (eb :: rest) pos) (TE' X C b)) : PE X (.BoolOp .And (ea :: eb :: rest) pos) (TE' X C (.and a b)) := by
  refine pe_imp (pe_and ha hb) fun σ H Q ⟨F, r, v, m, s, en, ev, q⟩ => ?_
  rcases ev_and ev with ⟨m1, k, m2, e1, e2, rfl⟩ | ⟨m1, e1, rfl⟩
  · refine use s en e1 fun u H' F' g ru => ⟨true, ru.bl_inv, ?_⟩
    rw [if_pos rfl]
    exact use g.into (en.mono g.sub) e2 fun u2 H2 F2 g2 r2 => by rw [r2.bl_inv]; exact q.bl (g.trans g2)
  · refine use s en e1 fun u H' F' g ru => ⟨false, ru.bl_inv, ?_⟩
    rw [if_neg Bool.false_ne_true]
    exact q.bl g
theorem e_or {rest : List Expr} (ha : PE X ea (TE' X C a)) (hb : PE X (.BoolOp .Or (eb :: rest) pos) (TE' X C b)) : PE X (.BoolOp .Or (ea :: eb :: rest) pos) (TE' X C (.or a b)) := by
  refine pe_imp (pe_or ha hb) fun σ H Q ⟨F, r, v, m, s, en, ev, q⟩ => ?_
  rcases ev_or ev with ⟨m1, k, m2, e1, e2, rfl⟩ | ⟨m1, e1, rfl⟩
  · refine use s en e1 fun u H' F' g ru => ⟨false, ru.bl_inv, ?_⟩
    rw [if_neg Bool.false_ne_true]
    exact use g.into (en.mono g.sub) e2 fun u2 H2 F2 g2 r2 => by rw [r2.bl_inv]; exact q.bl (g.trans g2)
  · refine use s en e1 fun u H' F' g ru => ⟨true, ru.bl_inv, ?_⟩
    rw [if_pos rfl]
    exact q.bl g
theorem w_and {rest : List Expr} (ha : PT X ea (TT' X C a)) (hb : PW X (.BoolOp .And (eb :: rest) pos) (TT' X C b)) : PW X (.BoolOp .And (ea :: eb :: rest) pos) (TT' X C (.and a b)) := by
  refine pw_imp (pw_and ha hb) fun σ H Q ⟨F, r, v, m, s, en, ev, q⟩ => ?_
  rcases ev_and ev with ⟨m1, k, m2, e1, e2, e⟩ | ⟨m1, e1, e⟩
  · simp only [PyData.bool.injEq] at e
    subst e
    refine ⟨F, r, true, m1, s, en, e1, fun H' F' g => ?_⟩
    dsimp only
    rw [if_pos rfl]
    exact ⟨F', r, _, m2, g.into, en.mono g.sub, e2, fun H2 F2 g2 => q H2 F2 (g.trans g2)⟩
  · simp only [PyData.bool.injEq] at e
    subst e
    refine ⟨F, r, false, m1, s, en, e1, fun H' F' g => ?_⟩
    dsimp only
    rw [if_neg Bool.false_ne_true]
    exact q H' F' g
theorem w_or {rest : List Expr} (ha : PT X ea (TT' X C a)) (hb : PW X (.BoolOp .Or (eb :: rest) pos) (TT' X C b)) : PW X (.BoolOp .Or (ea :: eb :: rest) pos) (TT' X C (.or a b)) := by
  refine pw_imp (pw_or ha hb) fun σ H Q ⟨F, r, v, m, s, en, ev, q⟩ => ?_
  rcases ev_or ev with ⟨m1, k, m2, e1, e2, e⟩ | ⟨m1, e1, e⟩
  · simp only [PyData.bool.injEq] at e
    subst e
    refine ⟨F, r, false, m1, s, en, e1, fun H' F' g => ?_⟩
    dsimp only
    rw [if_neg Bool.false_ne_true]
    exact ⟨F', r, _, m2, g.into, en.mono g.sub, e2, fun H2 F2 g2 => q H2 F2 (g.trans g2)⟩
  · simp only [PyData.bool.injEq] at e
    subst e
    refine ⟨F, r, true, m1, s, en, e1, fun H' F' g => ?_⟩
    dsimp only
    rw [if_pos rfl]
    exact q H' F' g
/-! subscripts, slices -/
theorem ev_idx {r : Env} {v : D} {m : Nat} (h : evE C r (.idx a b) = some (v, m)) : ∃ x y m1 m2, evE C r a = some (x, m1) ∧ evE C r b = some (y, m2) ∧ idxv x y = some v ∧ m = 0 := by
  simp only [evE] at h
  split at h
  · split at h
    · obtain ⟨k, e1, e2⟩ := Option.map_eq_some_iff.mp h
      cases e2
      exact ⟨_, _, _, _, by assumption, by assumption, e1, rfl⟩
    · cases h
  · cases h
theorem e_idx (c0 : Ctx0 X) (hb' : plainE eb = true) (ha : PE X ea (TE' X C a)) (hb : PE X eb (TE' X C b)) : PE X (.Subscript ea eb pos) (TE' X C (.idx a b)) := by
  refine pe_imp (pe_ix (ix_v c0) ha hb (plainIx_of hb')) fun σ H Q ⟨F, r, v, m, s, en, ev, q⟩ => ?_
  obtain ⟨x, y, m1, m2, e1, e2, e3, rfl⟩ := ev_idx ev
  exact use2 s en e1 e2 fun u v' H' F' g ru rv => ⟨F', x, y, v, g.into, ru, rv, e3, fun z hz => q.sh g hz (.inl rfl)⟩
/-- a slice's bound -/
def partOk (f : Bool) (c : CE) (e : Option Expr) : Bool :=
  match f, e with
  | false, none => (match c with | .lit .none => true | _ => false)
  | true, some _ => true
  | _, _ => false
theorem po_part {X : Cx} {C : Orc} {f : Bool} {c : CE} {e : Option Expr} (h : partOk f c e = true) (he : ∀ e', e = some e' → PE X e' (TE' X C c)) : ∃ t, PO X e t ∧ ∀ σ H (Q : Option Int → Hp → Prop) F r y m, Sub F H → EnvR X.K X.prog X.w F σ r → evE C r c = some (y, m) → isInt y = f → (∀ H' F', Grow F H F' H' → Q (optI y) H') → t σ H Q := by
  cases f with
  | false =>
    cases e with
    | none =>
      refine ⟨_, po_none, fun σ H Q F r y m s en ev hy q => ?_⟩
      have e0 : optI y = none := by cases y <;> first | rfl | (simp [isInt] at hy)
      have := q H F (Grow.refl s)
      rw [e0] at this
      exact this
    | some e' => simp [partOk] at h
  | true =>
    cases e with
    | none => simp [partOk] at h
    | some e' =>
      refine ⟨_, po_some (he e' rfl), fun σ H Q F r y m s en ev hy q => ?_⟩
      cases y with
      | int i => exact use s en ev fun v H' F' g rv => ⟨i, rv.int_inv, q H' F' g⟩
      | _ => simp [isInt] at hy
theorem ev_slc {r : Env} {f g : Bool} {v : D} {m : Nat} (h : evE C r (.slc f g a b c) = some (v, m)) : ∃ x y z m1 m2 m3, evE C r a = some (x, m1) ∧ evE C r b = some (y, m2) ∧ evE C r c = some (z, m3) ∧ isInt y = f ∧ isInt z = g ∧ slcv x y z = some (v, m) := by
  simp only [evE] at h
  split at h
  · split at h
    · split at h
      · split at h
        · rename_i hc
          exact ⟨_, _, _, _, _, _, by assumption, by assumption, by assumption, hc.1, hc.2, h⟩
        · cases h
      · cases h
    · cases h
  · cases h
theorem e_slc {f g : Bool} {lo hi : Option Expr} {p : Pos} (ha : PE X ea (TE' X C a)) (h1 : partOk f b lo = true) (h2 : partOk g c hi = true) (hb : ∀ e', lo = some e' → PE X e' (TE' X C b)) (hc : ∀ e', hi = some e' → PE X e' (TE' X C c)) :
    PE X (.Subscript ea (.Slice lo hi none p) pos) (TE' X C (.slc f g a b c)) := by
  obtain ⟨tl, pl, ql⟩ := po_part h1 hb
  obtain ⟨th, ph, qh⟩ := po_part h2 hc
  refine pe_imp (pe_slice sl_v ha pl ph) fun σ H Q ⟨F, r, v, m, s, en, ev, q⟩ => ?_
  obtain ⟨x, y, z, m1, m2, m3, e1, e2, e3, i1, i2, e4⟩ := ev_slc ev
  refine use s en e1 fun u H1 F1 g1 ru => ql _ _ _ F1 r y m2 g1.into (en.mono g1.sub) e2 i1 fun H2 F2 g2 => qh _ _ _ F2 r z m3 g2.into ((en.mono g1.sub).mono g2.sub) e3 i2 fun H3 F3 g3 => ?_
  refine ⟨F3, x, y, z, v, m, g3.into, (ru.mono g2.sub).mono g3.sub, rfl, rfl, e4, fun w H4 F4 ft g4 o hn nd => ?_⟩
  have gg := (g1.trans g2).trans g3
  exact q w H4 F4 ft (gg.trans g4) o (fun a ha => gg.same.nn (hn a ha)) nd
theorem e_rev {k : Nat} {p1 p2 p3 : Pos} (ha : PE X ea (TE' X C a)) : PE X (.Subscript ea (.Slice none none (some (.UnaryOp .USub (.Constant (.int 1) k p1) p2)) p3) pos) (TE' X C (.rev a)) := by
  refine pe_imp (pe_revL ha) fun σ H Q ⟨F, r, v, m, s, en, ev, q⟩ => ?_
  simp only [evE] at ev
  split at ev
  · cases ev
    refine use s en (by assumption) fun u H' F' g ru => ?_
    obtain ⟨a', xs, rfl, h1, h2⟩ := ru.lst_inv
    exact ⟨a', xs, rfl, .of (g.into _ _ h1), fun p hp => q.newL g h2.reverse hp⟩
  · cases ev
end
end Wc
/- part WcE11 -/
namespace Wc
open PySem PySem.Spec PyProof.Rows L2
section
variable {X : Cx} {C : Orc} {e ea eb ec : Expr} {c a b d : CE} {pos p apos : Pos}
theorem len_evEs {C : Orc} {r : Env} : ∀ {cs : List CE} {l : List (D × Nat)}, evEs C r cs = some l → l.length = cs.length
  | [], l, h => by simp only [evEs, Option.some.injEq] at h; subst h; rfl
  | c :: cs, l, h => by
    simp only [evEs] at h
    split at h
    · split at h
      · cases h; rw [List.length_cons, List.length_cons, len_evEs (by assumption)]
      · cases h
    · cases h
/-! ### built-in functions -/
theorem ev_blt {r : Env} {f : Blt} {cs : List CE} {v : D} {m : Nat} (h : evE C r (.blt f cs) = some (v, m)) : ∃ l, evEs C r cs = some l ∧ bltv f (l.map (·.1)) = some (v, m) := by
  simp only [evE] at h
  split at h
  · exact ⟨_, by assumption, h⟩
  · cases h
theorem blt_in {f : Blt} {cs : List CE} {σ : L2.St} {H : Hp} {Q : VK} (h : TE' X C (.blt f cs) σ H Q) : tEvs X.K X.prog X.w C cs σ H fun vs H1 => rBlt X f vs H1 Q := by
  obtain ⟨F, r, v, m, s, en, ev, q⟩ := h
  obtain ⟨l, e1, e2⟩ := ev_blt ev
  refine usel s en e1 fun vs H' F' g rv => ⟨F', l.map (·.1), v, m, g.into, rv, e2, fun z H2 F2 ft g2 o hn nd => q z H2 F2 ft (g.trans g2) o (fun a ha => g.same.nn (hn a ha)) nd⟩
theorem e_bltF {f : Blt} {x : Str} {id : String} {es : List Expr} {cs : List CE} (hc : CallR X (.builtin id) (rBlt X f)) (hg : Gl X x) (hm : X.mg x = none) (hv : bootBuiltins x = some (.builtin id)) (hn : x ≠ "__name__") (hdb : (x == ("__debug__" : Str)) = false)
    (hpl : (e :: es).all plainE = true) (ha : PA X (e :: es) (tEvs X.K X.prog X.w C cs)) : PE X (.Call (.Name x p) (e :: es) [] pos) (TE' X C (.blt f cs)) := by
  rw [List.all_cons, Bool.and_eq_true] at hpl
  exact pe_imp (pe_callB hc hg hm hv ha hn hdb (star_of hpl.1 _ _) (any_star _ _ hpl.2)) fun σ H Q h => blt_in h
theorem e_bltT {f : Blt} {x : Str} {T : String} {es : List Expr} {cs : List CE} (hc : CallR X (.type T) (rBlt X f)) (hg : Gl X x) (hm : X.mg x = none) (hv : bootBuiltins x = some (.type T)) (hn : x ≠ "__name__") (hdb : (x == ("__debug__" : Str)) = false)
    (hpl : (e :: es).all plainE = true) (ha : PA X (e :: es) (tEvs X.K X.prog X.w C cs)) : PE X (.Call (.Name x p) (e :: es) [] pos) (TE' X C (.blt f cs)) := by
  rw [List.all_cons, Bool.and_eq_true] at hpl
  exact pe_imp (pe_callTy hc hg hm hv ha hn hdb (star_of hpl.1 _ _) (any_star _ _ hpl.2)) fun σ H Q h => blt_in h
/-! ### isinstance -/
theorem ty_of {x : D} {v : V} {F H : Hp} {t : Ty} (s : Sub F H) (hv : Rep X.K X.prog X.w F v x) (ok : tyOk x = true) : ∃ T, TyX X.K H v T ∧ PySem.W.kitOne X.K T (.type (tyS t)) = some (tyv x t) := by
  obtain ⟨k1, k2, k3, k4, k5, k6⟩ := kit_all X.K t
  cases hv with
  | non => exact ⟨_, .base .non, by rw [k6]; cases t <;> rfl⟩
  | bl b => exact ⟨_, .base (.bl b), by rw [k2]; cases t <;> rfl⟩
  | int i => exact ⟨_, .base (.int i), by rw [k1]; cases t <;> rfl⟩
  | str x => exact ⟨_, .base (.str x), by rw [k5]; cases t <;> rfl⟩
  | lst h r => exact ⟨_, .base (.lst (s _ _ h)), by rw [k3]; cases t <;> rfl⟩
  | tup h r => exact ⟨_, .base (.tup (s _ _ h)), by rw [k4]; cases t <;> rfl⟩
  | _ => simp [tyOk, mkScr, mkSet] at ok
theorem boot_ty (t : Ty) : bootBuiltins (Str.ofString (tyS t)) = some (.type (tyS t)) := by cases t <;> decide +kernel
theorem ev_isi {r : Env} {t : Ty} {v : D} {m : Nat} (h : evE C r (.isi a t) = some (v, m)) : ∃ x m1, evE C r a = some (x, m1) ∧ tyOk x = true ∧ v = .bool (tyv x t) := by
  simp only [evE] at h
  split at h
  · split at h
    · cases h; exact ⟨_, _, by assumption, by assumption, rfl⟩
    · cases h
  · cases h
theorem e_isi {t : Ty} {p2 : Pos} (hp : plainE ea = true) (hg : Gl X "isinstance") (hm : X.mg "isinstance" = none) (hg2 : Gl X (Str.ofString (tyS t))) (hm2 : X.mg (Str.ofString (tyS t)) = none) (ha : PE X ea (TE' X C a)) :
    PE X (.Call (.Name "isinstance" p) [ea, .Name (Str.ofString (tyS t)) p2] [] pos) (TE' X C (.isi a t)) := by
  have h1 : PE X (.Name (Str.ofString (tyS t)) p2) (tC (.ty (tyS t))) := pe_bltn hg2 hm2 (boot_ty t) rfl (by cases t <;> decide +kernel) (by cases t <;> decide +kernel)
  refine pe_imp (pe_callB call_isi hg hm boot_isinstance (pa_cons ha (pa_cons h1 pa_nil (star_of rfl _ _)) (star_of hp _ _)) (by decide +kernel) (by decide +kernel) (star_of hp _ _) (any_star (es := [.Name (Str.ofString (tyS t)) p2]) _ _ rfl)) fun σ H Q ⟨F, r, v, m, s, en, ev, q⟩ => ?_
  obtain ⟨x, m1, e1, ok, rfl⟩ := ev_isi ev
  refine use s en e1 fun u H' F' g ru => ?_
  obtain ⟨T, tx, kt⟩ := ty_of (t := t) g.into ru ok
  exact ⟨u, .ty (tyS t), T, .type (tyS t), tyv x t, rfl, .ty _, tx, kt, q.bl g⟩
/-! ### methods -/
def isBase : Expr → Bool
  | .Name _ _ => true
  | .Subscript _ _ _ => true
  | _ => false
theorem base_of {o : Expr} (h : isBase o = true) (m : Str) (env : PySem.Env) : attributeBase o m env (eval o env) = eval o env := by
  cases o <;> first | rfl | (simp [isBase] at h)
theorem ev_get1 {r : Env} {v : D} {m : Nat} (h : evE C r (.get1 a b) = some (v, m)) : ∃ l y m1 m2, evE C r a = some (.dict l, m1) ∧ evE C r b = some (y, m2) ∧ keyOk l y = true ∧ v = (look l y).getD .none ∧ m = 0 := by
  simp only [evE] at h
  split at h
  · split at h
    · split at h
      · cases h; exact ⟨_, _, _, _, by assumption, by assumption, by assumption, rfl, rfl⟩
      · cases h
    · cases h
  · cases h
theorem ev_get2 {r : Env} {v : D} {m : Nat} (h : evE C r (.get2 a b c) = some (v, m)) : ∃ l y z m1 m2 m3, evE C r a = some (.dict l, m1) ∧ evE C r b = some (y, m2) ∧ evE C r c = some (z, m3) ∧ keyOk l y = true ∧ v = (look l y).getD z ∧ m = 0 := by
  simp only [evE] at h
  split at h
  · split at h
    · split at h
      · split at h
        · cases h; exact ⟨_, _, _, _, _, _, by assumption, by assumption, by assumption, by assumption, rfl, rfl⟩
        · cases h
      · cases h
    · cases h
  · cases h
theorem keyOk_plain {l : List (D × D)} {k : D} (h : keyOk l k = true) : kdOf l = .plain := by
  unfold keyOk at h
  split at h <;> first | assumption | cases h
theorem isD_of {v : V} {l : List (D × D)} {F H : Hp} {K : PySem.W.Frag} {P : Program} {w : World} (s : Sub F H) (h : Rep K P w F v (.dict l)) (hk : kdOf l = .plain) : ∃ a, v = .ref a ∧ IsD H a := by
  obtain ⟨a, rfl, hd⟩ := rep_dict h hk
  rcases hd with ⟨kvs, h1, _⟩ | ⟨kvs, h1, _⟩
  · exact ⟨a, rfl, .inl ⟨kvs, s.rd h1⟩⟩
  · exact ⟨a, rfl, .inr ⟨kvs, s.rd h1⟩⟩
theorem e_get1 (c0 : Ctx0 X) (hb : isBase ea = true) (hp : plainE eb = true) (hl : (apos.endLine == pos.line) = true) (ha : PE X ea (TE' X C a)) (hk : PE X eb (TE' X C b)) : PE X (.Call (.Attribute ea "get" apos) [eb] [] pos) (TE' X C (.get1 a b)) := by
  refine ⟨fun pins s σ H Q I ⟨F, r, v, m, sb, en, ev, q⟩ => ?_⟩
  have hu := c0.hu
  obtain ⟨l, y, m1, m2, e1, e2, ko, rfl, rfl⟩ := ev_get1 ev
  have st := star_of (e := eb) hp [] X.env
  have few : ((backTo pos (starEach [eb] X.env)).all (fun x => !x.1) && (backToKw pos (keywordEach [] X.env)).all (fun x => x.1.isSome) && decide (([eb] : List Expr).length + ([] : List Keyword).length + (if ([] : List Keyword).isEmpty then 0 else 1) < 30)) = true := by rw [st]; rfl
  have t1 : TE' X C a σ H (fun x H1 => ∃ ad, x = .ref ad ∧ IsD H1 ad ∧ TE' X C b σ H1 fun y H2 => ∃ o, DGet2 H2 ad y o ∧ Q (o.getD .non) H2) := by
    refine use sb en e1 fun u H1 F1 g1 ru => ?_
    obtain ⟨ad, rfl, isd⟩ := isD_of g1.into ru (keyOk_plain ko)
    refine ⟨ad, rfl, isd, use g1.into (en.mono g1.sub) e2 fun y' H2 F2 g2 ry => ?_⟩
    obtain ⟨ad', o, ea', _, gd, hl'⟩ := dget_of g2.into (ru.mono g2.sub) ry ko
    cases ea'
    refine ⟨o, gd, ?_⟩
    rcases hl' with ⟨w', d', rfl, h2, h3⟩ | ⟨rfl, h2⟩
    · rw [h2] at q
      exact q.sh (g1.trans g2) h3 (.inl rfl)
    · rw [h2] at q
      exact q.sh (g1.trans g2) .non (.inl rfl)
  refine wpAny_Call_method (base_of hb _ _) few hl PySem.F.plainAttrs_dict PySem.F.slot_dict_get PySem.F.type_dict_get (thn (ha.run pins s σ H _ I t1) fun u s1 ⟨x, H1, I1, rx, ad, ex, isd, q1⟩ => ?_)
  subst ex
  obtain rfl : u = Value.ref ad := rx
  obtain ⟨t1, t2, _⟩ := isD_at I1 isd
  refine ⟨t1, t2, ?_⟩
  rw [st]
  refine Calls.callWith_builtin rfl (Calls.evalArgs_plain (Calls.spliced_cons (thn (hk.run pins s1 σ H1 _ I1 q1) fun iv s2 ⟨y, H2, I2, ry, ov, g, q2⟩ => Calls.spliced_nil ?_)))
  exact d_get12 (by omega) I2 g ry fun w' s3 I3 rw' => ⟨_, H2, I3, rw', q2⟩
theorem e_get2 (c0 : Ctx0 X) (hb : isBase ea = true) (hp : plainE eb = true) (hp2 : plainE ec = true) (hl : (apos.endLine == pos.line) = true) (ha : PE X ea (TE' X C a)) (hk : PE X eb (TE' X C b)) (hx : PE X ec (TE' X C c)) :
    PE X (.Call (.Attribute ea "get" apos) [eb, ec] [] pos) (TE' X C (.get2 a b c)) := by
  refine ⟨fun pins s σ H Q I ⟨F, r, v, m, sb, en, ev, q⟩ => ?_⟩
  have hu := c0.hu
  obtain ⟨l, y, z, m1, m2, m3, e1, e2, e3, ko, rfl, rfl⟩ := ev_get2 ev
  have st := star_of (e := eb) hp [ec] X.env
  have st2 := star_of (e := ec) hp2 [] X.env
  have few : ((backTo pos (starEach [eb, ec] X.env)).all (fun x => !x.1) && (backToKw pos (keywordEach [] X.env)).all (fun x => x.1.isSome) && decide (([eb, ec] : List Expr).length + ([] : List Keyword).length + (if ([] : List Keyword).isEmpty then 0 else 1) < 30)) = true := by rw [st, st2]; rfl
  have t1 : TE' X C a σ H (fun x H1 => ∃ ad, x = .ref ad ∧ IsD H1 ad ∧ TE' X C b σ H1 fun y H2 => TE' X C c σ H2 fun z H3 => ∃ o, DGet2 H3 ad y o ∧ Q (o.getD z) H3) := by
    refine use sb en e1 fun u H1 F1 g1 ru => ?_
    obtain ⟨ad, rfl, isd⟩ := isD_of g1.into ru (keyOk_plain ko)
    refine ⟨ad, rfl, isd, use g1.into (en.mono g1.sub) e2 fun y' H2 F2 g2 ry => use g2.into ((en.mono g1.sub).mono g2.sub) e3 fun z' H3 F3 g3 rz => ?_⟩
    obtain ⟨ad', o, ea', _, gd, hl'⟩ := dget_of g3.into ((ru.mono g2.sub).mono g3.sub) (ry.mono g3.sub) ko
    cases ea'
    refine ⟨o, gd, ?_⟩
    rcases hl' with ⟨w', d', rfl, h2, h3⟩ | ⟨rfl, h2⟩
    · rw [h2] at q
      exact q.sh ((g1.trans g2).trans g3) h3 (.inl rfl)
    · rw [h2] at q
      exact q.sh ((g1.trans g2).trans g3) rz (.inl rfl)
  refine wpAny_Call_method (base_of hb _ _) few hl PySem.F.plainAttrs_dict PySem.F.slot_dict_get PySem.F.type_dict_get (thn (ha.run pins s σ H _ I t1) fun u s1 ⟨x, H1, I1, rx, ad, ex, isd, q1⟩ => ?_)
  subst ex
  obtain rfl : u = Value.ref ad := rx
  obtain ⟨t1, t2, _⟩ := isD_at I1 isd
  refine ⟨t1, t2, ?_⟩
  rw [st, st2]
  refine Calls.callWith_builtin rfl (Calls.evalArgs_plain (Calls.spliced_cons (thn (hk.run pins s1 σ H1 _ I1 q1) fun iv s2 ⟨y, H2, I2, ry, q2⟩ =>
    Calls.spliced_cons (thn (hx.run pins s2 σ H2 _ I2 q2) fun fv s3 ⟨z, H3, I3, rz, ov, g, q3⟩ => Calls.spliced_nil ?_))))
  exact d_get22 (by omega) I3 g ry rz fun w' s4 I4 rw' => ⟨_, H3, I4, rw', q3⟩
/-! l.index(x) -/
theorem ev_index {r : Env} {v : D} {m : Nat} (h : evE C r (.index a b) = some (v, m)) : ∃ xs y m1 m2, ∃ j : Nat, evE C r a = some (.list xs, m1) ∧ evE C r b = some (y, m2) ∧ indexv xs y = some j ∧ v = .int j ∧ m = 0 := by
  simp only [evE] at h
  split at h
  · split at h
    · obtain ⟨j, e1, e2⟩ := Option.map_eq_some_iff.mp h
      cases e2
      exact ⟨_, _, _, _, j, by assumption, by assumption, e1, rfl, rfl⟩
    · cases h
  · cases h
theorem e_index (c0 : Ctx0 X) (hb : isBase ea = true) (hp : plainE eb = true) (hl : (apos.endLine == pos.line) = true) (ha : PE X ea (TE' X C a)) (hk : PE X eb (TE' X C b)) : PE X (.Call (.Attribute ea "index" apos) [eb] [] pos) (TE' X C (.index a b)) := by
  have hu := c0.hu
  have st := star_of (e := eb) hp [] X.env
  refine pe_imp (pe_bm PySem.F.plainAttrs_list PySem.F.slot_list_index PySem.F.type_list_index (mt_indexD (by omega)) ha (pa_cons hk pa_nil st) (base_of hb _ _) (by rw [st]; rfl) hl st rfl) fun σ H Q ⟨F, r, v, m, sb, en, ev, q⟩ => ?_
  obtain ⟨xs, y, m1, m2, j, e1, e2, e3, rfl, rfl⟩ := ev_index ev
  unfold indexv at e3
  split at e3
  · rename_i hs
    simp only [Bool.and_eq_true] at hs
    refine use sb en e1 fun u H1 F1 g1 ru => ?_
    obtain ⟨ad, vs, rfl, h1, h2⟩ := id ru.lst_inv
    refine ⟨.inl ⟨rfl, vs, .of (g1.into _ _ h1)⟩, use g1.into (en.mono g1.sub) e2 fun y' H2 F2 g2 ry => ?_⟩
    obtain ⟨hj, p1, p2⟩ := List.findIdx?_eq_some_iff_getElem.mp e3
    have f3 : ∀ (m : Nat) (z' : D), m < j → xs[m]? = some z' → PyData.eqv z' y = false := fun m z' hm hz' => by
      obtain ⟨hm', e⟩ := List.getElem?_eq_some_iff.mp hz'
      have := p2 m hm
      rw [e] at this
      simpa using this
    exact ⟨ad, y', y, xs, j, xs[j], rfl, rfl, (ru.mono g2.sub).dp g2.into (SeqAt.canLay_of_shaped hs.2), ry.dp g2.into (SeqAt.canLay_of_shaped hs.1), hs.2, hs.1, List.getElem?_eq_getElem hj, p1, f3, q.int (g1.trans g2)⟩
  · cases e3
/-! list(range(a, b)) -/
theorem ev_lrng {r : Env} {v : D} {m : Nat} (h : evE C r (.lrng a b) = some (v, m)) : ∃ i j m1 m2, evE C r a = some (.int i, m1) ∧ evE C r b = some (.int j, m2) ∧ rngOk i j = true ∧ (j - i).toNat ≤ line ∧ v = .list (rngv i j) ∧ m = 1 := by
  simp only [evE] at h
  split at h
  · split at h
    · split at h
      · rename_i hc
        simp only [Bool.and_eq_true, decide_eq_true_eq] at hc
        cases h; exact ⟨_, _, _, _, by assumption, by assumption, hc.1, hc.2, rfl, rfl⟩
      · cases h
    · cases h
  · cases h
theorem rgV_rep {K : PySem.W.Frag} {P : Program} {w : World} {F : Hp} (i j : Int) : RepAll K P w F (rgV i j) (rngv i j) := by
  unfold rgV rngv
  generalize List.range (j - i).toNat = l
  induction l with
  | nil => exact .nil
  | cons x l ih => exact .cons (.int _) ih
theorem rg_ok {i j : Int} (h1 : rngOk i j = true) (h2 : (j - i).toNat ≤ line) : RgOk i j := by
  obtain ⟨a, b, c, d⟩ := rng_ok h1
  exact ⟨a, b, c, d, by unfold line at h2; omega⟩
theorem e_lrng2 (c0 : Ctx0 X) {p2 p3 : Pos} (hp : plainE ea = true) (hp2 : plainE eb = true) (hg : Gl X "range") (hm : X.mg "range" = none) (hgl : Gl X "list") (hml : X.mg "list" = none) (ha : PE X ea (TE' X C a)) (hb : PE X eb (TE' X C b)) :
    PE X (.Call (.Name "list" p) [.Call (.Name "range" p2) [ea, eb] [] p3] [] pos) (TE' X C (.lrng a b)) := by
  refine pe_imp (pe_listRg c0.calm hgl hml (prg_2 hg hm ha hb (star_of hp _ _) (star_of hp2 _ _) (any_star (es := [eb]) _ _ (by simp [hp2]))) (star_of rfl _ _)) fun σ H Q ⟨F, r, v, m, sb, en, ev, q⟩ => ?_
  obtain ⟨i, j, m1, m2, e1, e2, k1, k2, rfl, rfl⟩ := ev_lrng ev
  exact use2 sb en e1 e2 fun u w H' F' g ru rw' => ⟨i, j, ru.int_inv, rw'.int_inv, rg_ok k1 k2, fun p hp => q.newL g (rgV_rep i j) hp⟩
theorem e_lrng1 (c0 : Ctx0 X) {p2 p3 : Pos} (hp2 : plainE eb = true) (hg : Gl X "range") (hm : X.mg "range" = none) (hgl : Gl X "list") (hml : X.mg "list" = none) (hb : PE X eb (TE' X C b)) :
    PE X (.Call (.Name "list" p) [.Call (.Name "range" p2) [eb] [] p3] [] pos) (TE' X C (.lrng (.lit (.int 0)) b)) := by
  refine pe_imp (pe_listRg c0.calm hgl hml (prg_1 hg hm hb (star_of hp2 _ _)) (star_of rfl _ _)) fun σ H Q ⟨F, r, v, m, sb, en, ev, q⟩ => ?_
  obtain ⟨i, j, m1, m2, e1, e2, k1, k2, rfl, rfl⟩ := ev_lrng ev
  simp only [evE, Option.some.injEq, Prod.mk.injEq, PyData.int.injEq] at e1
  obtain ⟨e1, _⟩ := e1
  subst e1
  exact use sb en e2 fun w H' F' g rw' => ⟨j, rw'.int_inv, rg_ok k1 k2, fun p hp => q.newL g (rgV_rep 0 j) hp⟩
end
end Wc
/- part WcE12 -/
namespace Wc
open PySem PySem.Spec PyProof.Rows L2
/-! ### comprehensions -/
theorem mapO_at {α β : Type} {f : α → Option β} : ∀ {xs : List α} {l : List β}, mapO f xs = some l → l.length = xs.length ∧ ∀ (i : Nat) (x : α), xs[i]? = some x → ∃ y, l[i]? = some y ∧ f x = some y
  | [], l, h => by
    simp only [mapO, Option.some.injEq] at h
    subst h
    exact ⟨rfl, fun i x e => by simp at e⟩
  | x :: xs, l, h => by
    simp only [mapO] at h
    split at h
    · cases h
    · rename_i y ey
      split at h
      · cases h
      · rename_i ys eys
        cases h
        obtain ⟨h1, h2⟩ := mapO_at eys
        refine ⟨by simp [h1], fun i z e => ?_⟩
        cases i with
        | zero =>
          simp only [List.getElem?_cons_zero, Option.some.injEq] at e
          subst e
          exact ⟨y, rfl, ey⟩
        | succ i =>
          simp only [List.getElem?_cons_succ] at e
          obtain ⟨y', e1, e2⟩ := h2 i z e
          exact ⟨y', by simpa using e1, e2⟩
theorem take_succ {α : Type} {l : List α} {i : Nat} {x : α} (h : l[i]? = some x) : l.take (i + 1) = l.take i ++ [x] := by
  rw [List.take_add_one, h]; rfl
section
variable {X : Cx} {C : Orc} {tgE itE eltE cE kE : Expr} {it elt c : CE} {tg : Tg} {scope : Scope} {own : List (Str × Nat)} {pos : Pos}
/-- what a block's parts must be -/
structure BlkE (X : Cx) (C : Orc) (tgE : Expr) (tg : Tg) (scope : Scope) (own : List (Str × Nat)) : Prop where
  ok : BlkOk X.N X.env.scope scope own
  ow : own.map (·.2) = tgs tg
  g : ∀ (s : Shared) (H : Hp) (Cc : Addr) (cl : List (Str × Addr)) (fp : List Addr), PG (X.blk s H scope (compEnvC scope cl Cc X.env) fp) tgE (gTg X.K tg)
def InBlk (X : Cx) (C : Orc) (scope : Scope) (e : Expr) (c : CE) : Prop := ∀ (s : Shared) (H : Hp) (Cc : Addr) (cl : List (Str × Addr)) (fp : List Addr), PE (X.blk s H scope (compEnvC scope cl Cc X.env) fp) e (tEv X.K X.prog X.w C c)
def InBlkT (X : Cx) (C : Orc) (scope : Scope) (e : Expr) (c : CE) : Prop := ∀ (s : Shared) (H : Hp) (Cc : Addr) (cl : List (Str × Addr)) (fp : List Addr), PT (X.blk s H scope (compEnvC scope cl Cc X.env) fp) e (tTs X.K X.prog X.w C c)
/-- the state of a comprehension that builds a list at A -/
def LInv (X : Cx) (F1 H1 : Hp) (A : Addr) (ds : List D) (H : Hp) : Prop := ∃ F vs, Grow F1 H1 F H ∧ F A = none ∧ H A = some (.lst vs) ∧ RepAll X.K X.prog X.w F vs ds
theorem LInv.start {F1 H1 : Hp} (s : Sub F1 H1) {A : Addr} (hA : H1 A = none) : LInv X F1 H1 A [] (upd H1 A (.lst [])) := ⟨F1, [], Grow.newH s hA, s.nn hA, upd_same, .nil⟩
theorem LInv.push {F1 H1 F2 H2 F3 H3 : Hp} {A : Addr} {ds : List D} {vs : List V} {y : V} {d : D} (hA : H1 A = none) (g1 : Grow F1 H1 F2 H2) (h1 : F2 A = none) (h2 : H2 A = some (.lst vs)) (r : RepAll X.K X.prog X.w F2 vs ds) (g2 : Grow F2 H2 F3 H3) (ry : Rep X.K X.prog X.w F3 y d) :
    H3 A = some (.lst vs) ∧ LInv X F1 H1 A (ds ++ [d]) (upd H3 A (.lst (vs ++ [y]))) := by
  have h3 := g2.same _ _ h2
  have n3 := (g2.stays h1 h2 trivial).1
  refine ⟨h3, F3, vs ++ [y], ?_, n3, upd_same, (r.mono g2.sub).append (.cons ry .nil)⟩
  have g := g1.trans g2
  refine ⟨g.sub, fun a o e => ?_, fun a o e => ?_, g.new⟩
  · rw [upd_ne (ne_of_none e hA)]; exact g.same a o e
  · rw [upd_ne (ne_of_none e n3)]; exact g.into a o e
theorem LInv.done {F H F1 H1 H2 : Hp} {A : Addr} {ds : List D} {Q : VK} (q : Res X.K X.prog X.w F H (.list ds) 1 Q) (g : Grow F H F1 H1) (hA : H1 A = none) (h : LInv X F1 H1 A ds H2) : Q (.ref A) H2 := by
  obtain ⟨F2, vs, g2, n2, h2, r⟩ := h
  refine q _ _ F2 [A] (g.trans g2) (.lst n2 h2 r.own0) (fun a ha => ?_) (by simp)
  have e : a = A := by simpa using ha
  subst e
  exact g.same.nn hA
theorem ev_lcomp {r : Env} {v : D} {m : Nat} (h : evE C r (.lcomp tg elt it) = some (v, m)) : ∃ x m1 xs l, evE C r it = some (x, m1) ∧ itemsOf x = some xs ∧
    mapO (fun d => match setTg 0 tg d (wipeE r (tgs tg)) with | some r' => (evE C r' elt).map (·.1) | none => none) xs = some l ∧ l.length ≤ line ∧ v = .list l ∧ m = 1 := by
  simp only [evE] at h
  split at h
  · split at h
    · split at h
      · split at h
        · cases h; exact ⟨_, _, _, _, by assumption, by assumption, by assumption, by assumption, rfl, rfl⟩
        · cases h
      · cases h
    · cases h
  · cases h
theorem lc_in (b : BlkE X C tgE tg scope own) {σ : L2.St} {H : Hp} {Q : VK} (h : TE' X C (.lcomp tg elt it) σ H Q) : tLc (tIt X.K X.prog X.w C it) (gTg X.K tg) tYes (tEv X.K X.prog X.w C elt) (own.map (·.2)) σ H Q := by
  obtain ⟨F, r, v, m, s, en, ev, q⟩ := h
  obtain ⟨x, m1, xs, l, e1, e2, e3, hl, rfl, rfl⟩ := ev_lcomp ev
  obtain ⟨k1, k2⟩ := mapO_at e3
  rw [b.ow]
  refine ⟨F, r, x, m1, xs, s, en, e1, e2, fun H1 F1 Fw J g1 wj0 sw _ A hA => have wj := wj0.mono sw; ⟨fun i m H2 => m = xs.length - i ∧ i ≤ xs.length ∧ LInv X F1 H1 A (l.take i) H2, ⟨xs.length, by simp, Nat.zero_le _, by rw [List.take_zero]; exact LInv.start g1.into hA⟩, ?_⟩⟩
  rintro i m H2 ⟨rfl, hi, F2, vs, g2, n2, h2, rr⟩
  by_cases hlt : i < xs.length
  · refine .inr ⟨wj.go i H2 (g2.sub.trans g2.into) hlt, fun H' => LInv X F1 H1 A (l.take (i + 1)) H', fun H' p => ⟨xs.length - (i + 1), by omega, rfl, hlt, p⟩, fun x2 H' y => ?_⟩
    obtain ⟨d, hd, rfl, hG⟩ := wj.yld i H2 x2 H' (g2.sub.trans g2.into) hlt y
    obtain ⟨G, gG, rx⟩ := hG F2 g2.sub g2.into
    obtain ⟨y', ey, ef⟩ := k2 i d hd
    split at ef
    · rename_i r' er
      obtain ⟨p, ep, e4⟩ := Option.map_eq_some_iff.mp ef
      subst e4
      have enG : EnvR X.K X.prog X.w G (L2.wipe σ (tgs tg)) (wipeE r (tgs tg)) := (((en.mono g1.sub).mono g2.sub).mono gG.sub).wipe _
      refine gTg_ok gG.into enG rx er fun e5 => ⟨tgV_wipe fun j hj => hj, ?_⟩
      unfold tYes
      dsimp only
      rw [if_pos rfl]
      refine use gG.into e5 ep fun z H4 F4 g4 rz => ?_
      have ng : G A = none := (gG.stays n2 h2 trivial).1
      obtain ⟨a1, a2⟩ := LInv.push hA (g2.trans gG) ng h2 (rr.mono gG.sub) g4 rz
      refine ⟨vs, a1, ?_, ?_⟩
      · rw [rr.length, List.length_take, sizeLine_eq]
        unfold line at hl
        omega
      · rw [take_succ ey]; exact a2
    · cases ef
  · have e : i = xs.length := by omega
    subst e
    refine .inl ⟨wj.stop _ H2 (g2.sub.trans g2.into) (Nat.le_refl _), LInv.done q g1 hA ⟨F2, vs, g2, n2, h2, ?_⟩⟩
    rw [← k1, List.take_length] at rr
    exact rr
theorem hs_of {e : Expr} (h : plainE e = true) (env : PySem.Env) : ∀ x, foldedSetIterable e env x = pure x := by
  intro x
  cases e <;> first | rfl | (simp [plainE] at h)
theorem e_lcomp (c0 : Ctx0 X) (hN : X.N.Nodup) (hp : plainE itE = true) (b : BlkE X C tgE tg scope own) (hi : PI X tgE itE (tIt X.K X.prog X.w C it)) (he : InBlk X C scope eltE elt) : PE X (.ListComp eltE [⟨tgE, itE, [], 0⟩] scope pos) (TE' X C (.lcomp tg elt it)) :=
  pe_imp (pe_lc c0.calm hN hi b.ok b.g (fun _ _ _ _ _ => pts_nil) he (hs_of hp _)) fun σ H Q h => lc_in b h
/-! with a test -/
theorem ev_lcompIf {r : Env} {v : D} {m : Nat} (h : evE C r (.lcompIf tg elt it c) = some (v, m)) : ∃ x m1 xs l, evE C r it = some (x, m1) ∧ itemsOf x = some xs ∧
    mapO (fun d => match setTg 0 tg d (wipeE r (tgs tg)) with
      | some r' => match evE C r' c with
        | some (.bool true, _) => (evE C r' elt).map fun p => [p.1]
        | some (.bool false, _) => some []
        | _ => none
      | none => none) xs = some l ∧ l.flatten.length ≤ line ∧ v = .list l.flatten ∧ m = 1 := by
  simp only [evE] at h
  split at h
  · split at h
    · split at h
      · split at h
        · cases h; exact ⟨_, _, _, _, by assumption, by assumption, by assumption, by assumption, rfl, rfl⟩
        · cases h
      · cases h
    · cases h
  · cases h
theorem flat_take_le {l : List (List D)} (i : Nat) : (l.take i).flatten.length ≤ l.flatten.length := by
  have e : l.flatten = (l.take i).flatten ++ (l.drop i).flatten := by rw [← List.flatten_append, List.take_append_drop]
  rw [e, List.length_append]
  omega
theorem lcIf_in (b : BlkE X C tgE tg scope own) {σ : L2.St} {H : Hp} {Q : VK} (h : TE' X C (.lcompIf tg elt it c) σ H Q) : tLc (tIt X.K X.prog X.w C it) (gTg X.K tg) (tTs X.K X.prog X.w C c) (tEv X.K X.prog X.w C elt) (own.map (·.2)) σ H Q := by
  obtain ⟨F, r, v, m, s, en, ev, q⟩ := h
  obtain ⟨x, m1, xs, l, e1, e2, e3, hl, rfl, rfl⟩ := ev_lcompIf ev
  obtain ⟨k1, k2⟩ := mapO_at e3
  rw [b.ow]
  refine ⟨F, r, x, m1, xs, s, en, e1, e2, fun H1 F1 Fw J g1 wj0 sw _ A hA => have wj := wj0.mono sw; ⟨fun i m H2 => m = xs.length - i ∧ i ≤ xs.length ∧ LInv X F1 H1 A (l.take i).flatten H2, ⟨xs.length, by simp, Nat.zero_le _, by rw [List.take_zero]; exact LInv.start g1.into hA⟩, ?_⟩⟩
  rintro i m H2 ⟨rfl, hi, F2, vs, g2, n2, h2, rr⟩
  by_cases hlt : i < xs.length
  · refine .inr ⟨wj.go i H2 (g2.sub.trans g2.into) hlt, fun H' => LInv X F1 H1 A (l.take (i + 1)).flatten H', fun H' p => ⟨xs.length - (i + 1), by omega, rfl, hlt, p⟩, fun x2 H' y => ?_⟩
    obtain ⟨d, hd, rfl, hG⟩ := wj.yld i H2 x2 H' (g2.sub.trans g2.into) hlt y
    obtain ⟨G, gG, rx⟩ := hG F2 g2.sub g2.into
    obtain ⟨y', ey, ef⟩ := k2 i d hd
    split at ef
    · rename_i r' er
      have enG : EnvR X.K X.prog X.w G (L2.wipe σ (tgs tg)) (wipeE r (tgs tg)) := (((en.mono g1.sub).mono g2.sub).mono gG.sub).wipe _
      have ng : G A = none := (gG.stays n2 h2 trivial).1
      refine gTg_ok gG.into enG rx er fun e5 => ⟨tgV_wipe fun j hj => hj, ?_⟩
      split at ef
      · rename_i mc ec
        obtain ⟨p, ep, e4⟩ := Option.map_eq_some_iff.mp ef
        subst e4
        refine ⟨G, r', true, mc, gG.into, e5, ec, fun H4 F4 g4 => ?_⟩
        dsimp only
        rw [if_pos rfl]
        refine use g4.into (e5.mono g4.sub) ep fun z H5 F5 g5 rz => ?_
        have ng4 : F4 A = none := (g4.stays ng h2 trivial).1
        obtain ⟨a1, a2⟩ := LInv.push hA ((g2.trans gG).trans g4) ng4 (g4.same _ _ h2) ((rr.mono gG.sub).mono g4.sub) g5 rz
        refine ⟨vs, a1, ?_, ?_⟩
        · have h3 := flat_take_le (l := l) (i + 1)
          rw [take_succ ey, List.flatten_append, List.length_append] at h3
          simp only [List.flatten_cons, List.flatten_nil, List.append_nil, List.length_singleton] at h3
          rw [rr.length, sizeLine_eq]
          unfold line at hl
          omega
        · rw [take_succ ey, List.flatten_append]
          simpa using a2
      · rename_i mc ec
        cases ef
        refine ⟨G, r', false, mc, gG.into, e5, ec, fun H4 F4 g4 => ?_⟩
        dsimp only
        rw [if_neg Bool.false_ne_true]
        refine ⟨F4, vs, (g2.trans gG).trans g4, (g4.stays ng h2 trivial).1, g4.same _ _ h2, ?_⟩
        rw [take_succ ey, List.flatten_append]
        simpa using (rr.mono gG.sub).mono g4.sub
      · cases ef
    · cases ef
  · have e : i = xs.length := by omega
    subst e
    refine .inl ⟨wj.stop _ H2 (g2.sub.trans g2.into) (Nat.le_refl _), LInv.done q g1 hA ⟨F2, vs, g2, n2, h2, ?_⟩⟩
    rw [← k1, List.take_length] at rr
    exact rr
theorem e_lcompIf (c0 : Ctx0 X) (hN : X.N.Nodup) (hp : plainE itE = true) (b : BlkE X C tgE tg scope own) (hi : PI X tgE itE (tIt X.K X.prog X.w C it)) (he : InBlk X C scope eltE elt) (ht : InBlkT X C scope cE c) :
    PE X (.ListComp eltE [⟨tgE, itE, [cE], 0⟩] scope pos) (TE' X C (.lcompIf tg elt it c)) :=
  pe_imp (pe_lc c0.calm hN hi b.ok b.g (fun s H Cc cl fp => pts_one (ht s H Cc cl fp)) he (hs_of hp _)) fun σ H Q h => lcIf_in b h
end
end Wc
/- part WcF1 -/
namespace Wc
open PySem PySem.Spec PyProof.Rows L2
/-! ### defs of the text: what each keeps -/
abbrev Sp0 := List V → Hp → VK → Prop
def noX : CXT := fun _ _ _ _ _ _ => False
def noK : XK := fun _ _ _ => False
/-- a def's promise in a place without guards -/
structure FnG (P : Program) (w : World) (K : PySem.W.Frag) (mg : Str → Option Value) (base : Heap) (k : Nat) (f : Addr) (fd : FuncData) (ps : List Str) (sp : Sp0) : Prop where
  len : ∀ vs H Q, sp vs H Q → vs.length = ps.length
  run : ∀ (A : Around) (outer : List PySem.Env) (s : Shared) (H : Hp) (args : Args) (us : List Value) (vs : List V) (Q : VK), A.guards = some [] → Room k A → Env0 P w K mg base A outer s H → BindsTo s fd args (ps.zip us) → Vals vs us → sp vs H Q →
    codeAny (model P w) A (.call (.ref f) args) (CR noX outer P w H s Q noK) s
/-- by what the value language says -/
def spC (K : PySem.W.Frag) (P : Program) (w : World) (C : Orc) (id n : Nat) : Sp0 := fun vs H Q => vs.length = n ∧ ∃ F ds d m, Sub F H ∧ RepAll K P w F vs ds ∧ C id ds = some (d, m) ∧ Res K P w F H d m Q
/-- the name x stands for the def id with n parameters -/
def Fact (X : Cx) (C : Orc) (x : Str) (id n : Nat) : Prop :=
  ∃ f fd ps k, X.mg x = some (.ref f) ∧ PySem.W.keepIn X.K (.ref f) = true ∧ Binds X.K fd ps [] ∧ ps.length = n ∧ FnG X.prog X.w X.K X.mg X.base k f fd ps (spC X.K X.prog X.w C id n) ∧ Room k X.A
section
variable {X : Cx} {C : Orc} {pos p : Pos}
theorem run_g {pins : List (Addr × Obj)} {σ : L2.St} {H : Hp} {s : Shared} {Q : VK} {us : List Value} {vs : List V} {k : Nat} {f : Addr} {fd : FuncData} {ps : List Str} {sp : Sp0} (c0 : Ctx0 X) (F : FnG X.prog X.w X.K X.mg X.base k f fd ps sp) (hr : Room k X.A) (hb : Binds X.K fd ps [])
    (I : L2.Inv X pins σ H s) (r : Vals vs us) (h : sp vs H Q) : wpAny (model X.prog X.w) X.A (call (.ref f) us) (EP X pins σ Q) X.xe s := by
  have hl : us.length = ps.length := by rw [← r.length]; exact F.len _ _ _ h
  have bt := hb s us I.kIn (by rw [List.append_nil]; exact hl)
  rw [List.append_nil] at bt
  refine wpAny_call (codeAny_mono (F.run X.A X.stack s H ⟨us, []⟩ us vs Q c0.gd hr I.env0 bt r h) fun r s' hq => ?_)
  cases r with
  | error e => exact False.elim hq
  | ok fl =>
    cases fl with
    | ret u => exact I.after hq
    | next => exact False.elim hq
    | brk => exact False.elim hq
    | cont => exact False.elim hq
theorem ev_call {r : Env} {id : Nat} {cs : List CE} {v : D} {m : Nat} (h : evE C r (.call id cs) = some (v, m)) : ∃ l, evEs C r cs = some l ∧ C id (l.map (·.1)) = some (v, m) := by
  simp only [evE] at h
  split at h
  · exact ⟨_, by assumption, h⟩
  · cases h
theorem call_in {id n : Nat} {cs : List CE} {σ : L2.St} {H : Hp} {Q : VK} (hn : cs.length = n) (h : TE' X C (.call id cs) σ H Q) : tEvs X.K X.prog X.w C cs σ H fun vs H1 => spC X.K X.prog X.w C id n vs H1 Q := by
  obtain ⟨F, r, v, m, s, en, ev, q⟩ := h
  obtain ⟨l, e1, e2⟩ := ev_call ev
  refine usel s en e1 fun vs H' F' g rv => ⟨?_, F', l.map (·.1), v, m, g.into, rv, e2, fun z H2 F2 ft g2 o hn nd => q z H2 F2 ft (g.trans g2) o (fun a ha => g.same.nn (hn a ha)) nd⟩
  rw [rv.length, List.length_map, len_evEs e1, hn]
theorem e_call {x : Str} {id n : Nat} {es : List Expr} {cs : List CE} (c0 : Ctx0 X) (hg : Gl X x) (hF : Fact X C x id n) (hn : cs.length = n) (hlen : es.length = cs.length) (hdb : (x == ("__debug__" : Str)) = false) (hpl : es.all plainE = true)
    (ha : PA X es (tEvs X.K X.prog X.w C cs)) : PE X (.Call (.Name x p) es [] pos) (TE' X C (.call id cs)) := by
  obtain ⟨f, fd, ps, k, hm, hk, hb, hl, F, hr⟩ := hF
  refine ⟨fun pins s σ H Q I h => ?_⟩
  have h2 := call_in hn h
  refine wpAny_Call_Name_kw (ld_glob I hg hm ?_ hdb)
  cases es with
  | nil =>
    have : ∃ vs, vs = [] ∧ spC X.K X.prog X.w C id n vs H Q := by
      obtain ⟨F0, r, l, sb, en, ev, q⟩ := h2
      cases cs with
      | nil =>
        simp only [evEs, Option.some.injEq] at ev
        subst ev
        exact ⟨[], rfl, q [] H F0 [] (Grow.refl sb) .nil (fun _ h => absurd h (by simp)) List.nodup_nil⟩
      | cons c cs => simp at hlen
    obtain ⟨vs, rfl, sp⟩ := this
    exact PySem.W.callWith_K0 I.kIn hk (run_g (us := []) c0 F hr hb I .nil sp)
  | cons e es =>
    rw [List.all_cons, Bool.and_eq_true] at hpl
    refine PySem.W.callWith_K (h₀ := X.base) I.ok.mod.kin hk (thn (ha.run pos pins s σ H _ I h2) fun us s1 ⟨vs, H1, I1, r, q⟩ => ⟨I1.kIn, ?_⟩) (star_of hpl.1 _ _) (any_star _ _ hpl.2)
    exact run_g c0 F hr hb I1 r q
end
/-! ### a def's body -/
theorem cxOf_owns {P : Program} {w : World} {K : PySem.W.Frag} {mg : Str → Option Value} {base : Heap} {N : List Str} {qual : Str} {scope : Scope} {f : Addr} {cd : Value} {A : Around} {outer : List PySem.Env} {s : Shared} {H : Hp} :
    PassesOwn (model P w) (cxOf noX P w K mg base N qual scope f cd A outer s H noK).A (cxOf noX P w K mg base N qual scope f cd A outer s H noK).env (cxOf noX P w K mg base N qual scope f cd A outer s H noK).xe := PassesOwn.leaving
theorem fn_g {P : Program} {w : World} {K : PySem.W.Frag} {mg : Str → Option Value} {base : Heap} {k : Nat} {f : Addr} {name qual : Str} {params : Arguments} {body : List Stmt} {scope : Scope} {dV kV doc pm cdv ct oc : Value} {an od : Option Addr}
    {osl : Array (Option Value)} {N ps : List Str} {sp : Sp0} (lk : K.lookup f = some ⟨oc, od, .func (PySem.W.fnOf name qual params body scope dV kV doc pm an cdv ct), osl⟩) (hcd : PySem.W.codeIn K cdv qual = true) (S : FnScope N ps scope)
    (len : ∀ vs H Q, sp vs H Q → vs.length = ps.length)
    (hbody : ∀ (A : Around) (outer : List PySem.Env) (s : Shared) (H : Hp) (vs : List V) (Q : VK), A.guards = some [] → Room k (A.deeper (envOfC qual scope s.heap.objs.size f cdv)) → sp vs H Q →
      ∃ t, PSs (cxOf noX P w K mg base N qual scope f cdv A outer s H noK) body t ∧ t { nx := fun _ H' => Q .non H', rt := Q } (L2.start N vs) H) :
    FnG P w K mg base (k + 1) f (PySem.W.fnOf name qual params body scope dV kV doc pm an cdv ct) ps sp := by
  refine ⟨len, fun A outer s H args us vs Q hgd room e0 hb rv hsp => ?_⟩
  have hl := len _ _ _ hsp
  have inK : K.In s.heap := e0.mod.kin.keeps fun b o e => (e0.bs b o e).1
  have noL : s.heap.NoLimit := e0.mod.nolimit.keeps fun b o e => (e0.bs b o e).1
  have kinds : ∀ y ∈ ps.zip us, scope.names.lookup y.1 = some .local ∨ (scope.names.lookup y.1 = some .cell ∧ ((cellsFrom (s.heap.objs.size + 1) scope.names []).lookup y.1).isSome = true) := by
    rintro ⟨n, v⟩ hy
    rcases S.par n (List.of_mem_zip hy).1 with q | q
    · exact .inl q
    · exact .inr ⟨q, PySem.W.cellsFrom_some _ _ _ (.inl q)⟩
  refine codeAny_call_function room.depth (inK _ _ lk) rfl S.co S.gen rfl (PySem.W.codeRec_of inK hcd) (hb _ _ _ _ ?_)
  refine wpAny_newFunctionEnv_cells S.kind kinds fun env he s1 x => ?_
  subst he
  refine ⟨noL.keeps x.toInCall.keep, codeAny_func ?_⟩
  obtain ⟨t, ht, hq⟩ := hbody A outer s H vs Q hgd (room.deeper _) hsp
  have I0 : L2.Inv (cxOf noX P w K mg base N qual scope f cdv A outer s H noK) [] (L2.start N vs) H s1 := inv_start S room.hd e0 hl rv x
  refine wpAny_mono (ht.run [] s1 (L2.start N vs) H _ I0 hq) (fun fl s' z => ?_) fun _ _ z => z
  cases fl with
  | ret u =>
    obtain ⟨v, σ', H', J, r', q⟩ := z
    exact ⟨v, H', J.os, J.bare, J.base, J.hok, r', q⟩
  | next =>
    obtain ⟨σ', H', J, q⟩ := z
    exact ⟨V.non, H', J.os, J.bare, J.base, J.hok, rfl, q⟩
  | brk => exact z.elim fun _ ⟨_, _, q⟩ => q.elim
  | cont => exact z.elim fun _ ⟨_, _, q⟩ => q.elim
end Wc
/- part WcF2 -/
namespace Wc
open PySem PySem.Spec PyProof.Rows L2
/-! ### from the text to the value language -/
structure Sc where
  N : List Str
  nm : List (Str × NameKind)
  gl : List (Str × Nat × Nat)
  fr : List Str
def Sc.isGl (S : Sc) (x : Str) : Bool := S.nm.lookup x == some .globalImplicit && !(x == "__debug__")
def Sc.isFr (S : Sc) (x : Str) : Bool := S.isGl x && S.fr.contains x
def Sc.isVis (S : Sc) (x : Str) : Bool := (S.nm.lookup x == some .local || S.nm.lookup x == some .cell || S.nm.lookup x == some .free) && !(x == "__debug__") && !(x == "__classdict__")
def Sc.isLoc (S : Sc) (x : Str) : Bool := S.nm.lookup x == some .local || S.nm.lookup x == some .cell
def ixO (N : List Str) (x : Str) : Option Nat := N.findIdx? (fun y => decide (y = x))
theorem ixO_at {N : List Str} {x : Str} {i : Nat} (h : ixO N x = some i) : N[i]? = some x := by
  obtain ⟨hi, p, _⟩ := List.findIdx?_eq_some_iff_getElem.mp h
  rw [List.getElem?_eq_getElem hi]
  simpa using p
def bopC : Operator → Option BOp
  | .Add => some .add
  | .Sub => some .sub
  | .Mult => some .mul
  | .FloorDiv => some .fdiv
  | .Mod => some .mod
  | .Pow => some .pow
  | _ => none
theorem bopC_ok {o : Operator} {b : BOp} (h : bopC o = some b) : o = bopO b := by cases o <;> simp [bopC] at h <;> subst h <;> rfl
def copC : CmpOp → Option COp
  | .Eq => some .eq
  | .NotEq => some .ne
  | .Lt => some .lt
  | .LtE => some .le
  | .Gt => some .gt
  | .GtE => some .ge
  | .In => some .isin
  | .NotIn => some .notin
  | _ => none
theorem copC_ok {o : CmpOp} {b : COp} (h : copC o = some b) : o = copO b := by cases o <;> simp [copC] at h <;> subst h <;> rfl
def okT : Expr → Bool
  | .Name _ _ => true
  | .Call _ _ _ _ => true
  | .Subscript _ _ _ => true
  | .Compare _ _ _ _ => true
  | .BoolOp _ _ _ => true
  | .UnaryOp .Not e _ => okT e
  | _ => false
def foldB (op : BoolOp) : List CE → Option CE
  | [] => none
  | [x] => some x
  | x :: y :: r => match foldB op (y :: r) with
    | some t => some (match op with | .And => .and x t | .Or => .or x t)
    | none => none
def tyC (x : Str) : Option Ty :=
  if x == Str.ofString (tyS .int) then some .int
  else if x == Str.ofString (tyS .bool) then some .bool
  else if x == Str.ofString (tyS .list) then some .list
  else if x == Str.ofString (tyS .tuple) then some .tuple
  else if x == Str.ofString (tyS .str) then some .str else none
theorem tyC_ok {x : Str} {t : Ty} (h : tyC x = some t) : x = Str.ofString (tyS t) := by
  unfold tyC at h
  split at h
  · rename_i e; cases h; exact eq_of_beq e
  · split at h
    · rename_i e; cases h; exact eq_of_beq e
    · split at h
      · rename_i e; cases h; exact eq_of_beq e
      · split at h
        · rename_i e; cases h; exact eq_of_beq e
        · split at h
          · rename_i e; cases h; exact eq_of_beq e
          · cases h
def bltC (x : Str) (n : Nat) : Option Blt :=
  if x == "len" && n == 1 then some .len
  else if x == "sorted" && n == 1 then some .sorted
  else if x == "list" && n == 1 then some .list
  else if x == "int" && n == 1 then some .int
  else if x == "abs" && n == 1 then some .abs
  else if x == "min" && n == 2 then some .min2
  else if x == "max" && n == 2 then some .max2
  else if x == "sum" && n == 1 then some .sum
  else if x == "repr" && n == 1 then some .repr
  else if x == "tuple" && n == 1 then some .tuple
  else if x == "dict" && n == 1 then some .dict
  else none
structure BltOk (X : Cx) (x : Str) (f : Blt) : Prop where
  nn : x ≠ "__name__"
  nd : (x == ("__debug__" : Str)) = false
  fn : (∃ id, CallR X (.builtin id) (rBlt X f) ∧ bootBuiltins x = some (.builtin id)) ∨ (∃ T, CallR X (.type T) (rBlt X f) ∧ bootBuiltins x = some (.type T))
theorem bltC_ok {X : Cx} (c0 : Ctx0 X) {x : Str} {n : Nat} {f : Blt} (h : bltC x n = some f) : BltOk X x f := by
  unfold bltC at h
  split at h
  · rename_i e; cases h; rw [Bool.and_eq_true] at e; have := eq_of_beq e.1; subst this
    exact ⟨by decide +kernel, by decide +kernel, .inl ⟨_, c_len c0, by decide +kernel⟩⟩
  split at h
  · rename_i e; cases h; rw [Bool.and_eq_true] at e; have := eq_of_beq e.1; subst this
    exact ⟨by decide +kernel, by decide +kernel, .inl ⟨_, c_sorted c0, by decide +kernel⟩⟩
  split at h
  · rename_i e; cases h; rw [Bool.and_eq_true] at e; have := eq_of_beq e.1; subst this
    exact ⟨by decide +kernel, by decide +kernel, .inr ⟨_, c_list c0, by decide +kernel⟩⟩
  split at h
  · rename_i e; cases h; rw [Bool.and_eq_true] at e; have := eq_of_beq e.1; subst this
    exact ⟨by decide +kernel, by decide +kernel, .inr ⟨_, c_int c0, by decide +kernel⟩⟩
  split at h
  · rename_i e; cases h; rw [Bool.and_eq_true] at e; have := eq_of_beq e.1; subst this
    exact ⟨by decide +kernel, by decide +kernel, .inl ⟨_, c_abs c0, by decide +kernel⟩⟩
  split at h
  · rename_i e; cases h; rw [Bool.and_eq_true] at e; have := eq_of_beq e.1; subst this
    exact ⟨by decide +kernel, by decide +kernel, .inl ⟨_, c_min2 c0, by decide +kernel⟩⟩
  split at h
  · rename_i e; cases h; rw [Bool.and_eq_true] at e; have := eq_of_beq e.1; subst this
    exact ⟨by decide +kernel, by decide +kernel, .inl ⟨_, c_max2 c0, by decide +kernel⟩⟩
  split at h
  · rename_i e; cases h; rw [Bool.and_eq_true] at e; have := eq_of_beq e.1; subst this
    exact ⟨by decide +kernel, by decide +kernel, .inl ⟨_, c_sum c0, by decide +kernel⟩⟩
  split at h
  · rename_i e; cases h; rw [Bool.and_eq_true] at e; have := eq_of_beq e.1; subst this
    exact ⟨by decide +kernel, by decide +kernel, .inl ⟨_, c_repr c0, by decide +kernel⟩⟩
  split at h
  · rename_i e; cases h; rw [Bool.and_eq_true] at e; have := eq_of_beq e.1; subst this
    exact ⟨by decide +kernel, by decide +kernel, .inr ⟨_, c_tuple c0, by decide +kernel⟩⟩
  split at h
  · rename_i e; cases h; rw [Bool.and_eq_true] at e; have := eq_of_beq e.1; subst this
    exact ⟨by decide +kernel, by decide +kernel, .inr ⟨_, c_dict c0, by decide +kernel⟩⟩
  · cases h
/-! targets -/
def tgN (ok : Str → Bool) (N : List Str) : Expr → Option (Str × Nat)
  | .Name x _ => if ok x then (ixO N x).map fun i => (x, i) else none
  | _ => none
def cTg (ok : Str → Bool) (N : List Str) : Expr → Option (Tg × List (Str × Nat))
  | .Tuple es _ _ => (mapO (tgN ok N) es).map fun l => (.many (l.map (·.2)), l)
  | e => (tgN ok N e).map fun p => (.one p.2, [p])
theorem tgN_ok {ok : Str → Bool} {N : List Str} {e : Expr} {p : Str × Nat} (h : tgN ok N e = some p) : ∃ pos, e = .Name p.1 pos ∧ ok p.1 = true ∧ N[p.2]? = some p.1 := by
  unfold tgN at h
  split at h
  · split at h
    · obtain ⟨i, h1, h2⟩ := Option.map_eq_some_iff.mp h
      subst h2
      exact ⟨_, rfl, by assumption, ixO_at h1⟩
    · cases h
  · cases h
section
variable {X : Cx}
theorem pg_many {ok : Str → Bool} (hN : X.N.Nodup) (hx : ∀ x, ok x = true → Loc X.env.scope x ∧ (X.fn x = true ∨ X.env.scope.names.lookup x = some .local)) : ∀ {es : List Expr} {l : List (Str × Nat)}, mapO (tgN ok X.N) es = some l →
    PGs X es (gNames (l.map (·.2))) ∧ (assignEach es X.env).length = l.length ∧ (assignEach es X.env).findIdx? (·.1) = none
  | [], l, h => by
    simp only [mapO, Option.some.injEq] at h
    subst h
    exact ⟨pgs_nil, rfl, rfl⟩
  | e :: es, l, h => by
    simp only [mapO] at h
    split at h
    · cases h
    · rename_i y ey
      split at h
      · cases h
      · rename_i ys eys
        cases h
        obtain ⟨pos, rfl, k1, k2⟩ := tgN_ok ey
        obtain ⟨p1, p2, p3⟩ := pg_many hN hx eys
        obtain ⟨l1, l2⟩ := hx _ k1
        refine ⟨pgs_cons (pg_name hN k2 l1 l2) p1 rfl, ?_, ?_⟩
        · show (assignEach es X.env).length + 1 = _
          rw [p2]; rfl
        · show List.findIdx? _ ((false, _) :: assignEach es X.env) = none
          rw [List.findIdx?_cons, p3]; rfl
theorem pg_tg {ok : Str → Bool} (hc : X.calm = true) (hN : X.N.Nodup) (hx : ∀ x, ok x = true → Loc X.env.scope x ∧ (X.fn x = true ∨ X.env.scope.names.lookup x = some .local)) {e : Expr} {tg : Tg} {own : List (Str × Nat)} (h : cTg ok X.N e = some (tg, own)) :
    PG X e (gTg X.K tg) ∧ own.map (·.2) = tgs tg ∧ ∀ p ∈ own, ok p.1 = true ∧ X.N[p.2]? = some p.1 := by
  have one : ∀ {p : Str × Nat}, tgN ok X.N e = some p → tg = .one p.2 → own = [p] → PG X e (gTg X.K tg) ∧ own.map (·.2) = tgs tg ∧ ∀ p ∈ own, ok p.1 = true ∧ X.N[p.2]? = some p.1 := by
    rintro p ep rfl rfl
    obtain ⟨pos, rfl, k1, k2⟩ := tgN_ok ep
    obtain ⟨l1, l2⟩ := hx _ k1
    exact ⟨pg_name hN k2 l1 l2, rfl, fun q hq => by rw [List.mem_singleton.mp hq]; exact ⟨k1, k2⟩⟩
  unfold cTg at h
  split at h
  · rename_i es _ _
    obtain ⟨l, h1, h2⟩ := Option.map_eq_some_iff.mp h
    cases h2
    obtain ⟨p1, p2, p3⟩ := pg_many hN hx h1
    refine ⟨pg_tup (n := (own.map (·.2)).length) hc p1 (by rw [p2, List.length_map]) p3, rfl, fun p hp => ?_⟩
    obtain ⟨k1, k2⟩ := mapO_at h1
    obtain ⟨i, hi⟩ := List.mem_iff_getElem?.mp hp
    have hil : i < es.length := by
      have := (List.getElem?_eq_some_iff.mp hi).1
      omega
    obtain ⟨y, y1, y2⟩ := k2 i _ (List.getElem?_eq_getElem hil)
    rw [hi] at y1
    cases y1
    obtain ⟨_, _, k3, k4⟩ := tgN_ok y2
    exact ⟨k3, k4⟩
  · obtain ⟨p, h1, h2⟩ := Option.map_eq_some_iff.mp h
    cases h2
    exact one h1 rfl rfl
end
/-! blocks -/
def relN (names nm : List (Str × NameKind)) : List (Str × NameKind) := names.map fun (n, k) => if (k == .free && nm.lookup n == some .cell) then (n, .cell) else (n, k)
def ownN (names : List (Str × NameKind)) (x : Str) : Bool := names.lookup x == some .local || names.lookup x == some .cell
def blkOkB (S : Sc) (scope : Scope) (own : List (Str × Nat)) : Bool :=
  decide (scope.kind = .function) && scope.names.all (fun y => scope.names.lookup y.1 == some y.2) &&
  scope.names.all (fun y => !(y.2 == .free) || (S.nm.lookup y.1 == some .cell || S.nm.lookup y.1 == some .free)) &&
  scope.names.all (fun y => !(y.2 == .local || y.2 == .cell) || ((own.map (·.1)).contains y.1 || !(S.N.contains y.1)))
def Sc.blk (S : Sc) (scope : Scope) : Sc := { S with nm := relN scope.names S.nm }

structure CtxS (X : Cx) (S : Sc) (C : Orc) : Prop where
  c0 : Ctx0 X
  nd : X.N.Nodup
  hN : X.N = S.N
  nm : X.env.scope.names = S.nm
  kind : X.env.scope.kind = .function
  gl : ∀ x id n, S.gl.lookup x = some (id, n) → Fact X C x id n
  fr : ∀ x ∈ S.fr, X.mg x = none
section
variable {X : Cx} {S : Sc} {C : Orc}
theorem CtxS.glob (c : CtxS X S C) {x : Str} (h : S.isGl x = true) : Gl X x ∧ (x == ("__debug__" : Str)) = false := by
  simp only [Sc.isGl, Bool.and_eq_true, Bool.not_eq_true', beq_iff_eq] at h
  refine ⟨?_, h.2⟩
  show X.env.scope.names.lookup x = _
  rw [c.nm]; exact h.1
theorem CtxS.free (c : CtxS X S C) {x : Str} (h : S.isFr x = true) : Gl X x ∧ X.mg x = none := by
  simp only [Sc.isFr, Bool.and_eq_true] at h
  exact ⟨(c.glob h.1).1, c.fr x (by simpa using h.2)⟩
theorem CtxS.vis (c : CtxS X S C) {x : Str} (h : S.isVis x = true) : Vis X.env.scope x ∧ (x == ("__debug__" : Str)) = false ∧ (x == ("__classdict__" : Str)) = false := by
  simp only [Sc.isVis, Bool.and_eq_true, Bool.or_eq_true, Bool.not_eq_true', beq_iff_eq] at h
  refine ⟨?_, h.1.2, h.2⟩
  unfold Vis
  rw [c.nm]
  rcases h.1.1 with (h | h) | h
  · exact .inl h
  · exact .inr (.inl h)
  · exact .inr (.inr h)
theorem relS_names (scope sc : Scope) (h : sc.kind = .function) : (relS scope sc).names = relN scope.names sc.names := by
  unfold relS relN
  dsimp only
  rw [h]
  refine List.map_congr_left fun y _ => ?_
  obtain ⟨n, k⟩ := y
  simp
theorem CtxS.blk (c : CtxS X S C) {scope : Scope} {own : List (Str × Nat)} (hb : blkOkB S scope own = true) (s : Shared) (H : Hp) (Cc : Addr) (cl : List (Str × Addr)) (fp : List Addr) : CtxS (X.blk s H scope (compEnvC scope cl Cc X.env) fp) (S.blk scope) C where
  c0 := ⟨c.c0.calm, c.c0.hu, c.c0.gd⟩
  nd := c.nd
  hN := c.hN
  nm := by
    show (relS scope X.env.scope).names = _
    rw [relS_names _ _ c.kind, c.nm]; rfl
  kind := by
    simp only [blkOkB, Bool.and_eq_true, decide_eq_true_eq] at hb
    exact hb.1.1.1
  gl := fun x id n h => c.gl x id n h
  fr := c.fr
theorem CtxS.blkE (c : CtxS X S C) {scope : Scope} {tgE : Expr} {tg : Tg} {own : List (Str × Nat)} (hb : blkOkB S scope own = true) (ht : cTg (ownN scope.names) S.N tgE = some (tg, own)) : BlkE X C tgE tg scope own := by
  have hok : ∀ (s : Shared) (H : Hp) (Cc : Addr) (cl : List (Str × Addr)) (fp : List Addr) (x : Str), ownN scope.names x = true → Loc (X.blk s H scope (compEnvC scope cl Cc X.env) fp).env.scope x ∧ ((X.blk s H scope (compEnvC scope cl Cc X.env) fp).fn x = true ∨ (X.blk s H scope (compEnvC scope cl Cc X.env) fp).env.scope.names.lookup x = some .local) := by
    intro s H Cc cl fp x hx
    simp only [ownN, Bool.or_eq_true, beq_iff_eq] at hx
    rcases hx with hx | hx
    · have := lookup_relS_keep (sc := X.env.scope) (k := .local) (by decide) hx
      exact ⟨.inl this, .inr this⟩
    · have := lookup_relS_keep (sc := X.env.scope) (k := .cell) (by decide) hx
      exact ⟨.inr this, .inl (by show (scope.names.lookup x == some .cell) = true; rw [hx]; decide)⟩
  have ht' : cTg (ownN scope.names) X.N tgE = some (tg, own) := by rw [c.hN]; exact ht
  simp only [blkOkB, Bool.and_eq_true, decide_eq_true_eq, List.all_eq_true] at hb
  obtain ⟨⟨⟨b1, b2⟩, b3⟩, b4⟩ := hb
  have gg := fun s H Cc cl fp => pg_tg (X := X.blk s H scope (compEnvC scope cl Cc X.env) fp) c.c0.calm c.nd (hok s H Cc cl fp) ht'
  refine ⟨⟨b1, fun y hy => by simpa using b2 y hy, fun p hp => ?_, fun y hy e => ?_, fun y hy e => ?_⟩, ?_, fun s H Cc cl fp => (gg s H Cc cl fp).1⟩
  · exact ((gg X.s_0 X.H_0 0 [] []).2.2 p hp).2
  · have := b3 y hy
    rw [c.nm]
    simpa [e] using this
  · have := b4 y hy
    have e' : (y.2 == NameKind.local || y.2 == NameKind.cell) = true := by simpa using e
    rw [e'] at this
    rw [c.hN]
    simpa using this
  · exact (gg X.s_0 X.H_0 0 [] []).2.1
end
end Wc
/- part WcF3 -/
namespace Wc
open PySem PySem.Spec PyProof.Rows L2
def isRng (S : Sc) : Expr → Option (List Expr)
  | .Call (.Name x _) es [] _ => if x == "range" && S.isFr x then some es else none
  | _ => none
def isNone : Expr → Bool
  | .Constant .none _ _ => true
  | _ => false
def cIt (S : Sc) (f : Expr → Option CE) (e : Expr) : Option CE :=
  match e with
  | .Call (.Name x _) [b] [] _ =>
    if x == "range" && S.isFr x then (if plainE b then (f b).map (.rng (.lit (.int 0))) else none)
    else if x == "reversed" && S.isFr x then (if plainE b then (f b).map .rvd else none) else f e
  | .Call (.Name x _) [a, b] [] _ =>
    if x == "range" && S.isFr x then (if plainE a && plainE b then match f a, f b with
      | some x, some y => some (.rng x y)
      | _, _ => none
      else none) else f e
  | _ => f e
def cName (S : Sc) (x : Str) : Option CE := if S.isVis x then (ixO S.N x).map .var else none
def cFun (S : Sc) (f : Expr → Option CE) (x : Str) (es : List Expr) : Option CE :=
  if es.all plainE then match mapO f es with
    | some cs => match S.gl.lookup x with
      | some (id, n) => if S.isGl x && decide (cs.length = n) then some (.call id cs) else none
      | none => if S.isFr x && !es.isEmpty then (bltC x cs.length).map fun b => .blt b cs else none
    | none => none
  else none
def cCall (S : Sc) (f : Expr → Option CE) (x : Str) (es : List Expr) : Option CE :=
  match es with
  | [a, .Name y _] =>
    if x == "isinstance" && S.isFr x then (if plainE a && S.isFr y then match f a, tyC y with
      | some c, some t => some (.isi c t)
      | _, _ => none
      else none) else cFun S f x es
  | [.Call (.Name y _) [b] [] _] =>
    if x == "list" && S.isFr x && y == "range" && S.isFr y then (if plainE b then (f b).map (.lrng (.lit (.int 0))) else none) else cFun S f x es
  | [.Call (.Name y _) [a, b] [] _] =>
    if x == "list" && S.isFr x && y == "range" && S.isFr y then (if plainE a && plainE b then match f a, f b with
      | some u, some v => some (.lrng u v)
      | _, _ => none
      else none) else cFun S f x es
  | _ => cFun S f x es
def cMeth (f : Expr → Option CE) (o : Expr) (m : Str) (apos pos : Pos) (es : List Expr) : Option CE :=
  if isBase o && (apos.endLine == pos.line) then match es with
    | [k] => if plainE k then match f o, f k with
        | some a, some b => if m == "get" then some (.get1 a b) else if m == "index" then some (.index a b) else none
        | _, _ => none
        else none
    | [k, d] => if plainE k && plainE d && m == "get" then match f o, f k, f d with
        | some a, some b, some c => some (.get2 a b c)
        | _, _, _ => none
        else none
    | _ => none
  else none
def cPart (f : Expr → Option CE) : Option Expr → Option (Bool × CE)
  | none => some (false, .lit .none)
  | some e => (f e).map fun c => (true, c)
def isRev : Option Expr → Option Expr → Option Expr → Bool
  | none, none, some (.UnaryOp .USub (.Constant (.int i) _ _) _) => decide (i = 1)
  | _, _, _ => false
def cSub (f : Expr → Option CE) (a b : Expr) : Option CE :=
  match b with
  | .Slice lo hi st _ =>
    if isRev lo hi st then (f a).map .rev else match st with
      | none => match f a, cPart f lo, cPart f hi with
        | some x, some (p, l), some (q, h) => some (.slc p q x l h)
        | _, _, _ => none
      | some _ => none
  | _ => if plainE b then match f a, f b with
    | some x, some y => some (.idx x y)
    | _, _ => none
    else none
def cCmp (f : Expr → Option CE) (a : Expr) (ops : List CmpOp) (bs : List Expr) : Option CE :=
  match ops, bs with
  | [.Is], [b] => if isNone b then (f a).map (.isn false) else none
  | [.IsNot], [b] => if isNone b then (f a).map (.isn true) else none
  | [o], [b] => if plainE b then match copC o, f a, f b with
    | some p, some x, some y => some (.cmp p x y)
    | _, _, _ => none
    else none
  | [o, o2], [b, c] => if plainE c then match copC o, copC o2, f a, f b, f c with
    | some p, some q, some x, some y, some z => some (.chain p q x y z)
    | _, _, _, _, _ => none
    else none
  | _, _ => none
def cComp (S : Sc) (cE : Sc → Expr → Option CE) (elt : Expr) (gs : List Comprehension) (scope : Scope) : Option CE :=
  match gs with
  | [⟨tg, it, ifs, 0⟩] =>
    match cTg (ownN scope.names) S.N tg with
    | some (t, own) => if plainE it && blkOkB S scope own then match cIt S (cE S) it, cE (S.blk scope) elt with
        | some i, some x => match ifs with
          | [] => some (.lcomp t x i)
          | [c] => if okT c then (cE (S.blk scope) c).map (.lcompIf t x i) else none
          | _ => none
        | _, _ => none
        else none
    | none => none
  | _ => none
def cE : Nat → Sc → Expr → Option CE
  | 0, _, _ => none
  | n + 1, S, e => match e with
    | .Name x _ => cName S x
    | .Constant (.int i) _ _ => some (.lit (.int i))
    | .Constant (.bool i) _ _ => some (.lit (.bool i))
    | .Constant .none _ _ => some (.lit .none)
    | .Constant (.str x) _ _ => some (.lit (.str x))
    | .List es _ => if es.length ≤ 100 ∧ es.all plainE = true then (mapO (cE n S) es).map .lst else none
    | .Tuple es _ _ => if es.length ≤ 100 ∧ es.all plainE = true then (mapO (cE n S) es).map .tup else none
    | .Dict [] [] _ => some (.dict0 false)
    | .BinOp a op b _ => match bopC op, cE n S a, cE n S b with
      | some o, some x, some y => some (.bin o x y)
      | _, _, _ => none
    | .UnaryOp .USub a _ => (cE n S a).map .neg
    | .UnaryOp .Not a _ => (cE n S a).map .not
    | .Compare a ops bs _ => cCmp (cE n S) a ops bs
    | .BoolOp op es _ => if es.all okT then (mapO (cE n S) es).bind (foldB op) else none
    | .Subscript a b _ => cSub (cE n S) a b
    | .Call (.Name x _) es [] _ => cCall S (cE n S) x es
    | .Call (.Attribute o m apos) es [] pos => cMeth (cE n S) o m apos pos es
    | .ListComp elt gs scope _ => cComp S (cE n) elt gs scope
    | _ => none

/-! ### it is right -/
structure Both (X : Cx) (C : Orc) (e : Expr) (c : CE) : Prop where
  pe : PE X e (TE' X C c)
  pt : okT e = true → PT X e (TT' X C c)
section
variable {X : Cx} {S : Sc} {C : Orc} {f : Expr → Option CE} {c : CE}
theorem both_val {e : Expr} (h : PE X e (TE' X C c)) (he : okT e = true → ∀ whole, isTrue e X.env whole = (do let v ← whole; standAt e.pos; holding [v] (truthy v))) : Both X C e c := ⟨h, fun k => pt_of h (he k)⟩
theorem pa_all (hf : ∀ e c, f e = some c → Both X C e c) : ∀ {es : List Expr} {cs : List CE}, es.all plainE = true → mapO f es = some cs → PA X es (tEvs X.K X.prog X.w C cs) ∧ cs.length = es.length
  | [], cs, _, h => by
    simp only [mapO, Option.some.injEq] at h
    subst h
    exact ⟨pa_nil', rfl⟩
  | e :: es, cs, hp, h => by
    rw [List.all_cons, Bool.and_eq_true] at hp
    simp only [mapO] at h
    split at h
    · cases h
    · rename_i y ey
      split at h
      · cases h
      · rename_i ys eys
        cases h
        obtain ⟨p1, p2⟩ := pa_all hf hp.2 eys
        exact ⟨pa_cons' (hf _ _ ey).pe p1 (star_of hp.1 _ _), by simp [p2]⟩
theorem cName_ok {x : Str} {pos : Pos} (k : CtxS X S C) (h : cName S x = some c) : Both X C (.Name x pos) c := by
  unfold cName at h
  split at h
  · rename_i hv
    obtain ⟨i, h1, h2⟩ := Option.map_eq_some_iff.mp h
    subst h2
    obtain ⟨v1, v2, v3⟩ := k.vis hv
    exact both_val (e_var (by rw [k.hN]; exact ixO_at h1) v1 v2 v3) fun _ _ => rfl
  · cases h
theorem cFun_ok {x : Str} {es : List Expr} {p pos : Pos} (k : CtxS X S C) (hf : ∀ e c, f e = some c → Both X C e c) (h : cFun S f x es = some c) : Both X C (.Call (.Name x p) es [] pos) c := by
  unfold cFun at h
  split at h
  · rename_i hpl
    split at h
    · rename_i cs ecs
      obtain ⟨pa, hlen⟩ := pa_all hf hpl ecs
      split at h
      · rename_i id n eg
        split at h
        · rename_i hc
          cases h
          simp only [Bool.and_eq_true, decide_eq_true_eq] at hc
          obtain ⟨g1, g2⟩ := k.glob hc.1
          exact both_val (e_call k.c0 g1 (k.gl _ _ _ eg) hc.2 hlen.symm g2 hpl pa) fun _ _ => rfl
        · cases h
      · split at h
        · rename_i hc
          simp only [Bool.and_eq_true] at hc
          obtain ⟨g1, g2⟩ := k.free hc.1
          obtain ⟨b, eb, e2⟩ := Option.map_eq_some_iff.mp h
          subst e2
          have bo := bltC_ok (X := X) k.c0 eb
          cases es with
          | nil => simp at hc
          | cons e es =>
            rcases bo.fn with ⟨id, c1, c2⟩ | ⟨T, c1, c2⟩
            · exact both_val (e_bltF c1 g1 g2 c2 bo.nn bo.nd hpl pa) fun _ _ => rfl
            · exact both_val (e_bltT c1 g1 g2 c2 bo.nn bo.nd hpl pa) fun _ _ => rfl
        · cases h
    · cases h
  · cases h
theorem cCall_ok {x : Str} {es : List Expr} {p pos : Pos} (k : CtxS X S C) (hf : ∀ e c, f e = some c → Both X C e c) (h : cCall S f x es = some c) : Both X C (.Call (.Name x p) es [] pos) c := by
  unfold cCall at h
  split at h
  · rename_i a y q
    split at h
    · rename_i hx
      rw [Bool.and_eq_true] at hx
      split at h
      · rename_i hc
        rw [Bool.and_eq_true] at hc
        split at h
        · rename_i c1 t e1 e2
          cases h
          have := eq_of_beq hx.1
          subst this
          have := tyC_ok e2
          subst this
          obtain ⟨g1, g2⟩ := k.free hx.2
          obtain ⟨g3, g4⟩ := k.free hc.2
          exact both_val (e_isi hc.1 g1 g2 g3 g4 (hf _ _ e1).pe) fun _ _ => rfl
        · cases h
      · cases h
    · exact cFun_ok k hf h
  · rename_i y q b q2
    split at h
    · rename_i hx
      simp only [Bool.and_eq_true] at hx
      split at h
      · rename_i hb
        obtain ⟨c1, e1, e2⟩ := Option.map_eq_some_iff.mp h
        subst e2
        have := eq_of_beq hx.1.1.1
        subst this
        have := eq_of_beq hx.1.2
        subst this
        obtain ⟨g1, g2⟩ := k.free hx.1.1.2
        obtain ⟨g3, g4⟩ := k.free hx.2
        exact both_val (e_lrng1 k.c0 hb g3 g4 g1 g2 (hf _ _ e1).pe) fun _ _ => rfl
      · cases h
    · exact cFun_ok k hf h
  · rename_i y q a b q2
    split at h
    · rename_i hx
      simp only [Bool.and_eq_true] at hx
      split at h
      · rename_i hb
        rw [Bool.and_eq_true] at hb
        split at h
        · rename_i c1 c2 e1 e2
          cases h
          have := eq_of_beq hx.1.1.1
          subst this
          have := eq_of_beq hx.1.2
          subst this
          obtain ⟨g1, g2⟩ := k.free hx.1.1.2
          obtain ⟨g3, g4⟩ := k.free hx.2
          exact both_val (e_lrng2 k.c0 hb.1 hb.2 g3 g4 g1 g2 (hf _ _ e1).pe (hf _ _ e2).pe) fun _ _ => rfl
        · cases h
      · cases h
    · exact cFun_ok k hf h
  · exact cFun_ok k hf h
theorem cMeth_ok {o : Expr} {m : Str} {es : List Expr} {apos pos : Pos} (k : CtxS X S C) (hf : ∀ e c, f e = some c → Both X C e c) (h : cMeth f o m apos pos es = some c) : Both X C (.Call (.Attribute o m apos) es [] pos) c := by
  unfold cMeth at h
  split at h
  · rename_i hb
    rw [Bool.and_eq_true] at hb
    split at h
    · rename_i key
      split at h
      · rename_i hp
        split at h
        · rename_i a b ea eb
          split at h
          · rename_i hm
            cases h
            have := eq_of_beq hm
            subst this
            exact both_val (e_get1 k.c0 hb.1 hp hb.2 (hf _ _ ea).pe (hf _ _ eb).pe) fun _ _ => rfl
          · split at h
            · rename_i hm
              cases h
              have := eq_of_beq hm
              subst this
              exact both_val (e_index k.c0 hb.1 hp hb.2 (hf _ _ ea).pe (hf _ _ eb).pe) fun _ _ => rfl
            · cases h
        · cases h
      · cases h
    · rename_i key d
      split at h
      · rename_i hp
        simp only [Bool.and_eq_true] at hp
        split at h
        · rename_i a b c1 ea eb ec
          cases h
          have := eq_of_beq hp.2
          subst this
          exact both_val (e_get2 k.c0 hb.1 hp.1.1 hp.1.2 hb.2 (hf _ _ ea).pe (hf _ _ eb).pe (hf _ _ ec).pe) fun _ _ => rfl
        · cases h
      · cases h
    · cases h
  · cases h
theorem cPart_ok (hf : ∀ e c, f e = some c → Both X C e c) {p : Option Expr} {b : Bool} {x : CE} (h : cPart f p = some (b, x)) : partOk b x p = true ∧ ∀ e', p = some e' → PE X e' (TE' X C x) := by
  cases p with
  | none =>
    simp only [cPart, Option.some.injEq, Prod.mk.injEq] at h
    obtain ⟨rfl, rfl⟩ := h
    exact ⟨rfl, fun _ z => by cases z⟩
  | some e =>
    simp only [cPart] at h
    obtain ⟨c1, e1, e2⟩ := Option.map_eq_some_iff.mp h
    cases e2
    exact ⟨rfl, fun _ z => by cases z; exact (hf _ _ e1).pe⟩
theorem isRev_ok {lo hi st : Option Expr} (h : isRev lo hi st = true) : ∃ k p1 p2, lo = none ∧ hi = none ∧ st = some (.UnaryOp .USub (.Constant (.int 1) k p1) p2) := by
  unfold isRev at h
  split at h
  · have := of_decide_eq_true h
    subst this
    exact ⟨_, _, _, rfl, rfl, rfl⟩
  · cases h
theorem cSub_ok {a b : Expr} {pos : Pos} (k : CtxS X S C) (hf : ∀ e c, f e = some c → Both X C e c) (h : cSub f a b = some c) : Both X C (.Subscript a b pos) c := by
  unfold cSub at h
  split at h
  · split at h
    · rename_i hr
      obtain ⟨c1, e1, e2⟩ := Option.map_eq_some_iff.mp h
      subst e2
      obtain ⟨_, _, _, rfl, rfl, rfl⟩ := isRev_ok hr
      exact both_val (e_rev (hf _ _ e1).pe) fun _ _ => rfl
    · split at h
      · split at h
        · rename_i ea el eh
          cases h
          obtain ⟨l1, l2⟩ := cPart_ok hf el
          obtain ⟨h1, h2⟩ := cPart_ok hf eh
          exact both_val (e_slc (hf _ _ ea).pe l1 h1 l2 h2) fun _ _ => rfl
        · cases h
      · cases h
  · split at h
    · rename_i hp
      split at h
      · rename_i ea eb
        cases h
        exact both_val (e_idx k.c0 hp (hf _ _ ea).pe (hf _ _ eb).pe) fun _ _ => rfl
      · cases h
    · cases h
theorem isNone_ok {e : Expr} (h : isNone e = true) : ∃ k p, e = .Constant .none k p := by
  unfold isNone at h
  split at h
  · exact ⟨_, _, rfl⟩
  · cases h
theorem cCmp_ok {a : Expr} {ops : List CmpOp} {bs : List Expr} {pos : Pos} (k : CtxS X S C) (hf : ∀ e c, f e = some c → Both X C e c) (h : cCmp f a ops bs = some c) : Both X C (.Compare a ops bs pos) c := by
  unfold cCmp at h
  split at h
  · split at h
    · rename_i hn
      obtain ⟨c1, e1, e2⟩ := Option.map_eq_some_iff.mp h
      subst e2
      obtain ⟨_, _, rfl⟩ := isNone_ok hn
      exact ⟨e_isn0 (hf _ _ e1).pe, fun _ => t_isn0 (hf _ _ e1).pe⟩
    · cases h
  · split at h
    · rename_i hn
      obtain ⟨c1, e1, e2⟩ := Option.map_eq_some_iff.mp h
      subst e2
      obtain ⟨_, _, rfl⟩ := isNone_ok hn
      exact ⟨e_isn1 (hf _ _ e1).pe, fun _ => t_isn1 (hf _ _ e1).pe⟩
    · cases h
  · split at h
    · rename_i hp
      split at h
      · rename_i eo ea eb
        cases h
        have := copC_ok eo
        subst this
        exact ⟨e_cmp k.c0 hp (hf _ _ ea).pe (hf _ _ eb).pe, fun _ => t_cmp k.c0 hp (hf _ _ ea).pe (hf _ _ eb).pe⟩
      · cases h
    · cases h
  · split at h
    · rename_i hp
      split at h
      · rename_i eo eo2 ea eb ec
        cases h
        have := copC_ok eo
        subst this
        have := copC_ok eo2
        subst this
        exact ⟨e_chain k.c0 hp (hf _ _ ea).pe (hf _ _ eb).pe (hf _ _ ec).pe, fun _ => t_chain k.c0 hp (hf _ _ ea).pe (hf _ _ eb).pe (hf _ _ ec).pe⟩
      · cases h
    · cases h
  · cases h
theorem foldB_ok {op : BoolOp} {pos : Pos} (hf : ∀ e c, f e = some c → Both X C e c) : ∀ {es : List Expr} {cs : List CE} {c : CE}, es.all okT = true → mapO f es = some cs → foldB op cs = some c → PE X (.BoolOp op es pos) (TE' X C c) ∧ PW X (.BoolOp op es pos) (TT' X C c)
  | [], cs, c, _, h, h2 => by
    simp only [mapO, Option.some.injEq] at h
    subst h
    simp [foldB] at h2
  | [e], cs, c, ho, h, h2 => by
    simp only [mapO] at h
    split at h
    · cases h
    · rename_i y ey
      cases h
      simp only [foldB, Option.some.injEq] at h2
      subst h2
      have b := hf _ _ ey
      have ho' : okT e = true := by simpa using ho
      refine ⟨pe_one b.pe, ?_⟩
      cases op with
      | And => exact pw_and1 (b.pt ho')
      | Or => exact pw_or1 (b.pt ho')
  | e :: e2 :: es, cs, c, ho, h, h2 => by
    rw [List.all_cons, Bool.and_eq_true] at ho
    have h0 : ∃ y ys, f e = some y ∧ mapO f (e2 :: es) = some ys ∧ cs = y :: ys := by
      rw [mapO] at h
      split at h
      · cases h
      · rename_i y ey
        split at h
        · cases h
        · rename_i ys eys
          cases h
          exact ⟨y, ys, ey, eys, rfl⟩
    obtain ⟨y, ys, ey, eys, rfl⟩ := h0
    have b := hf _ _ ey
    cases ys with
    | nil =>
      have := (mapO_at eys).1
      simp at this
    | cons z zs =>
      simp only [foldB] at h2
      split at h2
      · rename_i t et
        cases h2
        obtain ⟨i1, i2⟩ := foldB_ok (pos := pos) hf ho.2 eys et
        cases op with
        | And => exact ⟨e_and b.pe i1, w_and (b.pt ho.1) i2⟩
        | Or => exact ⟨e_or b.pe i1, w_or (b.pt ho.1) i2⟩
      · cases h2
theorem cIt_ok {tg e : Expr} (k : CtxS X S C) (hf : ∀ e c, f e = some c → Both X C e c) (h : cIt S f e = some c) : PI X tg e (tIt X.K X.prog X.w C c) := by
  unfold cIt at h
  split at h
  · rename_i x p b q
    split at h
    · rename_i hx
      rw [Bool.and_eq_true] at hx
      split at h
      · rename_i hp
        obtain ⟨c1, e1, e2⟩ := Option.map_eq_some_iff.mp h
        subst e2
        have := eq_of_beq hx.1
        subst this
        obtain ⟨g1, g2⟩ := k.free hx.2
        exact pi_rng1 g1 g2 (hf _ _ e1).pe (star_of hp _ _)
      · cases h
    · split at h
      · rename_i hx
        rw [Bool.and_eq_true] at hx
        split at h
        · rename_i hp
          obtain ⟨c1, e1, e2⟩ := Option.map_eq_some_iff.mp h
          subst e2
          have := eq_of_beq hx.1
          subst this
          obtain ⟨g1, g2⟩ := k.free hx.2
          exact pi_rvd g1 g2 (hf _ _ e1).pe (star_of hp _ _)
        · cases h
      · exact pi_val (hf _ _ h).pe
  · rename_i x p a b q
    split at h
    · rename_i hx
      rw [Bool.and_eq_true] at hx
      split at h
      · rename_i hp
        rw [Bool.and_eq_true] at hp
        split at h
        · rename_i c1 c2 e1 e2
          cases h
          have := eq_of_beq hx.1
          subst this
          obtain ⟨g1, g2⟩ := k.free hx.2
          exact pi_rng2 g1 g2 (hf _ _ e1).pe (hf _ _ e2).pe (star_of hp.1 _ _) (star_of hp.2 _ _)
        · cases h
      · cases h
    · exact pi_val (hf _ _ h).pe
  · exact pi_val (hf _ _ h).pe
/-- what a comprehension's parts are -/
structure CompOk (X : Cx) (S : Sc) (C : Orc) (elt : Expr) (gs : List Comprehension) (scope : Scope) (c : CE) : Prop where
  ex : ∃ tg it ifs t own x i, gs = [⟨tg, it, ifs, 0⟩] ∧ plainE it = true ∧ blkOkB S scope own = true ∧ BlkE X C tg t scope own ∧ PI X tg it (tIt X.K X.prog X.w C i) ∧ InBlk X C scope elt x ∧
    ((ifs = [] ∧ c = .lcomp t x i) ∨ (∃ ce cc, ifs = [ce] ∧ InBlkT X C scope ce cc ∧ c = .lcompIf t x i cc))
theorem cComp_ok {g : Sc → Expr → Option CE} {elt : Expr} {gs : List Comprehension} {scope : Scope} (k : CtxS X S C) (hg : ∀ X S, CtxS X S C → ∀ e c, g S e = some c → Both X C e c) (h : cComp S g elt gs scope = some c) : CompOk X S C elt gs scope c := by
  unfold cComp at h
  split at h
  · rename_i tg it ifs
    split at h
    · rename_i t own ht
      split at h
      · rename_i hb
        rw [Bool.and_eq_true] at hb
        have inb : ∀ e c, g (S.blk scope) e = some c → InBlk X C scope e c ∧ (okT e = true → InBlkT X C scope e c) := fun e c ee =>
          ⟨fun s H Cc cl fp => (hg _ _ (k.blk hb.2 s H Cc cl fp) _ _ ee).pe, fun ok s H Cc cl fp => (hg _ _ (k.blk hb.2 s H Cc cl fp) _ _ ee).pt ok⟩
        split at h
        · rename_i i x ei ex
          have base := cIt_ok (tg := tg) k (hg _ _ k) ei
          split at h
          · cases h
            exact ⟨tg, it, [], t, own, x, i, rfl, hb.1, hb.2, k.blkE hb.2 ht, base, (inb _ _ ex).1, .inl ⟨rfl, rfl⟩⟩
          · rename_i ce
            split at h
            · rename_i ho
              obtain ⟨cc, e1, e2⟩ := Option.map_eq_some_iff.mp h
              subst e2
              exact ⟨tg, it, [ce], t, own, x, i, rfl, hb.1, hb.2, k.blkE hb.2 ht, base, (inb _ _ ex).1, .inr ⟨ce, cc, rfl, (inb _ _ e1).2 ho, rfl⟩⟩
            · cases h
          · cases h
        · cases h
      · cases h
    · cases h
  · cases h
theorem CompOk.pe {elt : Expr} {gs : List Comprehension} {scope : Scope} {pos : Pos} (k : CtxS X S C) (h : CompOk X S C elt gs scope c) : PE X (.ListComp elt gs scope pos) (TE' X C c) := by
  obtain ⟨tg, it, ifs, t, own, x, i, rfl, hp, hb, be, pi, ib, h⟩ := h.ex
  rcases h with ⟨rfl, rfl⟩ | ⟨ce, cc, rfl, it', rfl⟩
  · exact e_lcomp k.c0 k.nd hp be pi ib
  · exact e_lcompIf k.c0 k.nd hp be pi ib it'
end
theorem cE_ok {C : Orc} : ∀ (n : Nat) (X : Cx) (S : Sc), CtxS X S C → ∀ (e : Expr) (c : CE), cE n S e = some c → Both X C e c
  | 0, X, S, _, e, c, h => by simp [cE] at h
  | n + 1, X, S, k, e, c, h => by
    have hf : ∀ e c, cE n S e = some c → Both X C e c := cE_ok n X S k
    unfold cE at h
    split at h
    · exact cName_ok k h
    · cases h; exact ⟨e_int, fun z => by simp [okT] at z⟩
    · cases h; exact ⟨e_bl, fun z => by simp [okT] at z⟩
    · cases h; exact ⟨e_non, fun z => by simp [okT] at z⟩
    · cases h; exact ⟨e_str, fun z => by simp [okT] at z⟩
    · split at h
      · rename_i hc
        obtain ⟨cs, e1, e2⟩ := Option.map_eq_some_iff.mp h
        subst e2
        obtain ⟨p1, p2⟩ := pa_all hf hc.2 e1
        exact ⟨e_lst p1 (by rw [p2]; exact hc.1) p2.symm, fun z => by simp [okT] at z⟩
      · cases h
    · split at h
      · rename_i hc
        obtain ⟨cs, e1, e2⟩ := Option.map_eq_some_iff.mp h
        subst e2
        obtain ⟨p1, p2⟩ := pa_all hf hc.2 e1
        exact ⟨e_tup p1 (by rw [p2]; exact hc.1), fun z => by simp [okT] at z⟩
      · cases h
    · cases h; exact ⟨e_dict0, fun z => by simp [okT] at z⟩
    · split at h
      · rename_i eo ea eb
        cases h
        have := bopC_ok eo
        subst this
        exact ⟨e_bin (hf _ _ ea).pe (hf _ _ eb).pe, fun z => by simp [okT] at z⟩
      · cases h
    · obtain ⟨c1, e1, e2⟩ := Option.map_eq_some_iff.mp h
      subst e2
      exact ⟨e_neg (hf _ _ e1).pe, fun z => by simp [okT] at z⟩
    · obtain ⟨c1, e1, e2⟩ := Option.map_eq_some_iff.mp h
      subst e2
      exact ⟨e_not (hf _ _ e1).pe, fun z => t_not ((hf _ _ e1).pt (by simpa [okT] using z))⟩
    · exact cCmp_ok k hf h
    · split at h
      · rename_i ho
        obtain ⟨cs, e1, e2⟩ := Option.bind_eq_some_iff.mp h
        obtain ⟨q1, q2⟩ := foldB_ok hf ho e1 e2
        exact ⟨q1, fun _ => q2.pt⟩
      · cases h
    · exact cSub_ok k hf h
    · exact cCall_ok k hf h
    · exact cMeth_ok k hf h
    · exact ⟨(cComp_ok k (fun X S k => cE_ok n X S k) h).pe k, fun z => by simp [okT] at z⟩
    · cases h
end Wc
/- part WcS1 -/
namespace Wc
open PySem PySem.Spec PyProof.Rows L2
/-! ### an expression looks at its own slots alone -/
structure Agr (vs : List Nat) (r r' : Env) : Prop where
  len : r.length = r'.length
  at_ : ∀ i ∈ vs, getv r i = getv r' i
theorem Agr.mono {vs ws : List Nat} {r r' : Env} (a : Agr vs r r') (h : ∀ i ∈ ws, i ∈ vs) : Agr ws r r' := ⟨a.len, fun i hi => a.at_ i (h i hi)⟩
theorem Agr.set {vs : List Nat} {r r' : Env} (a : Agr vs r r') (i : Nat) (x : Option Slot) : Agr vs (r.set i x) (r'.set i x) := by
  refine ⟨by simp [a.len], fun j hj => ?_⟩
  rw [getv_set, getv_set, a.len, a.at_ j hj]
theorem Agr.wipe {vs : List Nat} {r r' : Env} (a : Agr vs r r') : ∀ is : List Nat, Agr vs (wipeE r is) (wipeE r' is)
  | [] => a
  | i :: is => (Agr.wipe a is).set i none
theorem Agr.setMany {vs : List Nat} {m : Nat} : ∀ {is : List Nat} {ds : List D} {r r' : Env}, Agr vs r r' → (setMany m is ds r = none ∧ setMany m is ds r' = none) ∨ ∃ a b, setMany m is ds r = some a ∧ setMany m is ds r' = some b ∧ Agr vs a b
  | [], [], _, _, a => .inr ⟨_, _, rfl, rfl, a⟩
  | i :: is, d :: ds, _, _, a => by
    simp only [Wc.setMany]
    exact Agr.setMany (a.set i _)
  | [], _ :: _, _, _, _ => .inl ⟨rfl, rfl⟩
  | _ :: _, [], _, _, _ => .inl ⟨rfl, rfl⟩
theorem Agr.setTg {vs : List Nat} {m : Nat} {tg : Tg} {d : D} {r r' : Env} (a : Agr vs r r') : (setTg m tg d r = none ∧ setTg m tg d r' = none) ∨ ∃ x y, setTg m tg d r = some x ∧ setTg m tg d r' = some y ∧ Agr vs x y := by
  cases tg with
  | one i => exact .inr ⟨_, _, rfl, rfl, a.set i _⟩
  | many is =>
    cases d with
    | tuple ds => simp only [Wc.setTg]; exact a.setMany
    | _ => exact .inl ⟨rfl, rfl⟩
theorem mapO_congr {α β : Type} {f g : α → Option β} : ∀ (xs : List α), (∀ d, f d = g d) → mapO f xs = mapO g xs := fun xs h => by rw [funext h]
theorem mapO_in {α β : Type} {a b : Option α} {F : Option α → β} (h : a = b) : F a = F b := by rw [h]
section
variable {C : Orc}
mutual
theorem ev_agr : ∀ (e : CE) {r r' : Env}, Agr (vars e) r r' → evE C r e = evE C r' e
  | .var i, r, r', a => by simp only [evE]; rw [a.at_ i (by simp [vars])]
  | .lit d, r, r', a => rfl
  | .lst es, r, r', a => by simp only [evE]; rw [evs_agr es a]
  | .tup es, r, r', a => by simp only [evE]; rw [evs_agr es a]
  | .dict0 k, r, r', a => rfl
  | .bin o x y, r, r', a => by
    simp only [evE]; rw [ev_agr x (a.mono fun i h => by simp [vars, h]), ev_agr y (a.mono fun i h => by simp [vars, h])]
  | .neg x, r, r', a => by simp only [evE]; rw [ev_agr x a]
  | .not x, r, r', a => by simp only [evE]; rw [ev_agr x a]
  | .cmp o x y, r, r', a => by
    simp only [evE]; rw [ev_agr x (a.mono fun i h => by simp [vars, h]), ev_agr y (a.mono fun i h => by simp [vars, h])]
  | .isn k x, r, r', a => by simp only [evE]; rw [ev_agr x a]
  | .chain p q x y z, r, r', a => by
    simp only [evE]; rw [ev_agr x (a.mono fun i h => by simp [vars, h]), ev_agr y (a.mono fun i h => by simp [vars, h]), ev_agr z (a.mono fun i h => by simp [vars, h])]
  | .and x y, r, r', a => by
    simp only [evE]; rw [ev_agr x (a.mono fun i h => by simp [vars, h]), ev_agr y (a.mono fun i h => by simp [vars, h])]
  | .or x y, r, r', a => by
    simp only [evE]; rw [ev_agr x (a.mono fun i h => by simp [vars, h]), ev_agr y (a.mono fun i h => by simp [vars, h])]
  | .idx x y, r, r', a => by
    simp only [evE]; rw [ev_agr x (a.mono fun i h => by simp [vars, h]), ev_agr y (a.mono fun i h => by simp [vars, h])]
  | .slc f g x y z, r, r', a => by
    simp only [evE]; rw [ev_agr x (a.mono fun i h => by simp [vars, h]), ev_agr y (a.mono fun i h => by simp [vars, h]), ev_agr z (a.mono fun i h => by simp [vars, h])]
  | .rev x, r, r', a => by simp only [evE]; rw [ev_agr x a]
  | .call f es, r, r', a => by simp only [evE]; rw [evs_agr es a]
  | .blt f es, r, r', a => by simp only [evE]; rw [evs_agr es a]
  | .get1 x y, r, r', a => by
    simp only [evE]; rw [ev_agr x (a.mono fun i h => by simp [vars, h]), ev_agr y (a.mono fun i h => by simp [vars, h])]
  | .get2 x y z, r, r', a => by
    simp only [evE]; rw [ev_agr x (a.mono fun i h => by simp [vars, h]), ev_agr y (a.mono fun i h => by simp [vars, h]), ev_agr z (a.mono fun i h => by simp [vars, h])]
  | .index x y, r, r', a => by
    simp only [evE]; rw [ev_agr x (a.mono fun i h => by simp [vars, h]), ev_agr y (a.mono fun i h => by simp [vars, h])]
  | .isi x t, r, r', a => by simp only [evE]; rw [ev_agr x a]
  | .rng x y, r, r', a => by
    simp only [evE]; rw [ev_agr x (a.mono fun i h => by simp [vars, h]), ev_agr y (a.mono fun i h => by simp [vars, h])]
  | .lrng x y, r, r', a => by
    simp only [evE]; rw [ev_agr x (a.mono fun i h => by simp [vars, h]), ev_agr y (a.mono fun i h => by simp [vars, h])]
  | .rvd x, r, r', a => by simp only [evE]; rw [ev_agr x a]
  | .kys x, r, r', a => by simp only [evE]; rw [ev_agr x a]
  | .lcomp tg x i, r, r', a => by
    simp only [evE]; rw [ev_agr i (a.mono fun j h => by simp [vars, h])]
    have : ∀ d, (match setTg 0 tg d (wipeE r (tgs tg)) with | some r' => (evE C r' x).map (fun (p : D × Nat) => p.1) | none => none) = (match setTg 0 tg d (wipeE r' (tgs tg)) with | some r' => (evE C r' x).map (fun (p : D × Nat) => p.1) | none => none) := fun d => by
      rcases (a.wipe (tgs tg)).setTg (m := 0) (tg := tg) (d := d) with ⟨h1, h2⟩ | ⟨u, v, h1, h2, h3⟩
      · rw [h1, h2]
      · rw [h1, h2]; dsimp only; rw [ev_agr x (h3.mono fun j h => by simp [vars, h])]
    cases evE C r' i with
    | none => rfl
    | some p =>
      obtain ⟨x0, m0⟩ := p
      dsimp only
      cases itemsOf x0 with
      | none => rfl
      | some xs =>
        dsimp only
        exact mapO_in (F := fun o => match o with | some l => if l.length ≤ line then some (PyData.list l, 1) else none | none => none) (mapO_congr xs fun d => this d)
  | .lcompIf tg x i c, r, r', a => by
    simp only [evE]; rw [ev_agr i (a.mono fun j h => by simp [vars, h])]
    have : ∀ d, (match setTg 0 tg d (wipeE r (tgs tg)) with
          | some r' => match evE C r' c with
            | some (.bool true, _) => (evE C r' x).map fun (p : D × Nat) => [p.1]
            | some (.bool false, _) => some []
            | _ => none
          | none => none) = (match setTg 0 tg d (wipeE r' (tgs tg)) with
          | some r' => match evE C r' c with
            | some (.bool true, _) => (evE C r' x).map fun (p : D × Nat) => [p.1]
            | some (.bool false, _) => some []
            | _ => none
          | none => none) := fun d => by
      rcases (a.wipe (tgs tg)).setTg (m := 0) (tg := tg) (d := d) with ⟨h1, h2⟩ | ⟨u, v, h1, h2, h3⟩
      · rw [h1, h2]
      · rw [h1, h2]; dsimp only; rw [ev_agr x (h3.mono fun j h => by simp [vars, h]), ev_agr c (h3.mono fun j h => by simp [vars, h])]
    cases evE C r' i with
    | none => rfl
    | some p =>
      obtain ⟨x0, m0⟩ := p
      dsimp only
      cases itemsOf x0 with
      | none => rfl
      | some xs =>
        dsimp only
        exact mapO_in (F := fun (o : Option (List (List D))) => match o with | some l => if l.flatten.length ≤ line then some (PyData.list l.flatten, 1) else none | none => none) (mapO_congr xs fun d => this d)
  | .scomp tg x i, r, r', a => by
    simp only [evE]; rw [ev_agr i (a.mono fun j h => by simp [vars, h])]
    have : ∀ d, (match setTg 0 tg d (wipeE r (tgs tg)) with | some r' => (evE C r' x).map (fun (p : D × Nat) => p.1) | none => none) = (match setTg 0 tg d (wipeE r' (tgs tg)) with | some r' => (evE C r' x).map (fun (p : D × Nat) => p.1) | none => none) := fun d => by
      rcases (a.wipe (tgs tg)).setTg (m := 0) (tg := tg) (d := d) with ⟨h1, h2⟩ | ⟨u, v, h1, h2, h3⟩
      · rw [h1, h2]
      · rw [h1, h2]; dsimp only; rw [ev_agr x (h3.mono fun j h => by simp [vars, h])]
    cases evE C r' i with
    | none => rfl
    | some p =>
      obtain ⟨x0, m0⟩ := p
      dsimp only
      cases itemsOf x0 with
      | none => rfl
      | some xs =>
        dsimp only
        exact mapO_in (F := fun o => match o with | some l => (setv l).map fun d => (d, 0) | none => none) (mapO_congr xs fun d => this d)
  | .dcomp tg k x i, r, r', a => by
    simp only [evE]; rw [ev_agr i (a.mono fun j h => by simp [vars, h])]
    have : ∀ d, (match setTg 0 tg d (wipeE r (tgs tg)) with
          | some r' => match evE C r' k with
            | some (y, _) => match evE C r' x with
              | some (z, _) => if isK y then some (y, z) else none
              | none => none
            | none => none
          | none => none) = (match setTg 0 tg d (wipeE r' (tgs tg)) with
          | some r' => match evE C r' k with
            | some (y, _) => match evE C r' x with
              | some (z, _) => if isK y then some (y, z) else none
              | none => none
            | none => none
          | none => none) := fun d => by
      rcases (a.wipe (tgs tg)).setTg (m := 0) (tg := tg) (d := d) with ⟨h1, h2⟩ | ⟨u, v, h1, h2, h3⟩
      · rw [h1, h2]
      · rw [h1, h2]; dsimp only; rw [ev_agr k (h3.mono fun j h => by simp [vars, h]), ev_agr x (h3.mono fun j h => by simp [vars, h])]
    cases evE C r' i with
    | none => rfl
    | some p =>
      obtain ⟨x0, m0⟩ := p
      dsimp only
      cases itemsOf x0 with
      | none => rfl
      | some xs =>
        dsimp only
        exact mapO_in (F := fun o => match o with | some l => if l.length ≤ line then some (PyData.dict (dictOf [] l), 1) else none | none => none) (mapO_congr xs fun d => this d)
theorem evs_agr : ∀ (es : List CE) {r r' : Env}, Agr (varsL es) r r' → evEs C r es = evEs C r' es
  | [], r, r', a => rfl
  | e :: es, r, r', a => by
    simp only [evEs]
    rw [ev_agr e (a.mono fun i h => by simp [varsL, h]), evs_agr es (a.mono fun i h => by simp [varsL, h])]
end
end
/-! ### some slots of an environment -/
def only (vs : List Nat) (r : Env) : Env := (List.range r.length).map fun i => if i ∈ vs then (r[i]?).join else none
theorem getv_join (r : Env) (i : Nat) : getv r i = ((r[i]?).join).map (fun (p : Slot) => p.2) := by
  unfold getv
  cases r[i]? with
  | none => rfl
  | some x => cases x with
    | none => rfl
    | some p => rfl
theorem getv_only {vs : List Nat} {r : Env} {i : Nat} : getv (only vs r) i = if i ∈ vs then getv r i else none := by
  rw [getv_join, getv_join]
  unfold only
  rw [List.getElem?_map]
  by_cases hi : i < r.length
  · rw [List.getElem?_range hi]
    dsimp only [Option.map, Option.join, Option.bind]
    by_cases hm : i ∈ vs
    · simp only [hm, if_true]; rfl
    · simp only [hm, if_false]; rfl
  · rw [List.getElem?_eq_none (by simpa using hi), List.getElem?_eq_none (by omega)]
    dsimp only [Option.map, Option.join, Option.bind]
    split <;> rfl
theorem only_agr (vs : List Nat) (r : Env) : Agr vs (only vs r) r := ⟨by simp [only], fun i hi => by rw [getv_only, if_pos hi]⟩
theorem getv_of {r : Env} {i : Nat} {d : D} (h : getv r i = some d) : ∃ m, r[i]? = some (some (m, d)) := by
  unfold getv at h
  split at h
  · rename_i m d' e; cases h; exact ⟨m, e⟩
  · cases h
theorem getv_at {r : Env} {i m : Nat} {d : D} (h : r[i]? = some (some (m, d))) : getv r i = some d := by unfold getv; rw [h]
end Wc
/- part WcS2 -/
namespace Wc
open PySem PySem.Spec PyProof.Rows L2
/-! ### frozen slots -/
theorem frzI_idem (x : Option Slot) : frzI (frzI x) = frzI x := by
  cases x with
  | none => rfl
  | some p => rfl
theorem frz_at : ∀ (vs : List Nat) (r : Env) (i : Nat), (frz vs r)[i]? = if i ∈ vs then (r[i]?).map frzI else r[i]?
  | [], r, i => by simp [frz]
  | v :: vs, r, i => by
    have ih := frz_at vs (match r[v]? with | some x => r.set v (frzI x) | none => r) i
    show (frz vs (match r[v]? with | some x => r.set v (frzI x) | none => r))[i]? = _
    rw [ih]
    cases hv : r[v]? with
    | none =>
      dsimp only
      by_cases h1 : i = v
      · subst h1; simp [hv]
      · simp [h1]
    | some x =>
      dsimp only
      have hl : v < r.length := (List.getElem?_eq_some_iff.mp hv).1
      by_cases h1 : i = v
      · subst h1
        rw [List.getElem?_set_self hl, hv]
        simp [frzI_idem]
      · rw [List.getElem?_set_ne (Ne.symm h1)]
        simp [h1]
theorem frz_len (vs : List Nat) : ∀ r : Env, (frz vs r).length = r.length := by
  induction vs with
  | nil => intro r; rfl
  | cons v vs ih =>
    intro r
    show (frz vs (match r[v]? with | some x => r.set v (frzI x) | none => r)).length = _
    rw [ih]
    split <;> simp
section
variable (K : PySem.W.Frag) (P : Program) (w : World)
/-- the frame of a def that runs: entered with Fe within He; each slot owns what is at fs -/
structure Frm (Fe He F H : Hp) (σ : L2.St) (r : Env) (fs : Nat → List Addr) : Prop where
  gr : Grow Fe He F H
  len : σ.length = r.length
  own : ∀ i m d, r[i]? = some (some (m, d)) → ∃ v, σ[i]? = some (some v) ∧ Own K P w F H m v d (fs i)
  dead : ∀ i, (∀ p, r[i]? ≠ some (some p)) → fs i = []
  nd : ∀ i, (fs i).Nodup
  dj : ∀ i j a, a ∈ fs i → a ∈ fs j → i = j
  out : ∀ i a, a ∈ fs i → He a = none
end
section
variable {K : PySem.W.Frag} {P : Program} {w : World} {Fe He F H : Hp} {σ : L2.St} {r : Env} {fs : Nat → List Addr} {C : Orc}
theorem Frm.at_ (fr : Frm K P w Fe He F H σ r fs) {i : Nat} {a : Addr} (h : a ∈ fs i) : F a = none ∧ ∃ o, H a = some o ∧ ownable o := by
  by_cases q : ∃ p, r[i]? = some (some p)
  · obtain ⟨⟨m, d⟩, hp⟩ := q
    obtain ⟨v, _, o⟩ := fr.own i m d hp
    exact o.at_ a h
  · rw [fr.dead i fun p hp => q ⟨p, hp⟩] at h
    cases h
theorem Frm.env (fr : Frm K P w Fe He F H σ r fs) (vs : List Nat) : EnvR K P w (addF F H (vs.flatMap fs)) σ (only vs r) := by
  refine ⟨by rw [fr.len]; simp [only], fun i d h => ?_⟩
  rw [getv_only] at h
  split at h
  · rename_i hm
    obtain ⟨m, e⟩ := getv_of h
    obtain ⟨v, h1, o⟩ := fr.own i m d e
    exact ⟨v, h1, o.rep (addF_sub fr.gr.into) fun a ha ob e => by rw [addF_in (List.mem_flatMap.mpr ⟨i, hm, ha⟩)]; exact e⟩
  · cases h
theorem ownable_tup {o : HO} (h : ownable o) (xs : List V) : o ≠ .tup xs := fun e => by subst e; exact h
/-- behind an expression that looked at the slots vs -/
theorem Frm.after (fr : Frm K P w Fe He F H σ r fs) (vs : List Nat) {F1 H' : Hp} (g : Grow (addF F H (vs.flatMap fs)) H F1 H') (b : Bool) :
    ∃ F2, Frm K P w Fe He F2 H' σ (if b = true then r else frz vs r) (if b = true then fs else fun i => if i ∈ vs then [] else fs i) ∧ Sub F F2 ∧ Sub F2 F1 ∧ (∀ a xs, F1 a = some (.tup xs) → F2 a = some (.tup xs)) ∧
      (∀ a o, F1 a = some o → H a = none → F2 a = some o) ∧ (b = false → F2 = F1) ∧ (b = true → ∀ a o, F a = none → H a = some o → ownable o → F2 a = none) := by
  have sF : Sub F F1 := (addF_sub fr.gr.into).trans g.sub
  have heN : ∀ {a : Addr}, H a = none → He a = none := fun h => fr.gr.same.nn h
  have heT : ∀ {a : Addr} {xs : List V}, H a = some (.tup xs) → He a = none ∨ ∃ ys, He a = some (.tup ys) := fun {a xs} h => by
    cases q : He a with
    | none => exact .inl rfl
    | some o => have := fr.gr.same a o q; rw [h] at this; cases this; exact .inr ⟨_, rfl⟩
  -- where F1 is new
  have new1 : ∀ a, F1 a ≠ none → F a ≠ none ∨ (∃ i ∈ vs, a ∈ fs i) ∨ H a = none ∨ ∃ xs, H a = some (.tup xs) := fun a h => by
    rcases g.new a h with z | z | z
    · by_cases q : a ∈ vs.flatMap fs
      · obtain ⟨i, hi, ha⟩ := List.mem_flatMap.mp q
        exact .inr (.inl ⟨i, hi, ha⟩)
      · rw [addF_out q] at z; exact .inl z
    · exact .inr (.inr (.inl z))
    · exact .inr (.inr (.inr z))
  cases b with
  | true =>
    refine ⟨fun a => match F a with | some o => some o | none => match F1 a with | some (.tup xs) => some (.tup xs) | some o => (match H a with | none => some o | some _ => none) | none => none, ?_⟩
    generalize hF2 : (fun a => match F a with | some o => some o | none => match F1 a with | some (.tup xs) => some (.tup xs) | some o => (match H a with | none => some o | some _ => none) | none => none : Hp) = F2
    have k0 : ∀ a, F2 a = (match F a with | some o => some o | none => match F1 a with | some (.tup xs) => some (.tup xs) | some o => (match H a with | none => some o | some _ => none) | none => none) := fun a => by rw [← hF2]
    have s2 : Sub F F2 := fun a o e => by rw [k0, e]
    have s21 : Sub F2 F1 := fun a o e => by
      rw [k0] at e
      split at e
      · rename_i o' h; cases e; exact sF _ _ h
      · split at e
        · rename_i h; cases e; exact h
        · rename_i o' h1 h2
          split at e
          · cases e; exact h2
          · cases e
        · cases e
    have kT : ∀ a xs, F1 a = some (.tup xs) → F2 a = some (.tup xs) := fun a xs e => by
      rw [k0]
      cases q : F a with
      | none => simp [e]
      | some o => have := sF a o q; rw [e] at this; cases this; rfl
    have kN : ∀ a o, F1 a = some o → H a = none → F2 a = some o := fun a o e h => by
      rw [k0, fr.gr.into.nn h]
      cases o <;> simp [e, h]
    have nO : ∀ {a o}, F a = none → H a = some o → ownable o → F2 a = none := fun {a o} h1 h2 h3 => by
      cases q : F2 a with
      | none => rfl
      | some u =>
        exfalso
        have z := q
        have z1 := s21 _ _ q
        have hu := g.into _ _ z1
        rw [g.same _ _ h2] at hu
        cases hu
        rw [k0, h1, z1, h2] at z
        cases o <;> first | exact (h3 : False).elim | cases z
    refine ⟨⟨⟨fr.gr.sub.trans s2, fr.gr.same.trans g.same, s21.trans g.into, fun a h => ?_⟩, by simpa using fr.len, fun i m d h => ?_, fun i h => ?_, fun i => ?_, fun i j a => ?_, fun i a => ?_⟩, s2, s21, kT, kN, (fun z => by cases z), fun _ a o h1 h2 h3 => nO h1 h2 h3⟩
    · cases q : F a with
      | some o => exact fr.gr.new a (by rw [q]; simp)
      | none =>
        have hz : F2 a ≠ none := h
        rw [k0, q] at h
        cases z : F1 a with
        | none => rw [z] at h; simp at h
        | some o =>
          by_cases hH : H a = none
          · exact .inr (.inl (heN hH))
          · have : ∃ xs, H a = some (.tup xs) := by
              rcases new1 a (by rw [z]; simp) with y | ⟨i, hi, ha⟩ | y | y
              · exact absurd q y
              · obtain ⟨_, u, hu, ou⟩ := fr.at_ ha
                exact absurd (nO q hu ou) hz
              · exact absurd y hH
              · exact y
            obtain ⟨xs, hx⟩ := this
            rcases heT hx with y | y
            · exact .inr (.inl y)
            · exact .inr (.inr y)
    · obtain ⟨v, h1, o⟩ := fr.own i m d (by simpa using h)
      exact ⟨v, h1, o.mono s2 fun a ha => by
        obtain ⟨z1, u, z2, z3⟩ := fr.at_ ha
        exact ⟨nO z1 z2 z3, fun o e => g.same a o e⟩⟩
    · exact fr.dead i (by simpa using h)
    · simpa using fr.nd i
    · simpa using fr.dj i j a
    · simpa using fr.out i a
  | false =>
    refine ⟨F1, ?_, sF, Sub.refl _, fun a xs e => e, fun a o e _ => e, fun _ => rfl, (fun z => by cases z)⟩
    have e0 := (fr.env vs).mono g.sub
    have off : ∀ {i a}, i ∉ vs → a ∈ fs i → F1 a = none ∧ ∀ o, H a = some o → H' a = some o := fun {i a} hi ha => by
      obtain ⟨z1, u, z2, z3⟩ := fr.at_ ha
      refine g.stays (addF_none (fun q => ?_) z1) z2 z3
      obtain ⟨j, hj, ha2⟩ := List.mem_flatMap.mp q
      exact hi (fr.dj i j a ha ha2 ▸ hj)
    refine ⟨⟨fr.gr.sub.trans sF, fr.gr.same.trans g.same, g.into, fun a h => ?_⟩, by simpa [frz_len] using fr.len, fun i m d h => ?_, fun i h => ?_, fun i => ?_, fun i j a => ?_, fun i a => ?_⟩
    · rcases new1 a h with y | ⟨i, hi, ha⟩ | y | ⟨xs, y⟩
      · exact fr.gr.new a y
      · exact .inr (.inl (fr.out i a ha))
      · exact .inr (.inl (heN y))
      · rcases heT y with y | y
        · exact .inr (.inl y)
        · exact .inr (.inr y)
    · simp only [Bool.false_eq_true, if_false] at h ⊢
      rw [frz_at] at h
      by_cases hi : i ∈ vs
      · rw [if_pos hi] at h
        obtain ⟨x, hx, e⟩ := Option.map_eq_some_iff.mp h
        cases x with
        | none => cases e
        | some p =>
          obtain ⟨m', d'⟩ := p
          cases e
          obtain ⟨v, h1, h2⟩ := e0.get i d (by rw [getv_only, if_pos hi]; exact getv_at hx)
          exact ⟨v, h1, by rw [if_pos hi]; exact .sh h2 (.inl rfl)⟩
      · rw [if_neg hi] at h
        obtain ⟨v, h1, o⟩ := fr.own i m d h
        exact ⟨v, h1, by rw [if_neg hi]; exact o.mono sF fun a ha => off hi ha⟩
    · simp only [Bool.false_eq_true, if_false] at h ⊢
      by_cases hi : i ∈ vs
      · rw [if_pos hi]
      · rw [if_neg hi]
        refine fr.dead i fun p hp => h p ?_
        rw [frz_at, if_neg hi]; exact hp
    · simp only [Bool.false_eq_true, if_false]
      split
      · exact List.nodup_nil
      · exact fr.nd i
    · simp only [Bool.false_eq_true, if_false]
      intro h1 h2
      split at h1
      · cases h1
      · split at h2
        · cases h2
        · exact fr.dj i j a h1 h2
    · simp only [Bool.false_eq_true, if_false]
      intro h
      split at h
      · cases h
      · exact fr.out i a h
theorem mask_sub {b : Bool} {vs : List Nat} {i : Nat} {a : Addr} (h : a ∈ (if b = true then fs else fun i => if i ∈ vs then [] else fs i) i) : a ∈ fs i := by
  cases b with
  | true => simpa using h
  | false =>
    simp only [Bool.false_eq_true, if_false] at h
    split at h
    · cases h
    · exact h
/-- an expression's value, to be kept -/
theorem Frm.eval (fr : Frm K P w Fe He F H σ r fs) {e : CE} {d : D} {m : Nat} (ev : evE C r e = some (d, m)) {Q : VK}
    (q : ∀ v H' F' fs' ft, Frm K P w Fe He F' H' σ (kept e d m r) fs' → Sub F F' → Own K P w F' H' m v d ft → ft.Nodup → (∀ a ∈ ft, He a = none ∧ ∀ i, a ∉ fs' i) → (∀ i a, a ∈ fs' i → a ∈ fs i) → Q v H') : tEv K P w C e σ H Q := by
  refine ⟨addF F H ((vars e).flatMap fs), only (vars e) r, d, m, addF_into fr.gr.into, fr.env _, by rw [ev_agr e (only_agr _ _)]; exact ev, fun v H' F1 ft g o hn nd => ?_⟩
  obtain ⟨F2, f2, s1, s2, k1, k2, k3, k4⟩ := fr.after (vars e) g (clean m d)
  refine q v H' F2 _ ft f2 s1 ?_ nd (fun a ha => ⟨fr.gr.same.nn (hn a ha), fun i hi => ?_⟩) fun i a h => mask_sub h
  · cases hc : clean m d with
    | true =>
      refine o.clean k1 (fun a h => ?_) hc
      cases q2 : F2 a with
      | none => rfl
      | some u => rw [s2 _ _ q2] at h; cases h
    | false => rw [k3 hc]; exact o
  · obtain ⟨_, u, h1, _⟩ := fr.at_ (mask_sub hi)
    rw [hn a ha] at h1; cases h1
/-- a test -/
theorem Frm.test (fr : Frm K P w Fe He F H σ r fs) {c : CE} {b : Bool} (ev : evT C r c = some b) {Q : Bool → Hp → Prop} (q : ∀ H' F', Frm K P w Fe He F' H' σ r fs → Sub F F' → Q b H') : tTs K P w C c σ H Q := by
  have e1 : ∃ m, evE C r c = some (.bool b, m) := by
    unfold evT at ev
    split at ev
    · cases ev; exact ⟨_, by assumption⟩
    · cases ev
  obtain ⟨m, e1⟩ := e1
  refine ⟨addF F H ((vars c).flatMap fs), only (vars c) r, b, m, addF_into fr.gr.into, fr.env _, by rw [ev_agr c (only_agr _ _)]; exact e1, fun H' F1 g => ?_⟩
  obtain ⟨F2, f2, s1, s2, k1, k2, k3, k4⟩ := fr.after (vars c) g true
  exact q H' F2 (by simpa using f2) s1
/-- a value that is looked at and let go -/
theorem Frm.drop (fr : Frm K P w Fe He F H σ r fs) {e : CE} {d : D} {m : Nat} (ev : evE C r e = some (d, m)) {Q : VK} (q : ∀ v H' F', Frm K P w Fe He F' H' σ r fs → Sub F F' → Sub H H' → (∀ a o, F a = none → H a = some o → ownable o → F' a = none) → (immut d = true → Rep K P w F' v d) → Q v H') : tEv K P w C e σ H Q := by
  refine ⟨addF F H ((vars e).flatMap fs), only (vars e) r, d, m, addF_into fr.gr.into, fr.env _, by rw [ev_agr e (only_agr _ _)]; exact ev, fun v H' F1 ft g o hn nd => ?_⟩
  obtain ⟨F2, f2, s1, s2, k1, k2, k3, k4⟩ := fr.after (vars e) g true
  refine q v H' F2 (by simpa using f2) s1 g.same (k4 rfl) fun hi => ?_
  have hr : Rep K P w (addF F1 H' ft) v d := o.rep (addF_sub g.into) fun a ha ob e => by rw [addF_in ha]; exact e
  refine hr.imm (fun a xs e => ?_) hi
  by_cases z : a ∈ ft
  · obtain ⟨_, u, hu, ou⟩ := o.at_ a z
    rw [addF_in z, hu] at e
    cases e
    exact ou.elim
  · rw [addF_out z] at e; exact k1 _ _ e
/-- a slot is set -/
theorem Frm.set (fr : Frm K P w Fe He F H σ r fs) (j : Nat) {m : Nat} {v : V} {d : D} {ft : List Addr} (o : Own K P w F H m v d ft) (nd : ft.Nodup) (hx : ∀ a ∈ ft, He a = none ∧ ∀ i, a ∉ fs i) :
    Frm K P w Fe He F H (σ.set j (some v)) (r.set j (some (m, d))) (fun i => if i = j then (if j < r.length then ft else []) else fs i) where
  gr := fr.gr
  len := by simp [fr.len]
  own := fun i m' d' h => by
    by_cases e : i = j
    · subst e
      by_cases hl : i < r.length
      · rw [List.getElem?_set_self hl] at h
        cases h
        exact ⟨v, List.getElem?_set_self (by rw [fr.len]; exact hl), by simpa [hl] using o⟩
      · rw [List.getElem?_eq_none (by simpa using hl)] at h; cases h
    · rw [List.getElem?_set_ne (Ne.symm e)] at h
      obtain ⟨u, h1, h2⟩ := fr.own i m' d' h
      exact ⟨u, by rw [List.getElem?_set_ne (Ne.symm e)]; exact h1, by simpa [e] using h2⟩
  dead := fun i h => by
    by_cases e : i = j
    · subst e
      by_cases hl : i < r.length
      · exact absurd (List.getElem?_set_self hl) (h _)
      · simp [hl]
    · simp only [e, if_false]
      refine fr.dead i fun p hp => h p ?_
      rw [List.getElem?_set_ne (Ne.symm e)]; exact hp
  nd := fun i => by
    split
    · split
      · exact nd
      · exact List.nodup_nil
    · exact fr.nd i
  dj := fun i k a h1 h2 => by
    split at h1
    · rename_i e1
      split at h1
      · split at h2
        · rename_i e2; rw [e1, e2]
        · exact absurd h2 ((hx a h1).2 k)
      · cases h1
    · split at h2
      · split at h2
        · exact absurd h1 ((hx a h2).2 i)
        · cases h2
      · exact fr.dj i k a h1 h2
  out := fun i a h => by
    split at h
    · split at h
      · exact (hx a h).1
      · cases h
    · exact fr.out i a h
end
end Wc
/- part WcS3 -/
namespace Wc
open PySem PySem.Spec PyProof.Rows L2
section
variable {K : PySem.W.Frag} {P : Program} {w : World} {Fe He F H : Hp} {σ : L2.St} {r : Env} {fs : Nat → List Addr} {C : Orc}
/-- an owned tuple's parts -/
theorem Own.parts {m : Nat} {v : V} {ds : List D} {ft : List Addr} (o : Own K P w F H m v (.tuple ds) ft) : ∃ a xs, v = .ref a ∧ F a = some (.tup xs) ∧ OwnAll K P w F H (m - 1) xs ds ft := by
  generalize hd : PyData.tuple ds = dd at o
  cases o with
  | sh h e =>
    subst hd
    obtain ⟨a, xs, rfl, h1, h2⟩ := h.tup_inv
    refine ⟨a, xs, rfl, h1, ?_⟩
    rcases e with e | e
    · subst e; exact h2.own0
    · have : ∀ {vs : List V} {es : List D}, RepAll K P w F vs es → immuts es = true → OwnAll K P w F H (m - 1) vs es [] := by
        intro vs es h
        induction es generalizing vs with
        | nil => intro _; cases h; exact .nil
        | cons e es ih =>
          intro hi
          simp only [immuts, Bool.and_eq_true] at hi
          cases h with
          | cons h1 h2 => exact .cons (f := []) (.sh h1 (.inr hi.1)) (ih h2 hi.2)
      exact this h2 (by simpa [immut] using e)
  | tup h1 r1 => cases hd; exact ⟨_, _, rfl, h1, r1⟩
  | lst _ _ _ => cases hd
  | dk _ _ _ _ => cases hd
  | dt _ _ _ _ => cases hd
theorem Frm.setAll : ∀ {is : List Nat} {vs : List V} {ds : List D} {m : Nat} {ft : List Addr} {σ : L2.St} {r r' : Env} {fs : Nat → List Addr}, Frm K P w Fe He F H σ r fs → OwnAll K P w F H m vs ds ft → ft.Nodup → (∀ a ∈ ft, He a = none ∧ ∀ i, a ∉ fs i) → setMany m is ds r = some r' →
    is.length = vs.length ∧ ∃ fs', Frm K P w Fe He F H (setVs is vs σ) r' fs'
  | [], _, _, _, _, _, _, _, _, fr, .nil, _, _, h => by
    simp only [setMany, Option.some.injEq] at h
    subst h
    exact ⟨rfl, _, fr⟩
  | i :: is, _, _, _, _, _, _, _, fs, fr, .cons (f := f) (g := g) ho hr, nd, hx, h => by
    simp only [setMany] at h
    obtain ⟨n1, n2, n3⟩ := List.nodup_append.mp nd
    have fr2 := fr.set i ho n1 fun a ha => hx a (List.mem_append_left _ ha)
    obtain ⟨h1, fs', h2⟩ := Frm.setAll fr2 hr n2 (fun a ha => ⟨(hx a (List.mem_append_right _ ha)).1, fun j hj => by
      split at hj
      · split at hj
        · exact n3 a hj a ha rfl
        · cases hj
      · exact (hx a (List.mem_append_right _ ha)).2 j hj⟩) h
    exact ⟨by simp [h1], fs', h2⟩
  | [], _, _, _, _, _, _, _, _, _, .cons _ _, _, _, h => by simp [setMany] at h
  | _ :: _, _, _, _, _, _, _, _, _, _, .nil, _, _, h => by simp [setMany] at h
/-- a target is set -/
theorem Frm.tg (fr : Frm K P w Fe He F H σ r fs) {tg : Tg} {m : Nat} {v : V} {d : D} {ft : List Addr} {r' : Env} (o : Own K P w F H m v d ft) (nd : ft.Nodup) (hx : ∀ a ∈ ft, He a = none ∧ ∀ i, a ∉ fs i) (ht : setTg m tg d r = some r') {Q : L2.St → Hp → Prop}
    (q : ∀ σ' fs', Frm K P w Fe He F H σ' r' fs' → Q σ' H) : gTg K tg v σ H Q := by
  cases tg with
  | one i =>
    simp only [setTg, Option.some.injEq] at ht
    subst ht
    exact q _ _ (fr.set i o nd hx)
  | many is =>
    cases d with
    | tuple ds =>
      simp only [setTg] at ht
      obtain ⟨a, xs, rfl, h1, h2⟩ := o.parts
      obtain ⟨h3, fs', h4⟩ := fr.setAll h2 nd hx ht
      exact ⟨a, xs, rfl, .of (fr.gr.into _ _ h1), h3.symm, gNames_ok h3 (q _ _ h4)⟩
    | _ => simp [setTg] at ht
/-- several values, to be kept -/
theorem OwnEach.clean {F' : Hp} (hT : ∀ a xs, F a = some (.tup xs) → F' a = some (.tup xs)) (hN : ∀ a, F a = none → F' a = none) : ∀ {l : List (D × Nat)} {vs : List V} {ft : List Addr}, OwnEach K P w F H l vs ft → l.all (fun p => Wc.clean p.2 p.1) = true → OwnEach K P w F' H l vs ft
  | _, _, _, .nil, _ => .nil
  | _, _, _, .cons h r, c => by
    rw [List.all_cons, Bool.and_eq_true] at c
    exact .cons (h.clean hT hN c.1) (OwnEach.clean hT hN r c.2)
theorem Frm.evals (fr : Frm K P w Fe He F H σ r fs) {es : List CE} {l : List (D × Nat)} (ev : evEs C r es = some l) {Q : List V → Hp → Prop}
    (q : ∀ vs H' F' fs' ft, Frm K P w Fe He F' H' σ (keptL es l r) fs' → Sub F F' → OwnEach K P w F' H' l vs ft → ft.Nodup → (∀ a ∈ ft, He a = none ∧ ∀ i, a ∉ fs' i) → Q vs H') : tEvs K P w C es σ H Q := by
  refine ⟨addF F H ((varsL es).flatMap fs), only (varsL es) r, l, addF_into fr.gr.into, fr.env _, by rw [evs_agr es (only_agr _ _)]; exact ev, fun vs H' F1 ft g o hn nd => ?_⟩
  obtain ⟨F2, f2, s1, s2, k1, k2, k3, k4⟩ := fr.after (varsL es) g (l.all (fun p => Wc.clean p.2 p.1))
  refine q vs H' F2 _ ft f2 s1 ?_ nd (fun a ha => ⟨fr.gr.same.nn (hn a ha), fun i hi => ?_⟩)
  · cases hc : l.all (fun p => Wc.clean p.2 p.1) with
    | true =>
      refine o.clean k1 (fun a h => ?_) hc
      cases q2 : F2 a with
      | none => rfl
      | some u => rw [s2 _ _ q2] at h; cases h
    | false => rw [k3 hc]; exact o
  · obtain ⟨_, u, h1, _⟩ := fr.at_ (mask_sub hi)
    rw [hn a ha] at h1; cases h1
/-! ### a thing of one's own is changed -/
/-- the object at a, in slot i, is changed; what is at Z is frozen -/
theorem Frm.chg (fr : Frm K P w Fe He F H σ r fs) {i : Nat} {a : Addr} (ha : a ∈ fs i) {Z ft' ext : List Addr} {o' : HO} {v : V} {d' : D} {m' : Nat} (hv : σ[i]? = some (some v)) (hext : ∀ x ∈ ext, F x = none ∧ (∃ o, H x = some o ∧ ownable o) ∧ He x = none ∧ ∀ j, x ∉ fs j)
    (hsub : ∀ x ∈ Z ++ ft', x ∈ fs i ∨ x ∈ ext) (haZ : a ∉ Z) (nd : ft'.Nodup) (own : Own K P w (addF F H Z) (upd H a o') m' v d' ft') :
    Frm K P w Fe He (addF F H Z) (upd H a o') σ (r.set i (some (m', d'))) (fun j => if j = i then ft' else fs j) ∧ Sub F (addF F H Z) := by
  obtain ⟨na, oa, ea, wa⟩ := fr.at_ ha
  have inZ : ∀ x ∈ Z, F x = none ∧ He x = none ∧ (∃ o, H x = some o ∧ ownable o) ∧ ∀ j, j ≠ i → x ∉ fs j := fun x hx => by
    rcases hsub x (List.mem_append_left _ hx) with h | h
    · obtain ⟨z1, z2⟩ := fr.at_ h
      exact ⟨z1, fr.out i x h, z2, fun j hj hx2 => hj (fr.dj j i x hx2 h)⟩
    · obtain ⟨z1, z2, z3, z4⟩ := hext x h
      exact ⟨z1, z3, z2, fun j _ => z4 j⟩
  have sH : Sub F (upd H a o') := fun x o e => by rw [upd_ne (ne_of_none e na)]; exact fr.gr.into _ _ e
  have sZ : Sub (addF F H Z) (upd H a o') := fun x o e => by
    by_cases q : x ∈ Z
    · rw [addF_in q] at e
      rw [upd_ne (fun z : x = a => haZ (z ▸ q))]; exact e
    · rw [addF_out q] at e; exact sH _ _ e
  have sF : Sub F (addF F H Z) := addF_sub fr.gr.into
  refine ⟨⟨⟨fr.gr.sub.trans sF, fun x o e => ?_, sZ, fun x h => ?_⟩, by simp [fr.len], fun j m d h => ?_, fun j h => ?_, fun j => ?_, fun j k x => ?_, fun j x => ?_⟩, sF⟩
  · rw [upd_ne (fun z : x = a => by rw [z, fr.out i a ha] at e; cases e)]
    exact fr.gr.same _ _ e
  · by_cases q : x ∈ Z
    · exact .inr (.inl (inZ x q).2.1)
    · rw [addF_out q] at h; exact fr.gr.new x h
  · by_cases e : j = i
    · subst e
      by_cases hl : j < r.length
      · rw [List.getElem?_set_self hl] at h
        cases h
        exact ⟨v, hv, by simpa using own⟩
      · rw [List.getElem?_eq_none (by simpa using hl)] at h; cases h
    · rw [List.getElem?_set_ne (Ne.symm e)] at h
      obtain ⟨u, h1, h2⟩ := fr.own j m d h
      refine ⟨u, h1, ?_⟩
      simp only [e, if_false]
      refine h2.mono sF fun x hx => ⟨addF_none (fun q => (inZ x q).2.2.2 j e hx) (fr.at_ hx).1, fun o eo => ?_⟩
      rw [upd_ne (fun z : x = a => e (fr.dj j i x hx (z ▸ ha)))]; exact eo
  · by_cases e : j = i
    · subst e
      exfalso
      by_cases hl : j < r.length
      · exact h _ (List.getElem?_set_self hl)
      · have := fr.dead j fun p hp => by rw [List.getElem?_eq_none (by omega)] at hp; cases hp
        rw [this] at ha; cases ha
    · simp only [e, if_false]
      refine fr.dead j fun p hp => h p ?_
      rw [List.getElem?_set_ne (Ne.symm e)]; exact hp
  · split
    · exact nd
    · exact fr.nd j
  · intro h1 h2
    have cross : ∀ {j k : Nat}, j = i → k ≠ i → x ∈ ft' → x ∈ fs k → j = k := fun {j k} e1 e2 h1 h2 => by
      rcases hsub x (List.mem_append_right _ h1) with h | h
      · exact absurd (fr.dj k i x h2 h) e2
      · exact absurd h2 ((hext x h).2.2.2 k)
    split at h1
    · rename_i e1
      split at h2
      · rename_i e2; rw [e1, e2]
      · rename_i e2; exact cross e1 e2 h1 h2
    · rename_i e1
      split at h2
      · rename_i e2; exact (cross e2 e1 h2 h1).symm
      · exact fr.dj j k x h1 h2
  · intro h
    split at h
    · rcases hsub x (List.mem_append_right _ h) with h | h
      · exact fr.out i x h
      · exact (hext x h).2.2.1
    · exact fr.out j x h
/-- an owned list -/
theorem Own.list_at {m : Nat} {v : V} {ds : List D} {ft : List Addr} (o : Own K P w F H m v (.list ds) ft) (hm : 0 < m) : ∃ a xs f, v = .ref a ∧ ft = a :: f ∧ F a = none ∧ H a = some (.lst xs) ∧ OwnAll K P w F H (m - 1) xs ds f := by
  generalize hd : PyData.list ds = dd at o
  cases o with
  | sh h e => subst hd; rcases e with e | e
              · omega
              · simp [immut] at e
  | lst h1 h2 r1 => cases hd; exact ⟨_, _, _, rfl, rfl, h1, h2, r1⟩
  | tup _ _ => cases hd
  | dk _ _ _ _ => cases hd
  | dt _ _ _ _ => cases hd
theorem Own.dict_at {m : Nat} {v : V} {l : List (D × D)} {ft : List Addr} (o : Own K P w F H m v (.dict l) ft) (hm : 0 < m) :
    ∃ a f, v = .ref a ∧ ft = a :: f ∧ F a = none ∧ ((∃ kvs, H a = some (.dK kvs) ∧ l.map (·.1) = kvs.map (fun p => kD p.1) ∧ OwnAll K P w F H (m - 1) (kvs.map (·.2)) (l.map (·.2)) f) ∨
      (∃ kvs, H a = some (.dT kvs) ∧ l.map (·.1) = kvs.map (fun p => tkD p.1) ∧ OwnAll K P w F H (m - 1) (kvs.map (·.2)) (l.map (·.2)) f)) := by
  generalize hd : PyData.dict l = dd at o
  cases o with
  | sh h e => subst hd; rcases e with e | e
              · omega
              · simp [immut] at e
  | lst _ _ _ => cases hd
  | tup _ _ => cases hd
  | dk h1 h2 e r1 => cases hd; exact ⟨_, _, rfl, rfl, h1, .inl ⟨_, h2, e, r1⟩⟩
  | dt h1 h2 e r1 => cases hd; exact ⟨_, _, rfl, rfl, h1, .inr ⟨_, h2, e, r1⟩⟩
theorem OwnAll.append : ∀ {m : Nat} {vs us : List V} {ds es : List D} {f g : List Addr}, OwnAll K P w F H m vs ds f → OwnAll K P w F H m us es g → OwnAll K P w F H m (vs ++ us) (ds ++ es) (f ++ g)
  | _, _, _, _, _, _, _, .nil, s => s
  | _, _, _, _, _, _, _, .cons h r, s => by rw [List.append_assoc]; exact .cons h (OwnAll.append r s)
theorem OwnAll.length : ∀ {m : Nat} {vs : List V} {ds : List D} {f : List Addr}, OwnAll K P w F H m vs ds f → vs.length = ds.length
  | _, _, _, _, .nil => rfl
  | _, _, _, _, .cons _ r => by rw [List.length_cons, List.length_cons, OwnAll.length r]
/-- a list of owned things parted in two -/
theorem OwnAll.split : ∀ {m : Nat} {vs : List V} {ds : List D} {f : List Addr} (n : Nat), OwnAll K P w F H m vs ds f → ∃ f1 f2, f = f1 ++ f2 ∧ OwnAll K P w F H m (vs.take n) (ds.take n) f1 ∧ OwnAll K P w F H m (vs.drop n) (ds.drop n) f2
  | _, _, _, f, 0, h => ⟨[], f, rfl, by simpa using OwnAll.nil, by simpa using h⟩
  | _, _, _, _, n + 1, .nil => ⟨[], [], rfl, .nil, .nil⟩
  | _, _, _, _, n + 1, .cons (f := f) h r => by
    obtain ⟨f1, f2, e, h1, h2⟩ := OwnAll.split n r
    exact ⟨f ++ f1, f2, by rw [e, List.append_assoc], .cons h h1, h2⟩
/-- one of them replaced -/
theorem OwnAll.setv {m : Nat} {y : V} {e : D} {g : List Addr} (hy : Own K P w F H m y e g) : ∀ {vs : List V} {ds : List D} {f : List Addr} (j : Nat), OwnAll K P w F H m vs ds f → j < ds.length → ∃ f', OwnAll K P w F H m (vs.set j y) (ds.set j e) f' ∧ ∃ rest, (f' ++ rest).Perm (f ++ g)
  | _, _, _, _, .nil, hj => absurd hj (by simp)
  | _, _, _, 0, .cons (f := f) (g := g2) h r, _ => ⟨g ++ g2, .cons hy r, f, by
      refine (List.perm_append_comm (l₁ := g ++ g2) (l₂ := f)).trans ?_
      rw [List.append_assoc]
      exact (List.perm_append_comm (l₁ := g) (l₂ := g2)).append_left f⟩
  | _, _, _, j + 1, .cons (f := f) (g := g2) h r, hj => by
    obtain ⟨f', h1, rest, p⟩ := OwnAll.setv hy j r (by simpa using hj)
    refine ⟨f ++ f', .cons h h1, rest, ?_⟩
    rw [List.append_assoc, List.append_assoc]
    exact p.append_left f
end
end Wc
/- part WcS4 -/
namespace Wc
open PySem PySem.Spec PyProof.Rows L2
section
variable {K : PySem.W.Frag} {P : Program} {w : World} {Fe He F H : Hp} {σ : L2.St} {r : Env} {fs : Nat → List Addr} {C : Orc}
/-- parts and a new one, brought to one depth -/
theorem weak2 (s : Sub F H) {m k n : Nat} {vs : List V} {ds : List D} {f g : List Addr} {y : V} {d : D} (h : OwnAll K P w F H m vs ds f) (o : Own K P w F H k y d g) (nd : (f ++ g).Nodup) (h1 : n ≤ m) (h2 : immut d = true ∨ n ≤ k) :
    ∃ f' g' Z, OwnAll K P w (addF F H Z) H n vs ds f' ∧ Own K P w (addF F H Z) H n y d g' ∧ (f' ++ g' ++ Z).Perm (f ++ g) ∧ (immut d = true → g' = []) := by
  obtain ⟨n1, n2, n3⟩ := List.nodup_append.mp nd
  obtain ⟨f', fz, p, a⟩ := OwnAll.weak s n h h1 n1
  obtain ⟨g', gz, q, b, im⟩ : ∃ g' gz, (g' ++ gz).Perm g ∧ Own K P w (addF F H gz) H n y d g' ∧ (immut d = true → g' = []) := by
    by_cases hi : immut d = true
    · obtain ⟨g', gz, q, b⟩ := Own.weak s 0 o (Nat.zero_le _) n2
      refine ⟨[], g' ++ gz, q, .sh ?_ (.inr hi), fun _ => rfl⟩
      have rp : Rep K P w (addF F H (g' ++ gz)) y d := b.rep (addF_mono s fun a ha => List.mem_append_right _ ha) fun a ha ob e => by rw [addF_in (List.mem_append_left _ ha)]; exact e
      exact rp
    · rcases h2 with h2 | h2
      · exact absurd h2 hi
      · obtain ⟨g', gz, q, b⟩ := Own.weak s n o h2 n2
        exact ⟨g', gz, q, b, fun z => absurd z hi⟩
  have aF : ∀ a ∈ f, F a = none := fun a ha => (OwnAll.at_ h a ha).1
  have aG : ∀ a ∈ g, F a = none := fun a ha => (o.at_ a ha).1
  have p1 : ∀ a, a ∈ f' → a ∈ f := fun a ha => p.mem_iff.mp (List.mem_append_left _ ha)
  have p2 : ∀ a, a ∈ fz → a ∈ f := fun a ha => p.mem_iff.mp (List.mem_append_right _ ha)
  have q1 : ∀ a, a ∈ g' → a ∈ g := fun a ha => q.mem_iff.mp (List.mem_append_left _ ha)
  have q2 : ∀ a, a ∈ gz → a ∈ g := fun a ha => q.mem_iff.mp (List.mem_append_right _ ha)
  have d1 := (List.nodup_append.mp (p.nodup_iff.mpr n1)).2.2
  have d2 := (List.nodup_append.mp (q.nodup_iff.mpr n2)).2.2
  refine ⟨f', g', fz ++ gz, a.mono (addF_mono s fun a ha => List.mem_append_left _ ha) fun a ha => ⟨addF_none (fun z => ?_) (aF a (p1 a ha)), fun _ e => e⟩,
    b.mono (addF_mono s fun a ha => List.mem_append_right _ ha) fun a ha => ⟨addF_none (fun z => ?_) (aG a (q1 a ha)), fun _ e => e⟩, ?_, im⟩
  · rcases List.mem_append.mp z with z | z
    · exact d1 a ha a z rfl
    · exact n3 a (p1 a ha) a (q2 a z) rfl
  · rcases List.mem_append.mp z with z | z
    · exact n3 a (p2 a z) a (q1 a ha) rfl
    · exact d2 a ha a z rfl
  · have e1 : (f' ++ g' ++ (fz ++ gz)).Perm (f' ++ fz ++ (g' ++ gz)) := by
      rw [List.append_assoc, List.append_assoc]
      refine List.Perm.append_left f' ?_
      rw [← List.append_assoc, ← List.append_assoc]
      exact List.Perm.append_right gz List.perm_append_comm
    exact e1.trans (p.append q)
theorem minm {m k : Nat} {b : Bool} (hm : 0 < m) : 0 < (if b = true then m else min m (k + 1)) ∧ (if b = true then m else min m (k + 1)) - 1 ≤ m - 1 ∧ (b = true ∨ (if b = true then m else min m (k + 1)) - 1 ≤ k) := by
  cases b with
  | true => simp; omega
  | false => simp; omega
end
end Wc
/- part WcS5 -/
namespace Wc
open PySem PySem.Spec PyProof.Rows L2
section
variable {K : PySem.W.Frag} {P : Program} {w : World} {Fe He F H : Hp} {σ : L2.St} {r : Env} {fs : Nat → List Addr} {C : Orc}
theorem Frm.nd2 (fr : Frm K P w Fe He F H σ r fs) {i : Nat} {a : Addr} {f g : List Addr} (hf : fs i = a :: f) (nd : g.Nodup) (hx : ∀ x ∈ g, He x = none ∧ ∀ j, x ∉ fs j) : a ∉ f ++ g ∧ (f ++ g).Nodup := by
  have n1 := fr.nd i
  rw [hf] at n1
  obtain ⟨n2, n3⟩ := List.nodup_cons.mp n1
  refine ⟨fun z => ?_, List.nodup_append.mpr ⟨n3, nd, fun x hx1 y hy e => ?_⟩⟩
  · rcases List.mem_append.mp z with z | z
    · exact n2 z
    · exact (hx a z).2 i (by rw [hf]; exact List.mem_cons_self)
  · subst e
    exact (hx x hy).2 i (by rw [hf]; exact List.mem_cons_of_mem _ hx1)
theorem Frm.chg2 (fr : Frm K P w Fe He F H σ r fs) {i m k : Nat} {a : Addr} {f g Z q rest : List Addr} {o' : HO} {d' : D} {m' : Nat} {y : V} {e : D} (hσ : σ[i]? = some (some (.ref a))) (hf : fs i = a :: f) (o : Own K P w F H k y e g) (nd : g.Nodup) (hx : ∀ x ∈ g, He x = none ∧ ∀ j, x ∉ fs j)
    (p : (q ++ rest ++ Z).Perm (f ++ g)) (own : Own K P w (addF F H Z) (upd H a o') m' (.ref a) d' (a :: q)) :
    Frm K P w Fe He (addF F H Z) (upd H a o') σ (r.set i (some (m', d'))) (fun j => if j = i then a :: q else fs j) ∧ Sub F (addF F H Z) := by
  obtain ⟨z1, z2⟩ := fr.nd2 hf nd hx
  have pn := p.nodup_iff.mpr z2
  have inq : ∀ x ∈ q, x ∈ f ++ g := fun x h => p.mem_iff.mp (List.mem_append_left _ (List.mem_append_left _ h))
  have inZ : ∀ x ∈ Z, x ∈ f ++ g := fun x h => p.mem_iff.mp (List.mem_append_right _ h)
  have up : ∀ x ∈ f ++ g, x ∈ fs i ∨ x ∈ g := fun x h => by
    rcases List.mem_append.mp h with h | h
    · exact .inl (by rw [hf]; exact List.mem_cons_of_mem _ h)
    · exact .inr h
  refine fr.chg (i := i) (a := a) (by rw [hf]; exact List.mem_cons_self) (ext := g) hσ (fun x h => ⟨(o.at_ x h).1, (o.at_ x h).2, hx x h⟩) (fun x h => ?_) (fun h => z1 (inZ a h)) ?_ own
  · rcases List.mem_append.mp h with h | h
    · exact up x (inZ x h)
    · rcases List.mem_cons.mp h with e | h
      · subst e; exact .inl (by rw [hf]; exact List.mem_cons_self)
      · exact up x (inq x h)
  · exact List.nodup_cons.mpr ⟨fun h => z1 (inq a h), (List.nodup_append.mp (List.nodup_append.mp pn).1).1⟩
theorem OwnAll.offA {n : Nat} {vs : List V} {ds : List D} {q : List Addr} {a : Addr} {o' : HO} (h : OwnAll K P w F H n vs ds q) (ha : a ∉ q) : OwnAll K P w F (upd H a o') n vs ds q :=
  h.mono (Sub.refl _) fun x hx => ⟨(h.at_ x hx).1, fun o e => by rw [upd_ne (fun z : x = a => ha (z ▸ hx))]; exact e⟩
/-- something is stored in a list -/
theorem Frm.storeL (fr : Frm K P w Fe He F H σ r fs) {i m k : Nat} {ds : List D} {y : V} {e : D} {g : List Addr} (h : r[i]? = some (some (m, .list ds))) (hm : 0 < m) (o : Own K P w F H k y e g) (nd : g.Nodup) (hx : ∀ x ∈ g, He x = none ∧ ∀ j, x ∉ fs j) :
    ∃ a xs, σ[i]? = some (some (.ref a)) ∧ H a = some (.lst xs) ∧ xs.length = ds.length ∧ ∀ (xs' : List V) (ds' : List D), (∀ (F' : Hp) (n : Nat) (f' g' : List Addr), OwnAll K P w F' H n xs ds f' → Own K P w F' H n y e g' → ∃ q rest, OwnAll K P w F' H n xs' ds' q ∧ (q ++ rest).Perm (f' ++ g')) →
      ∃ F2 fs2, Frm K P w Fe He F2 (upd H a (.lst xs')) σ (r.set i (some ((if immut e = true then m else min m (k + 1)), .list ds'))) fs2 ∧ Sub F F2 := by
  obtain ⟨v, hσ, ow⟩ := fr.own i m _ h
  obtain ⟨a, xs, f, rfl, hf, na, ha, oa⟩ := ow.list_at hm
  refine ⟨a, xs, hσ, ha, oa.length, fun xs' ds' put => ?_⟩
  obtain ⟨z1, z2⟩ := fr.nd2 hf nd hx
  obtain ⟨m1, m2, m3⟩ := minm (k := k) (b := immut e) hm
  generalize hm' : (if immut e = true then m else min m (k + 1)) = m' at m1 m2 m3 ⊢
  obtain ⟨f', g', Z, w1, w2, w3, _⟩ := weak2 fr.gr.into oa o z2 m2 m3
  obtain ⟨q, rest, k1, k2⟩ := put _ _ _ _ w1 w2
  have pp : (q ++ rest ++ Z).Perm (f ++ g) := (k2.append_right Z).trans w3
  have aq : a ∉ q := fun z => z1 (pp.mem_iff.mp (List.mem_append_left _ (List.mem_append_left _ z)))
  have aZ : a ∉ Z := fun z => z1 (pp.mem_iff.mp (List.mem_append_right _ z))
  obtain ⟨n, rfl⟩ : ∃ n, m' = n + 1 := ⟨m' - 1, by omega⟩
  exact ⟨_, _, fr.chg2 (m := m) (d' := .list ds') hσ hf o nd hx pp (.lst (addF_none aZ na) upd_same (k1.offA aq))⟩
/-! dicts -/
variable {κ : Type} [DecidableEq κ] {enc : κ → D}
theorem deq_comm (hq : ∀ a b, deq (enc a) (enc b) = decide (a = b)) (a b : κ) : deq (enc a) (enc b) = deq (enc b) (enc a) := by
  rw [hq, hq]
  by_cases h : a = b
  · subst h; rfl
  · rw [decide_eq_false h, decide_eq_false (fun z => h z.symm)]
theorem own_map (hq : ∀ a b, deq (enc a) (enc b) = decide (a = b)) {n : Nat} {y : V} {e : D} {g : List Addr} {k : κ} (o : Own K P w F H n y e g) : ∀ {kvs : List (κ × V)} {l : List (D × D)} {f : List Addr}, l.map (·.1) = kvs.map (fun p => enc p.1) → (g = [] ∨ nodupK l = true) → OwnAll K P w F H n (kvs.map (·.2)) (l.map (·.2)) f →
    ∃ q rest, OwnAll K P w F H n ((kvs.map fun kv => if kv.1 = k then (kv.1, y) else kv).map (·.2)) ((l.map fun p => if deq p.1 (enc k) then (p.1, e) else p).map (·.2)) q ∧ (q ++ rest).Perm (f ++ g)
  | [], [], _, _, _, .nil => ⟨[], g, .nil, .refl _⟩
  | [], _ :: _, _, e1, _, _ => by simp at e1
  | _ :: _, [], _, e1, _, _ => by simp at e1
  | p :: kvs, (k1, d1) :: l, _, e1, hg, .cons (f := f) (g := f2) ho hr => by
    simp only [List.map_cons, List.cons.injEq] at e1
    obtain ⟨e1, e2⟩ := e1
    subst e1
    have nt : nodupK ((enc p.1, d1) :: l) = true → nodupK l = true := fun z => by
      simp only [nodupK, Bool.and_eq_true] at z; exact z.2
    by_cases hk : p.1 = k
    · subst hk
      have e3 : deq (enc p.1) (enc p.1) = true := by rw [hq]; simp
      rcases hg with rfl | hg
      · obtain ⟨q, rest, h1, h2⟩ := own_map hq (k := p.1) o e2 (.inl rfl) hr
        refine ⟨q, rest ++ f, ?_, ?_⟩
        · simp only [List.map_cons, e3, if_true]
          exact .cons (f := []) o h1
        · rw [List.append_nil] at h2 ⊢
          rw [← List.append_assoc]
          exact (h2.append_right f).trans List.perm_append_comm
      · have hno : ∀ x ∈ l, deq x.1 (enc p.1) = false := fun x hx => by
          simp only [nodupK, Bool.and_eq_true, Bool.not_eq_true', List.any_eq_false] at hg
          have := hg.1 x hx
          simpa using this
        have i1 : (l.map fun x => if deq x.1 (enc p.1) = true then (x.1, e) else x) = l := by
          conv => rhs; rw [← List.map_id l]
          exact List.map_congr_left fun x hx => by rw [hno x hx]; rfl
        have i2 : (kvs.map fun kv => if kv.1 = p.1 then (kv.1, y) else kv) = kvs := by
          conv => rhs; rw [← List.map_id kvs]
          refine List.map_congr_left fun x hx => ?_
          have : x.1 ≠ p.1 := fun z => by
            have hm : enc x.1 ∈ l.map (·.1) := by rw [e2]; exact List.mem_map.mpr ⟨x, hx, rfl⟩
            obtain ⟨x', hx', e4⟩ := List.mem_map.mp hm
            have := hno x' hx'
            rw [e4, z, e3] at this
            cases this
          rw [if_neg this]; rfl
        refine ⟨g ++ f2, f, ?_, ?_⟩
        · simp only [List.map_cons, e3, if_true]
          rw [i1, i2]
          exact .cons o hr
        · refine (List.perm_append_comm (l₁ := g ++ f2) (l₂ := f)).trans ?_
          rw [List.append_assoc]
          exact (List.perm_append_comm (l₁ := g) (l₂ := f2)).append_left f
    · have e3 : deq (enc p.1) (enc k) = false := by rw [hq]; simp [hk]
      obtain ⟨q, rest, h1, h2⟩ := own_map hq (k := k) o e2 (hg.imp id nt) hr
      refine ⟨f ++ q, rest, ?_, ?_⟩
      · simp only [List.map_cons, e3, hk, if_false]
        exact .cons ho h1
      · rw [List.append_assoc, List.append_assoc]
        exact h2.append_left f
theorem any_keys (hq : ∀ a b, deq (enc a) (enc b) = decide (a = b)) {k : κ} : ∀ {kvs : List (κ × V)} {l : List (D × D)}, l.map (·.1) = kvs.map (fun p => enc p.1) → (l.any fun p => deq p.1 (enc k)) = (kvs.any fun kv => decide (kv.1 = k))
  | [], [], _ => rfl
  | [], _ :: _, e1 => by simp at e1
  | _ :: _, [], e1 => by simp at e1
  | p :: kvs, (k1, d1) :: l, e1 => by
    simp only [List.map_cons, List.cons.injEq] at e1
    obtain ⟨e1, e2⟩ := e1
    subst e1
    rw [List.any_cons, List.any_cons, any_keys hq e2, hq]
theorem put_keys (hq : ∀ a b, deq (enc a) (enc b) = decide (a = b)) {k : κ} {y : V} {e : D} {kvs : List (κ × V)} {l : List (D × D)} (h : l.map (·.1) = kvs.map (fun p => enc p.1)) : (put l (enc k) e).map (·.1) = (putK kvs k y).map (fun p => enc p.1) := by
  unfold put putK
  rw [any_keys hq h]
  split
  · rw [List.map_map, List.map_map]
    have a1 : (l.map ((·.1) ∘ fun p => if deq p.1 (enc k) then (p.1, e) else p)) = l.map (·.1) := List.map_congr_left fun x _ => by dsimp only [Function.comp]; split <;> rfl
    have a2 : (kvs.map ((fun p => enc p.1) ∘ fun kv => if kv.1 = k then (kv.1, y) else kv)) = kvs.map (fun p => enc p.1) := List.map_congr_left fun x _ => by dsimp only [Function.comp]; split <;> rfl
    rw [a1, a2, h]
  · rw [List.map_append, List.map_append, h]; rfl
theorem own_put (hq : ∀ a b, deq (enc a) (enc b) = decide (a = b)) {n : Nat} {y : V} {e : D} {g f : List Addr} {k : κ} (o : Own K P w F H n y e g) {kvs : List (κ × V)} {l : List (D × D)} (h : l.map (·.1) = kvs.map (fun p => enc p.1)) (hg : g = [] ∨ nodupK l = true) (ho : OwnAll K P w F H n (kvs.map (·.2)) (l.map (·.2)) f) :
    ∃ q rest, OwnAll K P w F H n ((putK kvs k y).map (·.2)) ((put l (enc k) e).map (·.2)) q ∧ (q ++ rest).Perm (f ++ g) := by
  unfold put putK
  rw [any_keys hq h]
  split
  · exact own_map hq o h hg ho
  · rw [List.map_append, List.map_append]
    refine ⟨f ++ (g ++ []), [], ho.append (.cons o .nil), ?_⟩
    rw [List.append_nil, List.append_nil]
theorem Frm.storeD (fr : Frm K P w Fe He F H σ r fs) {i m k : Nat} {l : List (D × D)} {key : D} {kv y : V} {e : D} {g : List Addr} (h : r[i]? = some (some (m, .dict l))) (hm : 0 < m) (ko : keyOk l key = true) (hl : l.length < line) (hn : immut e = true ∨ nodupK l = true) (rk : Rep K P w F kv key)
    (o : Own K P w F H k y e g) (nd : g.Nodup) (hx : ∀ x ∈ g, He x = none ∧ ∀ j, x ∉ fs j) :
    ∃ a H2, σ[i]? = some (some (.ref a)) ∧ DPut2 H a kv y H2 ∧ ∃ F2 fs2, Frm K P w Fe He F2 H2 σ (r.set i (some ((if immut e = true then m else min m (k + 1)), .dict (put l key e)))) fs2 ∧ Sub F F2 := by
  obtain ⟨v, hσ, ow⟩ := fr.own i m _ h
  obtain ⟨a, f, rfl, hf, na, oa⟩ := ow.dict_at hm
  obtain ⟨z1, z2⟩ := fr.nd2 hf nd hx
  obtain ⟨m1, m2, m3⟩ := minm (k := k) (b := immut e) hm
  generalize hm' : (if immut e = true then m else min m (k + 1)) = m' at m1 m2 m3 ⊢
  obtain ⟨n, rfl⟩ : ∃ n, m' = n + 1 := ⟨m' - 1, by omega⟩
  have sizes : ∀ {κ : Type} {kvs : List (κ × V)} {enc : κ → D}, l.map (·.1) = kvs.map (fun p => enc p.1) → kvs.length < sizeLine := fun {κ kvs enc} e1 => by
    have := congrArg List.length e1
    rw [List.length_map, List.length_map] at this
    rw [sizeLine_eq]
    unfold line at hl
    omega
  have fin : ∀ {o' : HO} {d' : D} {q rest Z : List Addr}, (q ++ rest ++ Z).Perm (f ++ g) → (a ∉ q → a ∉ Z → Own K P w (addF F H Z) (upd H a o') (n + 1) (.ref a) d' (a :: q)) → ∃ F2 fs2, Frm K P w Fe He F2 (upd H a o') σ (r.set i (some (n + 1, d'))) fs2 ∧ Sub F F2 := fun {o' d' q rest Z} pp ow2 =>
    ⟨_, _, fr.chg2 (m := m) hσ hf o nd hx pp (ow2 (fun z => z1 (pp.mem_iff.mp (List.mem_append_left _ (List.mem_append_left _ z)))) (fun z => z1 (pp.mem_iff.mp (List.mem_append_right _ z))))⟩
  have kp := keyOk_plain ko
  unfold keyOk at ko
  rw [kp] at ko
  simp only [Bool.or_eq_true, Bool.and_eq_true, List.all_eq_true] at ko
  rcases oa with ⟨kvs, ha, e1, oa⟩ | ⟨kvs, ha, e1, oa⟩
  · obtain ⟨f', g', Z, w1, w2, w3, w4⟩ := weak2 fr.gr.into oa o z2 m2 m3
    rcases ko with ⟨k1, k2⟩ | ⟨k1, k2⟩
    · obtain ⟨k0, rfl, rfl⟩ := rep_isK rk k1
      obtain ⟨q, rest, j1, j2⟩ := own_put (enc := kD) (fun a b => kD_inj) (k := k0) w2 e1 (hn.imp w4 id) w1
      refine ⟨a, _, hσ, .inl (.k ha (sizes e1)), fin ((j2.append_right Z).trans w3) fun aq aZ => .dk (addF_none aZ na) upd_same (put_keys (fun a b => kD_inj) e1) (j1.offA aq)⟩
    · obtain ⟨b, k0, rfl, hb, rfl⟩ := rep_isTK rk k1
      have l0 : l = [] := by
        cases l with
        | nil => rfl
        | cons p l =>
          have h1 := allK_of e1 p List.mem_cons_self
          rw [k2 p List.mem_cons_self] at h1
          cases h1
      subst l0
      have kv0 : kvs = [] := by cases kvs with
        | nil => rfl
        | cons _ _ => simp at e1
      subst kv0
      cases w1
      refine ⟨a, _, hσ, .inr (.inl ⟨ha, b, k0, rfl, fr.gr.into _ _ hb, rfl⟩), fin (q := g') (rest := []) (by simpa using w3) fun aq aZ => ?_⟩
      have : OwnAll K P w (addF F H Z) (upd H a (.dT [(k0, y)])) n [y] [e] (g' ++ []) := .cons (w2.mono (Sub.refl _) fun x hx => ⟨(w2.at_ x hx).1, fun o eo => by rw [upd_ne (fun z : x = a => aq (z ▸ hx))]; exact eo⟩) .nil
      rw [List.append_nil] at this
      exact .dt (addF_none aZ na) upd_same rfl this
  · obtain ⟨f', g', Z, w1, w2, w3, w4⟩ := weak2 fr.gr.into oa o z2 m2 m3
    rcases ko with ⟨k1, k2⟩ | ⟨k1, k2⟩
    · obtain ⟨k0, rfl, rfl⟩ := rep_isK rk k1
      have l0 : l = [] := by
        cases l with
        | nil => rfl
        | cons p l =>
          have h1 := allT_of e1 p List.mem_cons_self
          rw [k2 p List.mem_cons_self] at h1
          cases h1
      subst l0
      have kv0 : kvs = [] := by cases kvs with
        | nil => rfl
        | cons _ _ => simp at e1
      subst kv0
      cases w1
      refine ⟨a, _, hσ, .inr (.inr ⟨ha, k0, rfl, rfl⟩), fin (q := g') (rest := []) (by simpa using w3) fun aq aZ => ?_⟩
      have : OwnAll K P w (addF F H Z) (upd H a (.dK [(k0, y)])) n [y] [e] (g' ++ []) := .cons (w2.mono (Sub.refl _) fun x hx => ⟨(w2.at_ x hx).1, fun o eo => by rw [upd_ne (fun z : x = a => aq (z ▸ hx))]; exact eo⟩) .nil
      rw [List.append_nil] at this
      exact .dk (addF_none aZ na) upd_same rfl this
    · obtain ⟨b, k0, rfl, hb, rfl⟩ := rep_isTK rk k1
      obtain ⟨q, rest, j1, j2⟩ := own_put (enc := tkD) (fun a b => tkD_inj) (k := k0) w2 e1 (hn.imp w4 id) w1
      refine ⟨a, _, hσ, .inl (.t ha (fr.gr.into _ _ hb) (sizes e1)), fin ((j2.append_right Z).trans w3) fun aq aZ => .dt (addF_none aZ na) upd_same (put_keys (fun a b => tkD_inj) e1) (j1.offA aq)⟩
end
end Wc
/- part WcS6 -/
namespace Wc
open PySem PySem.Spec PyProof.Rows L2
/-! ### statements -/
section
variable (K : PySem.W.Frag) (P : Program) (w : World)
def Want (Fe He F : Hp) (D : Ends) : Out → Prop
  | .nx r' => ∀ σ' H' F' fs', Frm K P w Fe He F' H' σ' r' fs' → Sub F F' → D.nx σ' H'
  | .rt d m => ∀ v H' F' ft, Sub F F' → Grow Fe He F' H' → Own K P w F' H' m v d ft → (∀ a ∈ ft, He a = none) → ft.Nodup → D.rt v H'
def tSt (C : Orc) (s : CS) : TS := fun D σ H => ∃ Fe He F r fs o, Frm K P w Fe He F H σ r fs ∧ evS C r s = some o ∧ Want K P w Fe He F D o
def tSts (C : Orc) (ss : List CS) : TS := fun D σ H => ∃ Fe He F r fs o, Frm K P w Fe He F H σ r fs ∧ evSs C r ss = some o ∧ Want K P w Fe He F D o
end
section
variable {X : Cx} {C : Orc}
abbrev TS' (X : Cx) (C : Orc) (s : CS) : TS := tSt X.K X.prog X.w C s
abbrev TSs' (X : Cx) (C : Orc) (s : List CS) : TS := tSts X.K X.prog X.w C s
theorem ps_imp {st : Stmt} {t t' : TS} (h : PS X st t) (f : ∀ D σ H, t' D σ H → t D σ H) : PS X st t' := ⟨fun pins s σ H D I q => h.run pins s σ H D I (f D σ H q)⟩
theorem pss_imp {st : List Stmt} {t t' : TS} (h : PSs X st t) (f : ∀ D σ H, t' D σ H → t D σ H) : PSs X st t' := ⟨fun pins s σ H D I q => h.run pins s σ H D I (f D σ H q)⟩
theorem ps_either {st : Stmt} {t t' : TS} (h : PS X st t) (h' : PS X st t') : PS X st (fun D σ H => t D σ H ∨ t' D σ H) := ⟨fun pins s σ H D I q => q.elim (h.run pins s σ H D I) (h'.run pins s σ H D I)⟩
theorem Want.mono {K : PySem.W.Frag} {P : Program} {w : World} {Fe He F F' : Hp} {D : Ends} {o : Out} (s : Sub F F') (h : Want K P w Fe He F D o) : Want K P w Fe He F' D o := by
  cases o with
  | nx r' => exact fun σ' H' F2 fs' fr s2 => h σ' H' F2 fs' fr (s.trans s2)
  | rt d m => exact fun v H' F2 ft s2 => h v H' F2 ft (s.trans s2)
/-! blocks -/
theorem s_nil : PSs X [] (TSs' X C []) := pss_imp pss_nil fun D σ H ⟨Fe, He, F, r, fs, o, fr, ev, q⟩ => by
  simp only [evSs, Option.some.injEq] at ev
  subst ev
  exact q σ H F fs fr (Sub.refl _)
theorem s_cons {st : Stmt} {sts : List Stmt} {s : CS} {ss : List CS} (h : PS X st (TS' X C s)) (hs : PSs X sts (TSs' X C ss)) : PSs X (st :: sts) (TSs' X C (s :: ss)) := by
  refine pss_imp (pss_cons h hs) fun D σ H ⟨Fe, He, F, r, fs, o, fr, ev, q⟩ => ?_
  simp only [evSs] at ev
  split at ev
  · rename_i r' e1
    exact ⟨Fe, He, F, r, fs, _, fr, e1, fun σ' H' F' fs' fr' s' => ⟨Fe, He, F', r', fs', o, fr', ev, q.mono s'⟩⟩
  · rename_i hne
    cases o with
    | nx r' => exact absurd ev (hne r')
    | rt d m => exact ⟨Fe, He, F, r, fs, _, fr, ev, q⟩
/-! target = e -/
theorem ev_set {r : Env} {tg : Tg} {e : CE} {o : Out} (h : evS C r (.set tg e) = some o) : ∃ d m r', evE C r e = some (d, m) ∧ setTg m tg d (kept e d m r) = some r' ∧ o = .nx r' := by
  simp only [evS] at h
  split at h
  · obtain ⟨r', e1, e2⟩ := Option.map_eq_some_iff.mp h
    exact ⟨_, _, r', by assumption, e1, e2.symm⟩
  · cases h
theorem set_in {tg : Tg} {e : CE} {D : Ends} {σ : L2.St} {H : Hp} (h : TS' X C (.set tg e) D σ H) : TE' X C e σ H fun x H1 => gTg X.K tg x σ H1 D.nx := by
  obtain ⟨Fe, He, F, r, fs, o, fr, ev, q⟩ := h
  obtain ⟨d, m, r', e1, e2, rfl⟩ := ev_set ev
  exact fr.eval e1 fun v H' F' fs' ft fr' s' ow nd hx _ => fr'.tg ow nd hx e2 fun σ' fs2 fr2 => q σ' H' F' fs2 fr2 s'
/-! a statement's value dropped -/
theorem ev_ex {r : Env} {e : CE} {o : Out} (h : evS C r (.ex e) = some o) : ∃ p, evE C r e = some p ∧ o = .nx r := by
  simp only [evS] at h
  split at h
  · cases h; exact ⟨_, by assumption, rfl⟩
  · cases h
theorem ex_in {e : CE} {D : Ends} {σ : L2.St} {H : Hp} (h : TS' X C (.ex e) D σ H) : tDrop (TE' X C e) D σ H := by
  obtain ⟨Fe, He, F, r, fs, o, fr, ev, q⟩ := h
  obtain ⟨⟨d, m⟩, e1, rfl⟩ := ev_ex ev
  exact fr.drop e1 fun v H' F' fr' s' _ _ _ => q σ H' F' fs fr' s'
/-! if -/
theorem ite_in {c : CE} {a b : List CS} {D : Ends} {σ : L2.St} {H : Hp} (h : TS' X C (.ite c a b) D σ H) : tIfS (TT' X C c) (TSs' X C a) (TSs' X C b) D σ H := by
  obtain ⟨Fe, He, F, r, fs, o, fr, ev, q⟩ := h
  simp only [evS] at ev
  split at ev
  · rename_i e1
    exact fr.test e1 fun H' F' fr' s' => by rw [if_pos rfl]; exact ⟨Fe, He, F', r, fs, o, fr', ev, q.mono s'⟩
  · rename_i e1
    exact fr.test e1 fun H' F' fr' s' => by rw [if_neg Bool.false_ne_true]; exact ⟨Fe, He, F', r, fs, o, fr', ev, q.mono s'⟩
  · cases ev
/-! return -/
theorem ret_in {e : CE} {D : Ends} {σ : L2.St} {H : Hp} (hne : ∀ i, e ≠ .var i) (h : TS' X C (.ret e) D σ H) : tRet (TE' X C e) D σ H := by
  obtain ⟨Fe, He, F, r, fs, o, fr, ev, q⟩ := h
  have : ∃ d m, evE C r e = some (d, m) ∧ o = .rt d m := by
    cases e with
    | var i => exact absurd rfl (hne i)
    | _ =>
      simp only [evS] at ev
      split at ev
      · cases ev; exact ⟨_, _, by assumption, rfl⟩
      · cases ev
  obtain ⟨d, m, e1, rfl⟩ := this
  exact fr.eval e1 fun v H' F' fs' ft fr' s' ow nd hx _ => q v H' F' ft s' fr'.gr ow (fun a ha => (hx a ha).1) nd
theorem retv_in {i : Nat} {D : Ends} {σ : L2.St} {H : Hp} (h : TS' X C (.ret (.var i)) D σ H) : tRet (tVar i) D σ H := by
  obtain ⟨Fe, He, F, r, fs, o, fr, ev, q⟩ := h
  simp only [evS] at ev
  split at ev
  · rename_i m d e1
    cases ev
    obtain ⟨v, h1, ow⟩ := fr.own i m d e1
    exact ⟨v, h1, q v H F (fs i) (Sub.refl _) fr.gr ow (fun a ha => fr.out i a ha) (fr.nd i)⟩
  · cases ev
theorem retN_in {D : Ends} {σ : L2.St} {H : Hp} (h : TS' X C .retN D σ H) : tRetN D σ H := by
  obtain ⟨Fe, He, F, r, fs, o, fr, ev, q⟩ := h
  simp only [evS, Option.some.injEq] at ev
  subst ev
  exact q .non H F [] (Sub.refl _) fr.gr (.sh .non (.inl rfl)) (fun _ h => absurd h (by simp)) List.nodup_nil
/-! while -/
theorem whl_in {c : CE} {b : List CS} {D : Ends} {σ : L2.St} {H : Hp} (h : TS' X C (.whl c b) D σ H) : tWhile (TT' X C c) (TSs' X C b) D σ H := by
  obtain ⟨Fe, He, F, r, fs, o, fr, ev, q⟩ := h
  simp only [evS] at ev
  refine ⟨fun n σ' H' => ∃ F' r' fs', Frm X.K X.prog X.w Fe He F' H' σ' r' fs' ∧ Sub F F' ∧ whl (fun r => evT C r c) (fun r => evSs C r b) n r' = some o, ⟨fuel, F, r, fs, fr, Sub.refl _, ev⟩, ?_⟩
  rintro n σ1 H1 ⟨F1, r1, fs1, fr1, s1, e1⟩
  cases n with
  | zero => simp [whl] at e1
  | succ n =>
    simp only [whl] at e1
    split at e1
    · rename_i ec
      refine fr1.test ec fun H' F' fr' s' => ?_
      rw [if_pos rfl]
      refine ⟨fun σ2 H2 => ∃ F2 r2 fs2, Frm X.K X.prog X.w Fe He F2 H2 σ2 r2 fs2 ∧ Sub F F2 ∧ whl (fun r => evT C r c) (fun r => evSs C r b) n r2 = some o, fun σ2 H2 z => ⟨n, Nat.lt_succ_self _, z⟩, ?_⟩
      split at e1
      · rename_i r2 eb
        exact ⟨Fe, He, F', r1, fs1, _, fr', eb, fun σ2 H2 F2 fs2 fr2 s2 => ⟨F2, r2, fs2, fr2, (s1.trans s').trans s2, e1⟩⟩
      · rename_i hne
        cases o with
        | nx r2 => exact absurd e1 (hne r2)
        | rt d m => exact ⟨Fe, He, F', r1, fs1, _, fr', e1, q.mono (s1.trans s')⟩
    · rename_i ec
      cases e1
      refine fr1.test ec fun H' F' fr' s' => ?_
      rw [if_neg Bool.false_ne_true]
      exact q σ1 H' F' fs1 fr' (s1.trans s')
    · cases e1
/-! for -/
theorem forl_drop {f : PyData → Env → Option Out} {xs : List PyData} {i : Nat} {x : PyData} (h : xs[i]? = some x) (r : Env) : forl f (xs.drop i) r = (match f x r with | some (.nx r') => forl f (xs.drop (i + 1)) r' | o => o) := by
  have hl := (List.getElem?_eq_some_iff.mp h).1
  rw [List.drop_eq_getElem_cons hl]
  have : xs[i] = x := (List.getElem?_eq_some_iff.mp h).2
  rw [this]
  rfl
/-- the walk of a loop from a frame on -/
theorem for_walk {tg : Tg} {b : List CS} {D : Ends} {σ : L2.St} {H Fe He F : Hp} {r : Env} {fs : Nat → List Addr} {xs : List PyData} {J : It} {o : Out} (fr : Frm X.K X.prog X.w Fe He F H σ r fs) (wj : WalkJ X.K X.prog X.w J F xs)
    (ev : forl (fun d r => match setTg 0 tg d r with | some r' => evSs C r' b | none => none) xs r = some o) (q : Want X.K X.prog X.w Fe He F D o) :
    ∃ W : Nat → Nat → L2.St → Hp → Prop, (∃ m, W 0 m σ H) ∧ ∀ i m σ H, W i m σ H →
      (J.stop i H ∧ D.nx σ H) ∨ (J.go i H ∧ ∃ N : L2.St → Hp → Prop, (∀ σ' H', N σ' H' → ∃ m', m' < m ∧ W (i + 1) m' σ' H') ∧ ∀ x H', J.yld i H x H' → gTg X.K tg x σ H' fun σ2 H2 => TSs' X C b { D with nx := N, ct := N, bk := D.nx } σ2 H2) := by
  generalize hf : (fun d r => match setTg 0 tg d r with | some r' => evSs C r' b | none => none : PyData → Env → Option Out) = f at ev
  refine ⟨fun i m σ' H' => m = xs.length - i ∧ i ≤ xs.length ∧ ∃ F' r' fs', Frm X.K X.prog X.w Fe He F' H' σ' r' fs' ∧ Sub F F' ∧ forl f (xs.drop i) r' = some o, ⟨_, rfl, Nat.zero_le _, F, r, fs, fr, Sub.refl _, ev⟩, ?_⟩
  rintro i m σ1 H1 ⟨rfl, hi, F1, r1, fs1, fr1, s1, e1⟩
  have sH := s1.trans fr1.gr.into
  by_cases hlt : i < xs.length
  · refine .inr ⟨wj.go i H1 sH hlt, fun σ' H' => ∃ F' r' fs', Frm X.K X.prog X.w Fe He F' H' σ' r' fs' ∧ Sub F F' ∧ forl f (xs.drop (i + 1)) r' = some o, fun σ' H' z => ⟨xs.length - (i + 1), by omega, rfl, hlt, z⟩, fun x H' y => ?_⟩
    obtain ⟨d, hd, rfl, hG⟩ := wj.yld i H1 x H' sH hlt y
    obtain ⟨G, gG, rx⟩ := hG F1 s1 fr1.gr.into
    rw [forl_drop hd] at e1
    -- the yielded value is seen in a frame that may hold one more tuple
    have frG : ∃ G2, Frm X.K X.prog X.w Fe He G2 H' σ1 r1 fs1 ∧ Sub F1 G2 ∧ Rep X.K X.prog X.w G2 x d := by
      refine ⟨G, ⟨?_, fr1.len, fun j m d h => ?_, fr1.dead, fr1.nd, fr1.dj, fr1.out⟩, gG.sub, rx⟩
      · exact fr1.gr.trans gG
      · obtain ⟨v, h1, ow⟩ := fr1.own j m d h
        exact ⟨v, h1, ow.mono gG.sub fun a ha => by
          obtain ⟨z1, u, z2, z3⟩ := fr1.at_ ha
          exact gG.stays z1 z2 z3⟩
    obtain ⟨G2, fr2, s2, rx2⟩ := frG
    rw [← hf] at e1
    dsimp only at e1
    cases ht : setTg 0 tg d r1 with
    | none => rw [ht] at e1; cases e1
    | some r2 =>
      rw [ht] at e1
      dsimp only at e1
      refine fr2.tg (.sh rx2 (.inl rfl)) List.nodup_nil (fun _ h => absurd h (by simp)) ht fun σ2 fs2 fr3 => ?_
      split at e1
      · rename_i r3 eb
        exact ⟨Fe, He, G2, r2, fs2, _, fr3, eb, fun σ' H2 F' fs' fr' s' => ⟨F', r3, fs', fr', (s1.trans s2).trans s', by rw [← hf]; exact e1⟩⟩
      · rename_i hne
        cases o with
        | nx r3 => exact absurd e1 (hne r3)
        | rt d' m' => exact ⟨Fe, He, G2, r2, fs2, _, fr3, e1, q.mono (s1.trans s2)⟩
  · have e : i = xs.length := by omega
    subst e
    refine .inl ⟨wj.stop _ H1 sH (Nat.le_refl _), ?_⟩
    rw [List.drop_length] at e1
    simp only [forl, Option.some.injEq] at e1
    subst e1
    exact q σ1 H1 F1 fs1 fr1 s1
theorem for_in {tg : Tg} {it : CE} {b : List CS} {D : Ends} {σ : L2.St} {H Fe He F : Hp} {r : Env} {fs : Nat → List Addr} {x : PyData} {m : Nat} {xs : List PyData} {o : Out} (fr : Frm X.K X.prog X.w Fe He F H σ r fs) (e1 : evE C r it = some (x, m)) (e2 : itemsOf x = some xs)
    (e3 : forl (fun d r => match setTg 0 tg d r with | some r' => evSs C r' b | none => none) xs (if loose it m x then r else frz (vars it) r) = some o) (q : Want X.K X.prog X.w Fe He F D o) :
    tFor (tIt X.K X.prog X.w C it) (gTg X.K tg) (TSs' X C b) D σ H := by
  refine ⟨addF F H ((vars it).flatMap fs), only (vars it) r, x, m, xs, addF_into fr.gr.into, fr.env _, by rw [ev_agr it (only_agr _ _)]; exact e1, e2, fun H' F1 Fw J g wj sw lo => ?_⟩
  obtain ⟨F2, f2, s1, s2, k1, k2, k3, k4⟩ := fr.after (vars it) g (clean m x)
  have sw2 : Sub Fw F2 := fun a ob e => by
    cases hc : clean m x with
    | true =>
      rcases lo hc a ob e with z | ⟨ys, rfl⟩
      · exact k2 a ob (sw _ _ e) z
      · exact k1 a ys (sw _ _ e)
    | false => rw [k3 hc]; exact sw _ _ e
  exact for_walk f2 (wj.mono sw2) e3 (q.mono s1)
end
end Wc
/- part WcS7 -/
namespace Wc
open PySem PySem.Spec PyProof.Rows L2
/-! ### over a dict's keys: it is locked meanwhile -/
section
variable {K : PySem.W.Frag} {P : Program} {w : World} {F F' H H' : Hp}
mutual
theorem Own.move (hR : ∀ {v : V} {d : PyData}, Rep K P w F v d → Rep K P w F' v d) (hT : ∀ a xs, F a = some (.tup xs) → F' a = some (.tup xs)) (hN : ∀ a, F a = none → ∀ o, H a = some o → F' a = none ∧ H' a = some o) : ∀ {m : Nat} {v : V} {d : PyData} {ft : List Addr}, Own K P w F H m v d ft → Own K P w F' H' m v d ft
  | _, _, _, _, .sh h e => .sh (hR h) e
  | _, _, _, _, .lst h1 h2 r => .lst (hN _ h1 _ h2).1 (hN _ h1 _ h2).2 (OwnAll.move hR hT hN r)
  | _, _, _, _, .tup h1 r => .tup (hT _ _ h1) (OwnAll.move hR hT hN r)
  | _, _, _, _, .dk h1 h2 e r => .dk (hN _ h1 _ h2).1 (hN _ h1 _ h2).2 e (OwnAll.move hR hT hN r)
  | _, _, _, _, .dt h1 h2 e r => .dt (hN _ h1 _ h2).1 (hN _ h1 _ h2).2 e (OwnAll.move hR hT hN r)
theorem OwnAll.move (hR : ∀ {v : V} {d : PyData}, Rep K P w F v d → Rep K P w F' v d) (hT : ∀ a xs, F a = some (.tup xs) → F' a = some (.tup xs)) (hN : ∀ a, F a = none → ∀ o, H a = some o → F' a = none ∧ H' a = some o) : ∀ {m : Nat} {vs : List V} {ds : List PyData} {ft : List Addr}, OwnAll K P w F H m vs ds ft → OwnAll K P w F' H' m vs ds ft
  | _, _, _, _, .nil => .nil
  | _, _, _, _, .cons h r => .cons (Own.move hR hT hN h) (OwnAll.move hR hT hN r)
end
/-- what stands at d put in place of what stood there -/
def swp (d : Addr) (o : HO) (G : Hp) : Hp := fun a => if a = d then (match G d with | some _ => some o | none => none) else G a
theorem swp_ne {d a : Addr} {o : HO} {G : Hp} (h : a ≠ d) : swp d o G a = G a := by unfold swp; rw [if_neg h]
theorem swp_at {d : Addr} {o u : HO} {G : Hp} (h : G d = some u) : swp d o G d = some o := by unfold swp; rw [if_pos rfl, h]
theorem swp_no {d : Addr} {o : HO} {G : Hp} (h : G d = none) : swp d o G d = none := by unfold swp; rw [if_pos rfl, h]
theorem swp_upd {d : Addr} {o u : HO} {G : Hp} (h : G d = some u) : swp d o G = upd G d o := by
  funext a
  by_cases q : a = d
  · subst q; rw [swp_at h, upd_same]
  · rw [swp_ne q, upd_ne q]
theorem swp_sub {d : Addr} {o : HO} {F G : Hp} (s : Sub F G) : Sub (swp d o F) (swp d o G) := fun a x e => by
  by_cases q : a = d
  · subst q
    cases h : F a with
    | none => rw [swp_no h] at e; cases e
    | some y => rw [swp_at h] at e; rw [swp_at (s _ _ h)]; exact e
  · rw [swp_ne q] at e ⊢; exact s _ _ e
theorem swp_swp {d : Addr} {o u : HO} {G : Hp} (h : ∀ x, G d = some x → x = u) : swp d u (swp d o G) = G := by
  funext a
  by_cases q : a = d
  · subst q
    cases e : G a with
    | none => rw [swp_no (swp_no e)]
    | some x => rw [swp_at (swp_at e), h x e]
  · rw [swp_ne q, swp_ne q]
theorem swp_grow {d : Addr} {o u : HO} {Fe He F H : Hp} (hd : H d = some u) (hu : ∀ xs, u ≠ .tup xs) (g : Grow Fe He F H) : Grow (swp d o Fe) (swp d o He) (swp d o F) (swp d o H) where
  sub := swp_sub g.sub
  same := swp_sub g.same
  into := swp_sub g.into
  new := fun a h => by
    by_cases q : a = d
    · subst q
      cases e : F a with
      | none => rw [swp_no e] at h; exact absurd rfl h
      | some x =>
        rcases g.new a (by rw [e]; simp) with z | z | ⟨xs, z⟩
        · cases e2 : Fe a with
          | none => exact absurd e2 z
          | some y => exact .inl (by rw [swp_at e2]; simp)
        · exact .inr (.inl (swp_no z))
        · have := g.same _ _ z
          rw [hd] at this; cases this
          exact absurd rfl (hu xs)
    · rw [swp_ne q] at h ⊢
      rw [swp_ne q]
      exact g.new a h
/-- a frame with d's object exchanged for one that says the same -/
theorem Frm.swp {Fe He : Hp} {σ : L2.St} {r : Env} {fs : Nat → List Addr} {d : Addr} {o u : HO} (fr : Frm K P w Fe He F H σ r fs) (hd : F d = some u) (hu : ∀ xs, u ≠ .tup xs) (hR : ∀ {v : V} {x : PyData}, Rep K P w F v x → Rep K P w (Wc.swp d o F) v x) :
    Frm K P w (Wc.swp d o Fe) (Wc.swp d o He) (Wc.swp d o F) (Wc.swp d o H) σ r fs where
  gr := swp_grow (fr.gr.into _ _ hd) hu fr.gr
  len := fr.len
  own := fun i m x h => by
    obtain ⟨v, h1, h2⟩ := fr.own i m x h
    refine ⟨v, h1, h2.move hR (fun a xs e => ?_) fun a e ob e2 => ?_⟩
    · rw [swp_ne (fun q : a = d => by subst q; rw [hd] at e; cases e; exact hu _ rfl)]; exact e
    · have : a ≠ d := fun q => by subst q; rw [hd] at e; cases e
      rw [swp_ne this, swp_ne this]; exact ⟨e, e2⟩
  dead := fr.dead
  nd := fr.nd
  dj := fr.dj
  out := fun i a h => by
    have := fr.out i a h
    by_cases q : a = d
    · subst q; exact swp_no this
    · rw [swp_ne q]; exact this
theorem rep_lock {d : Addr} {od : Obj} {u : HO} (hu : isDk u) (hd : F d = some u) {v : V} {x : PyData} (h : Rep K P w F v x) : Rep K P w (Wc.swp d (.frz od u) F) v x := by
  have nf : ∀ o' v', u ≠ .frz o' v' := fun o' v' e => by subst e; exact hu
  refine h.relock (d := d) (u := u) hu (fun a o q e => by rw [swp_ne q]; exact e) (fun v' rd iv => ?_) (fun o e => ?_)
  · rcases rd with rd | ⟨o, rd⟩
    · rw [hd] at rd; cases rd; exact .inr ⟨od, swp_at hd⟩
    · rw [hd] at rd; cases rd; exact absurd rfl (nf _ _)
  · rw [hd] at e; cases e; exact .inl hu
theorem rep_unlock {d : Addr} {od : Obj} {u : HO} (hu : isDk u) (hd : F d = some (.frz od u)) {v : V} {x : PyData} (h : Rep K P w F v x) : Rep K P w (Wc.swp d u F) v x := by
  refine h.relock (d := d) (u := u) hu (fun a o q e => by rw [swp_ne q]; exact e) (fun v' rd iv => ?_) (fun o e => ?_)
  · rcases rd with rd | ⟨o, rd⟩
    · rw [hd] at rd; cases rd; exact absurd iv (fun z => z)
    · rw [hd] at rd; cases rd; exact .inl (swp_at hd)
  · rw [hd] at e; cases e; exact .inr ⟨od, u, rfl, hu⟩
end
section
variable {X : Cx} {C : Orc}
/-- a loop over a locked dict -/
theorem fork_in {tg : Tg} {i : Nat} {b : List CS} {En : Ends} {σ : L2.St} {H Fe He F : Hp} {r : Env} {fs : Nat → List Addr} {a : Addr} {o : Obj} {u : HO} {l : List (PyData × PyData)} {out : Out} (fr : Frm X.K X.prog X.w Fe He F H σ r fs) (hσ : σ[i]? = some (some (.ref a))) (hF : F a = some (.frz o u))
    (hu : (∃ kvs, u = .dK kvs ∧ l.map (·.1) = kvs.map (fun p => kD p.1)) ∨ (∃ kvs, u = .dT kvs ∧ l.map (·.1) = kvs.map (fun p => tkD p.1)))
    (ev : forl (fun d r => match setTg 0 tg d r with | some r' => evSs C r' b | none => none) (l.map (·.1)) r = some out) (q : Want X.K X.prog X.w Fe He F En out) : tFor (iKeys (tVar i)) (gTg X.K tg) (TSs' X C b) En σ H := by
  refine ⟨.ref a, hσ, a, o, rfl, ?_⟩
  rcases hu with ⟨kvs, rfl, e⟩ | ⟨kvs, rfl, e⟩
  · exact .inl ⟨kvs, fr.gr.into _ _ hF, for_walk fr (walk_keysK hF e) ev q⟩
  · exact .inr ⟨kvs, fr.gr.into _ _ hF, for_walk fr (walk_keysT hF e) ev q⟩
theorem forl_in {tg : Tg} {i : Nat} {b : List CS} {En : Ends} {σ : L2.St} {H Fe He F : Hp} {r : Env} {fs : Nat → List Addr} {a : Addr} {u : HO} {l : List (PyData × PyData)} {out : Out} (fr : Frm X.K X.prog X.w Fe He F H σ r fs) (hσ : σ[i]? = some (some (.ref a))) (hF : F a = some u)
    (hu : (∃ kvs, u = .dK kvs ∧ l.map (·.1) = kvs.map (fun p => kD p.1)) ∨ (∃ kvs, u = .dT kvs ∧ l.map (·.1) = kvs.map (fun p => tkD p.1)))
    (ev : forl (fun d r => match setTg 0 tg d r with | some r' => evSs C r' b | none => none) (l.map (·.1)) r = some out) (q : Want X.K X.prog X.w Fe He F En out) : tLock (tFor (iKeys (tVar i)) (gTg X.K tg) (TSs' X C b)) En σ H := by
  have iu : isDk u := by rcases hu with ⟨_, rfl, _⟩ | ⟨_, rfl, _⟩ <;> trivial
  have nt : ∀ xs, u ≠ .tup xs := fun xs e => by subst e; exact iu
  have hH := fr.gr.into _ _ hF
  refine ⟨a, u, hH, by cases u <;> first | trivial | exact iu, fun od => ?_⟩
  have fl := fr.swp (o := .frz od u) hF nt (fun h => rep_lock iu hF h)
  rw [← swp_upd hH]
  have hFl : swp a (.frz od u) F a = some (.frz od u) := swp_at hF
  have nF : ∀ xs, HO.frz od u ≠ .tup xs := fun xs e => nomatch e
  -- back from the lock
  have backE : ∀ {G : Hp}, Sub G H → swp a u (swp a (.frz od u) G) = G := fun {G} s => swp_swp fun x e => by
    have := s _ _ e
    rw [hH] at this; cases this; rfl
  have s1 : Sub Fe H := fr.gr.sub.trans fr.gr.into
  have s2 : Sub He H := fr.gr.same
  refine fork_in fl hσ hFl hu ev ?_
  cases out with
  | nx r' =>
    intro σ' H' F' fs' fr' s'
    have hF' := s' _ _ hFl
    have hH' := fr'.gr.into _ _ hF'
    refine ⟨hH', ?_⟩
    have fb := fr'.swp (o := u) hF' nF (fun h => rep_unlock iu hF' h)
    rw [backE s1, backE s2, swp_upd hH'] at fb
    refine q σ' _ _ fs' fb ?_
    have := swp_sub (d := a) (o := u) s'
    rw [backE fr.gr.into] at this
    exact this
  | rt d m =>
    intro v H' F' ft s' g' ow hn nd
    have hF' := s' _ _ hFl
    have hH' := g'.into _ _ hF'
    refine ⟨hH', ?_⟩
    have gb := swp_grow (o := u) hH' nF g'
    rw [backE s1, backE s2, swp_upd hH'] at gb
    refine q v _ _ ft ?_ gb ?_ (fun x hx => ?_) nd
    · have := swp_sub (d := a) (o := u) s'
      rw [backE fr.gr.into] at this
      exact this
    · rw [← swp_upd hH']
      refine ow.move (fun h => rep_unlock iu hF' h) (fun x xs e => ?_) fun x e ob e2 => ?_
      · rw [swp_ne (fun z : x = a => by subst z; rw [hF'] at e; cases e)]; exact e
      · have : x ≠ a := fun z => by subst z; rw [hF'] at e; cases e
        rw [swp_ne this, swp_ne this]; exact ⟨e, e2⟩
    · have := hn x hx
      by_cases z : x = a
      · subst z
        cases e : He x with
        | none => rfl
        | some y => rw [swp_at e] at this; cases this
      · rw [swp_ne z] at this; exact this
/-- for, over anything -/
theorem s_for {tgE itE : Expr} {body : List Stmt} {tg : Tg} {it : CE} {b : List CS} {pos : Pos} (hp : PassesOwn (model X.prog X.w) X.A X.env X.xe) (hc : X.calm = true) (hpl : plainE itE = true) (hi : PI X tgE itE (tIt X.K X.prog X.w C it)) (hv : ∀ i, it = .var i → PE X itE (tVar i)) (hg : PG X tgE (gTg X.K tg)) (hb : PSs X body (TSs' X C b)) :
    PS X (.For tgE itE body [] pos) (TS' X C (.for tg it b)) := by
  have h1 := ps_for (pos := pos) hp hc hi hg hb (hs_of hpl _)
  by_cases hi2 : ∃ i, it = .var i
  · obtain ⟨i, rfl⟩ := hi2
    have h2 := ps_for (pos := pos) hp hc (pi_keys (tg := tgE) (hv i rfl)) hg hb (hs_of hpl _)
    refine ps_imp (ps_either h1 (ps_either (ps_lock h2) h2)) fun En σ H ⟨Fe, He, F, r, fs, o, fr, ev, q⟩ => ?_
    simp only [evS] at ev
    split at ev
    · rename_i x m e1
      split at ev
      · rename_i xs e2
        exact .inl (for_in fr e1 e2 ev q)
      · rename_i e2
        simp only [evE, Option.map_eq_some_iff] at e1
        obtain ⟨d, e3, e4⟩ := e1
        cases e4
        cases x with
        | dict l =>
          dsimp only at ev
          split at ev
          · rename_i hk
            obtain ⟨F2, f2, s1, s2, k1, k2, k3, k4⟩ := fr.after [i] (Grow.refl (addF_into fr.gr.into)) false
            simp only [Bool.false_eq_true, if_false] at f2
            obtain ⟨v, h3, h4⟩ := (fr.env [i]).get i (.dict l) (by rw [getv_only]; simp [e3])
            rw [← k3 rfl] at h4
            obtain ⟨a, rfl, hd⟩ := rep_dict h4 hk
            have q2 := q.mono s1
            rcases hd with ⟨kvs, hd, e, _⟩ | ⟨kvs, hd, e, _⟩
            · rcases hd with hd | ⟨ob, hd⟩
              · exact .inr (.inl (forl_in f2 h3 hd (.inl ⟨kvs, rfl, e⟩) ev q2))
              · exact .inr (.inr (fork_in f2 h3 hd (.inl ⟨kvs, rfl, e⟩) ev q2))
            · rcases hd with hd | ⟨ob, hd⟩
              · exact .inr (.inl (forl_in f2 h3 hd (.inr ⟨kvs, rfl, e⟩) ev q2))
              · exact .inr (.inr (fork_in f2 h3 hd (.inr ⟨kvs, rfl, e⟩) ev q2))
          · cases ev
        | _ => simp [itemsOf] at e2 <;> cases ev
    · cases ev
  · refine ps_imp h1 fun En σ H ⟨Fe, He, F, r, fs, o, fr, ev, q⟩ => ?_
    simp only [evS] at ev
    split at ev
    · rename_i x m e1
      split at ev
      · rename_i xs e2
        exact for_in fr e1 e2 ev q
      · split at ev
        · exact absurd ⟨_, rfl⟩ hi2
        · cases ev
    · cases ev
end
end Wc
/- part WcS8 -/
namespace Wc
open PySem PySem.Spec PyProof.Rows L2
/-! ### a list or a dict of one's own is changed by a statement -/
section
variable {K : PySem.W.Frag} {P : Program} {w : World} {Fe He F H : Hp} {σ : L2.St} {r : Env} {fs : Nat → List Addr} {C : Orc}
theorem kept_at {e : CE} {d x : PyData} {m k i : Nat} (h : (kept e d k r)[i]? = some (some (m, x))) (hm : 0 < m) : r[i]? = some (some (m, x)) := by
  unfold kept at h
  split at h
  · exact h
  · rw [frz_at] at h
    split at h
    · obtain ⟨y, h1, h2⟩ := Option.map_eq_some_iff.mp h
      cases y with
      | none => cases h2
      | some p => obtain ⟨m', x'⟩ := p; cases h2; omega
    · exact h
theorem kept_agr {e : CE} {d : PyData} {k : Nat} (vs : List Nat) : Agr vs (kept e d k r) r := by
  unfold kept
  split
  · exact ⟨rfl, fun _ _ => rfl⟩
  · refine ⟨frz_len _ _, fun i _ => ?_⟩
    rw [getv_join, getv_join, frz_at]
    by_cases hm : i ∈ vars e
    · rw [if_pos hm]
      cases r[i]? with
      | none => rfl
      | some x => cases x with
        | none => rfl
        | some p => rfl
    · rw [if_neg hm]
end
section
variable {X : Cx} {C : Orc}
theorem ev_mut {r : Env} {i : Nat} {op : MOp} {ks : List CE} {e : CE} {o : Out} (h : evS C r (.mut i [] op ks e) = some o) : ∃ kl v k m d d', evEs C r ks = some kl ∧ evE C r e = some (v, k) ∧ immuts (kl.map (·.1)) = true ∧ (kept e v k r)[i]? = some (some (m, d)) ∧ 0 < m ∧
    mutv op (kl.map (·.1)) v d = some d' ∧ o = .nx ((kept e v k r).set i (some (inMode op 0 m v k, d'))) := by
  simp only [evS, evEs] at h
  split at h
  · split at h
    · split at h
      · rename_i h1 _ _ _ _ h2 hc
        simp only [List.map_nil, immuts, Bool.and_true] at hc
        split at h
        · split at h
          · rename_i h3 hm
            split at h
            · rename_i h4
              cases h
              exact ⟨_, _, _, _, _, _, by assumption, by assumption, hc, by assumption, by simpa using hm, by simpa [updAt] using h4, rfl⟩
            · cases h
          · cases h
        · cases h
      · cases h
    · cases h
  · cases h
/-! a.append(e) -/
theorem app_in {i : Nat} {e : CE} {D : Ends} {σ : L2.St} {H : Hp} (h : TS' X C (.mut i [] .append [] e) D σ H) : tDrop (tBM X.K "list" rAppend (tVar i) (tCons (TE' X C e) tNil)) D σ H := by
  obtain ⟨Fe, He, F, r, fs, o, fr, ev, q⟩ := h
  obtain ⟨kl, v, k, m, d, d', e1, e2, e3, e4, e5, e6, rfl⟩ := ev_mut ev
  simp only [evEs, Option.some.injEq] at e1
  subst e1
  cases d with
  | list ds =>
    simp only [mutv, List.map_nil] at e6
    split at e6
    · rename_i hl
      cases e6
      obtain ⟨u, hσ, ow⟩ := fr.own i m _ (kept_at e4 e5)
      obtain ⟨a, xs, f, rfl, hf, na, ha, oa⟩ := ow.list_at e5
      refine ⟨_, hσ, .inl ⟨rfl, xs, .of ha⟩, fr.eval e2 fun y H' F' fs' ft fr' s' oy nd hx _ => ?_⟩
      obtain ⟨a2, xs2, hσ2, ha2, hl2, put⟩ := fr'.storeL e4 e5 oy nd hx
      rw [hσ] at hσ2
      cases hσ2
      obtain ⟨F2, fs2, fr2, s2⟩ := put (xs2 ++ [y]) (ds ++ [v]) fun F0 n f' g' h1 h2 => ⟨f' ++ (g' ++ []), [], h1.append (.cons h2 .nil), by simp⟩
      refine ⟨a, xs2, y, rfl, rfl, ha2, by rw [hl2, sizeLine_eq]; exact hl, ?_⟩
      exact q σ _ F2 fs2 fr2 (s'.trans s2)
    · cases e6
  | _ => simp [mutv] at e6
/-! a.insert(k, e) -/
theorem ev_one {r : Env} {c : CE} {l : List (PyData × Nat)} (h : evEs C r [c] = some l) : ∃ p, evE C r c = some p ∧ l = [p] := by
  simp only [evEs] at h
  split at h
  · cases h; exact ⟨_, by assumption, rfl⟩
  · cases h
/-! a[k] = e -/
def tSetV : TSet := fun o i v H Q => rSetL o i v H Q ∨ ∃ a H', o = .ref a ∧ DPut2 H a i v H' ∧ Q H'
theorem set_v (c0 : Ctx0 X) : PSet X tSetV := by
  intro pins s σ H o i v ov iv u Q I ro ri rv h
  rcases h with h | ⟨a, H', rfl, g, q⟩
  · exact set_list pins s σ H o i v ov iv u Q I ro ri rv h
  · obtain rfl : ov = Value.ref a := ro
    have hu := c0.hu
    exact d_setItem2 (by omega) I g ri rv fun s' I' => ⟨H', I', q⟩
theorem imm1 {l : List PyData} {x : PyData} (h : immuts l = true) (hl : l = [x]) : immut x = true := by
  subst hl
  simpa [immuts] using h
theorem put_in {i : Nat} {c e : CE} {D : Ends} {σ : L2.St} {H : Hp} (h : TS' X C (.mut i [] .setk [c] e) D σ H) : tAsg (TE' X C e) (gSub (tVar i) (TE' X C c) tSetV) D σ H := by
  obtain ⟨Fe, He, F, r, fs, o, fr, ev, q⟩ := h
  obtain ⟨kl, v, k, m, d, d', e1, e2, e3, e4, e5, e6, rfl⟩ := ev_mut ev
  obtain ⟨⟨key, mk⟩, e7, rfl⟩ := ev_one e1
  have ik : immut key = true := imm1 e3 rfl
  refine fr.eval e2 fun y H' F' fs' ft fr' s' oy nd hx _ => ?_
  have hσ : ∃ a, σ[i]? = some (some (.ref a)) := by
    obtain ⟨u, hσ, ow⟩ := fr'.own i m _ e4
    cases d with
    | list ds => obtain ⟨a, _, _, rfl, _⟩ := ow.list_at e5; exact ⟨a, hσ⟩
    | dict l => obtain ⟨a, _, rfl, _⟩ := ow.dict_at e5; exact ⟨a, hσ⟩
    | _ => simp [mutv] at e6
  obtain ⟨a, hσ⟩ := hσ
  refine ⟨_, hσ, fr'.drop (e := c) (d := key) (m := mk) (by rw [ev_agr c (kept_agr _)]; exact e7) fun kv H2 F2 fr2 s2 sH hN rk => ?_⟩
  have rk := rk ik
  have oy2 : Own X.K X.prog X.w F2 H2 k y v ft := oy.mono s2 fun a ha => by
    obtain ⟨z1, u, z2, z3⟩ := oy.at_ a ha
    exact ⟨hN a u z1 z2 z3, fun o eo => sH _ _ eo⟩
  cases d with
  | list ds =>
    simp only [List.map_cons, List.map_nil] at e6
    cases key with
    | int j0 =>
      simp only [mutv] at e6
      obtain ⟨j, ej, e8⟩ := Option.map_eq_some_iff.mp e6
      subst e8
      obtain ⟨a2, xs2, hσ2, ha2, hl2, put⟩ := fr2.storeL e4 e5 oy2 nd hx
      rw [hσ] at hσ2
      cases hσ2
      have hj : j < ds.length := by
        unfold ixZ at ej
        split at ej
        · split at ej
          · cases ej; omega
          · cases ej
        · split at ej
          · cases ej; omega
          · cases ej
      obtain ⟨F3, fs3, fr3, s3⟩ := put (xs2.set j y) (ds.set j v) fun F0 n f' g' h1 h2 => by
        obtain ⟨f2, h3, rest, p⟩ := h1.setv h2 j hj
        exact ⟨f2, rest, h3, p⟩
      refine .inl ⟨a, xs2, j0, j, rfl, rk.int_inv, ha2, by rw [hl2, ← ixZ_eq]; exact ej, ?_⟩
      exact q σ _ F3 fs3 fr3 ((s'.trans s2).trans s3)
    | _ => simp [mutv] at e6
  | dict l =>
    have hput : (keyOk l key && decide (l.length < line) && (immut v || nodupK l)) = true ∧ d' = .dict (put l key v) := by
      simp only [List.map_cons, List.map_nil] at e6
      cases key <;> (simp only [mutv] at e6; split at e6 <;> first | (cases e6; exact ⟨by assumption, rfl⟩) | cases e6)
    obtain ⟨hc, rfl⟩ := hput
    simp only [Bool.and_eq_true, Bool.or_eq_true, decide_eq_true_eq] at hc
    obtain ⟨a2, H3, hσ2, dp, F3, fs3, fr3, s3⟩ := fr2.storeD e4 e5 hc.1.1 hc.1.2 hc.2 rk oy2 nd hx
    rw [hσ] at hσ2
    cases hσ2
    exact .inr ⟨a, H3, rfl, dp, q σ _ F3 fs3 fr3 ((s'.trans s2).trans s3)⟩
  | _ => simp [mutv] at e6
end
end Wc
/- part WcS9 -/
namespace Wc
open PySem PySem.Spec PyProof.Rows L2
section
variable {K : PySem.W.Frag} {P : Program} {w : World} {Fe He F H : Hp} {σ : L2.St} {r : Env} {fs : Nat → List Addr} {C : Orc}
theorem OwnAll.one {n : Nat} {vs : List V} {y : PyData} {f : List Addr} (h : OwnAll K P w F H n vs [y] f) : ∃ x, vs = [x] ∧ Own K P w F H n x y f := by
  cases h with
  | cons h1 h2 => cases h2; exact ⟨_, rfl, by rw [List.append_nil]; exact h1⟩
theorem Own.offA {n : Nat} {v : V} {d : PyData} {q : List Addr} {a : Addr} {o' : HO} (h : Own K P w F H n v d q) (ha : a ∉ q) : Own K P w F (upd H a o') n v d q :=
  h.mono (Sub.refl _) fun x hx => ⟨(h.at_ x hx).1, fun o e => by rw [upd_ne (fun z : x = a => ha (z ▸ hx))]; exact e⟩
/-- one item taken out of a list; what is left lies as T says -/
theorem Frm.take1 (fr : Frm K P w Fe He F H σ r fs) {i m : Nat} {ds : List PyData} (h : r[i]? = some (some (m, .list ds))) (hm : 0 < m) {y : PyData} {ds1 : List PyData} {T : List V → List V} {Q : List V → V → Prop}
    (cutS : ∀ {xs : List V} {f : List Addr}, OwnAll K P w F H (m - 1) xs ds f → ∃ x f1 f2, (f1 ++ f2).Perm f ∧ OwnAll K P w F H (m - 1) (T xs) ds1 f1 ∧ Own K P w F H (m - 1) x y f2 ∧ Q xs x) :
    ∃ a xs x ft fs2, σ[i]? = some (some (.ref a)) ∧ H a = some (.lst xs) ∧ Q xs x ∧ Frm K P w Fe He F (upd H a (.lst (T xs))) σ (r.set i (some (m, .list ds1))) fs2 ∧ Own K P w F (upd H a (.lst (T xs))) (m - 1) x y ft ∧ ft.Nodup ∧ ∀ b ∈ ft, He b = none ∧ ∀ j, b ∉ fs2 j := by
  obtain ⟨v, hσ, ow⟩ := fr.own i m _ h
  obtain ⟨a, xs, f, rfl, hf, na, ha, oa⟩ := ow.list_at hm
  obtain ⟨x, f1, f2, p, o1, o2, q⟩ := cutS oa
  have nd := fr.nd i
  rw [hf] at nd
  obtain ⟨n1, n2⟩ := List.nodup_cons.mp nd
  have pn := p.nodup_iff.mpr n2
  have in1 : ∀ b ∈ f1, b ∈ f := fun b hb => p.mem_iff.mp (List.mem_append_left _ hb)
  have in2 : ∀ b ∈ f2, b ∈ f := fun b hb => p.mem_iff.mp (List.mem_append_right _ hb)
  have a1 : a ∉ f1 := fun z => n1 (in1 a z)
  have a2 : a ∉ f2 := fun z => n1 (in2 a z)
  obtain ⟨m0, rfl⟩ : ∃ n, m = n + 1 := ⟨m - 1, by omega⟩
  have own : Own K P w (addF F H []) (upd H a (.lst (T xs))) (m0 + 1) (.ref a) (.list ds1) (a :: f1) := by
    rw [addF_nil]
    exact .lst na upd_same (o1.offA a1)
  obtain ⟨fr2, _⟩ := fr.chg (i := i) (a := a) (by rw [hf]; exact List.mem_cons_self) (ext := []) hσ (fun _ z => absurd z (by simp)) (fun b hb => .inl (by
    rw [hf]
    rcases List.mem_cons.mp (by simpa using hb) with e | hb
    · rw [e]; exact List.mem_cons_self
    · exact List.mem_cons_of_mem _ (in1 b hb))) (by simp) (List.nodup_cons.mpr ⟨a1, (List.nodup_append.mp pn).1⟩) own
  rw [addF_nil] at fr2
  refine ⟨a, xs, x, f2, _, hσ, ha, q, fr2, o2.offA a2, (List.nodup_append.mp pn).2.1, fun b hb => ⟨fr.out i b (by rw [hf]; exact List.mem_cons_of_mem _ (in2 b hb)), fun j hj => ?_⟩⟩
  split at hj
  · rcases List.mem_cons.mp hj with e | hj
    · exact a2 (e ▸ hb)
    · exact (List.nodup_append.mp pn).2.2 b hj b hb rfl
  · rename_i hne
    exact hne (fr.dj j i b hj (by rw [hf]; exact List.mem_cons_of_mem _ (in2 b hb)))
end
section
variable {X : Cx} {C : Orc}
theorem ev_pop {r : Env} {dst : Option Nat} {i : Nat} {op : POp} {es : List CE} {o : Out} (h : evS C r (.pop dst i op es) = some o) : ∃ l m d y d', evEs C r es = some l ∧ r[i]? = some (some (m, d)) ∧ 0 < m ∧ popv op (l.map (·.1)) d = some (y, d') ∧
    ((dst = none ∧ o = .nx (r.set i (some (m, d')))) ∨ ∃ j, dst = some j ∧ i ≠ j ∧ o = .nx ((r.set i (some (m, d'))).set j (some (m - 1, y)))) := by
  simp only [evS] at h
  split at h
  · split at h
    · split at h
      · split at h
        · split at h
          · cases h; exact ⟨_, _, _, _, _, by assumption, by assumption, by assumption, by assumption, .inl ⟨rfl, rfl⟩⟩
          · split at h
            · cases h
            · cases h; exact ⟨_, _, _, _, _, by assumption, by assumption, by assumption, by assumption, .inr ⟨_, rfl, by assumption, rfl⟩⟩
        · cases h
      · cases h
    · cases h
  · cases h
/-- a.pop() as a value: what is behind it -/
theorem popLast {i : Nat} {dst : Option Nat} {D : Ends} {σ : L2.St} {H : Hp} (h : TS' X C (.pop dst i .last []) D σ H) :
    tBM0 X.K "list" rPop (tVar i) σ H fun x H1 => ∃ (Fe He F : Hp) (fs : Nat → List Addr) (r : Env) (m : Nat) (y d' : PyData) (ft : List Addr), Frm X.K X.prog X.w Fe He F H1 σ (r.set i (some (m, d'))) fs ∧ Own X.K X.prog X.w F H1 (m - 1) x y ft ∧ ft.Nodup ∧ (∀ b ∈ ft, He b = none ∧ ∀ j, b ∉ fs j) ∧
      ((dst = none ∧ Want X.K X.prog X.w Fe He F D (.nx (r.set i (some (m, d'))))) ∨ ∃ j, dst = some j ∧ i ≠ j ∧ Want X.K X.prog X.w Fe He F D (.nx ((r.set i (some (m, d'))).set j (some (m - 1, y))))) := by
  obtain ⟨Fe, He, F, r, fs, o, fr, ev, q⟩ := h
  obtain ⟨l, m, d, y, d', e1, e2, e3, e4, e5⟩ := ev_pop ev
  simp only [evEs, Option.some.injEq] at e1
  subst e1
  cases d with
  | list ds =>
    simp only [popv, List.map_nil] at e4
    split at e4
    · rename_i hy
      cases e4
      have hlen : 0 < ds.length := by
        have := (List.getElem?_eq_some_iff.mp hy).1
        omega
      have hdrop : ds.drop (ds.length - 1) = [y] := by
        have h1 := (List.getElem?_eq_some_iff.mp hy)
        rw [List.drop_eq_getElem_cons h1.1, h1.2]
        have : ds.length - 1 + 1 = ds.length := by omega
        rw [this, List.drop_length]
      obtain ⟨a, xs, x, ft, fs2, hσ, ha, hq, fr2, ow, nd, hx⟩ := fr.take1 e2 e3 (y := y) (ds1 := ds.dropLast) (T := List.dropLast) (Q := fun xs x => xs[xs.length - 1]? = some x) fun {xs f} oa => by
        have hl := oa.length
        obtain ⟨f1, f2, rfl, o1, o2⟩ := oa.split (ds.length - 1)
        rw [hdrop] at o2
        obtain ⟨x, hx, ox⟩ := o2.one
        refine ⟨x, f1, f2, .refl _, ?_, ox, ?_⟩
        · rw [List.dropLast_eq_take, List.dropLast_eq_take, hl]; exact o1
        · have : (xs.drop (ds.length - 1))[0]? = some x := by rw [hx]; rfl
          rw [List.getElem?_drop] at this
          rw [hl]; simpa using this
      refine ⟨_, hσ, .inl ⟨rfl, xs, .of ha⟩, a, xs, x, rfl, rfl, ha, hq, Fe, He, F, fs2, r, m, y, _, ft, fr2, ow, nd, hx, ?_⟩
      rcases e5 with ⟨rfl, rfl⟩ | ⟨j, rfl, hne, rfl⟩
      · exact .inl ⟨rfl, q⟩
      · exact .inr ⟨j, rfl, hne, q⟩
    · cases e4
  | _ => simp [popv] at e4
theorem pop_in0 {i : Nat} {D : Ends} {σ : L2.St} {H : Hp} (h : TS' X C (.pop none i .last []) D σ H) : tDrop (tBM0 X.K "list" rPop (tVar i)) D σ H := by
  obtain ⟨v, hv, ty, l, xs, y, a1, a2, a3, a4, Fe, He, F, fs, r, m, y', d', ft, fr, ow, nd, hx, k⟩ := popLast h
  refine ⟨v, hv, ty, l, xs, y, a1, a2, a3, a4, ?_⟩
  rcases k with ⟨_, k⟩ | ⟨j, z, _⟩
  · exact k σ _ F fs fr (Sub.refl _)
  · cases z
theorem pop_in1 {i j : Nat} {D : Ends} {σ : L2.St} {H : Hp} (h : TS' X C (.pop (some j) i .last []) D σ H) : tAsg (tBM0 X.K "list" rPop (tVar i)) (gName j) D σ H := by
  obtain ⟨v, hv, ty, l, xs, y, a1, a2, a3, a4, Fe, He, F, fs, r, m, y', d', ft, fr, ow, nd, hx, k⟩ := popLast h
  refine ⟨v, hv, ty, l, xs, y, a1, a2, a3, a4, ?_⟩
  rcases k with ⟨z, _⟩ | ⟨j, e, _, k⟩
  · cases z
  · cases e
    exact k _ _ F _ (fr.set j ow nd hx) (Sub.refl _)
/-! names = values, side by side -/
theorem ev_par {r : Env} {is : List Nat} {es : List CE} {o : Out} (h : evS C r (.par is es) = some o) : ∃ l r', evEs C r es = some l ∧ setEach is l (keptL es l r) = some r' ∧ o = .nx r' := by
  simp only [evS] at h
  split at h
  · obtain ⟨r', e1, e2⟩ := Option.map_eq_some_iff.mp h
    exact ⟨_, r', by assumption, e1, e2.symm⟩
  · cases h
theorem Frm.each {K : PySem.W.Frag} {P : Program} {w : World} {Fe He F H : Hp} : ∀ {is : List Nat} {l : List (PyData × Nat)} {vs : List V} {ft : List Addr} {σ : L2.St} {r r' : Env} {fs : Nat → List Addr}, Frm K P w Fe He F H σ r fs → OwnEach K P w F H l vs ft → ft.Nodup → (∀ a ∈ ft, He a = none ∧ ∀ i, a ∉ fs i) → setEach is l r = some r' →
    is.length = vs.length ∧ ∃ fs', Frm K P w Fe He F H (setVs is vs σ) r' fs'
  | [], _, _, _, _, _, _, _, fr, .nil, _, _, h => by
    simp only [setEach, Option.some.injEq] at h
    subst h
    exact ⟨rfl, _, fr⟩
  | i :: is, _, _, _, _, _, _, fs, fr, .cons (f := f) (g := g) ho hr, nd, hx, h => by
    simp only [setEach] at h
    obtain ⟨n1, n2, n3⟩ := List.nodup_append.mp nd
    have fr2 := fr.set i ho n1 fun a ha => hx a (List.mem_append_left _ ha)
    obtain ⟨h1, fs', h2⟩ := Frm.each fr2 hr n2 (fun a ha => ⟨(hx a (List.mem_append_right _ ha)).1, fun j hj => by
      split at hj
      · split at hj
        · exact n3 a hj a ha rfl
        · cases hj
      · exact (hx a (List.mem_append_right _ ha)).2 j hj⟩) h
    exact ⟨by simp [h1], fs', h2⟩
  | [], _, _, _, _, _, _, _, _, .cons _ _, _, _, h => by simp [setEach] at h
  | _ :: _, _, _, _, _, _, _, _, _, .nil, _, _, h => by simp [setEach] at h
theorem par_in {is : List Nat} {es : List CE} {D : Ends} {σ : L2.St} {H : Hp} (h : TS' X C (.par is es) D σ H) : tEvs X.K X.prog X.w C es σ H fun vs H1 => is.length = vs.length ∧ D.nx (setVs is vs σ) H1 := by
  obtain ⟨Fe, He, F, r, fs, o, fr, ev, q⟩ := h
  obtain ⟨l, r', e1, e2, rfl⟩ := ev_par ev
  exact fr.evals e1 fun vs H' F' fs' ft fr' s' oe nd hx => by
    obtain ⟨h1, fs2, h2⟩ := fr'.each oe nd hx e2
    exact ⟨h1, q _ _ _ _ h2 s'⟩
end
end Wc
/- part WcT1 -/
namespace Wc
open PySem PySem.Spec PyProof.Rows L2
/-! ### statements from the text -/
def isComp : Expr → Bool
  | .ListComp _ _ _ _ => true
  | .SetComp _ _ _ _ => true
  | .DictComp _ _ _ _ _ => true
  | _ => false
def isTup : Expr → Bool
  | .Tuple _ _ _ => true
  | _ => false
def slotOf (S : Sc) (x : Str) : Option Nat := if S.isVis x then ixO S.N x else none
def locOf (S : Sc) (x : Str) : Option Nat := if S.isLoc x then ixO S.N x else none
def swapB (S : Sc) (y : Str) (py cpos : Pos) (scope : Scope) : Bool := S.nm.lookup y == some .local && py.line == cpos.line && !(scope.names.any fun (n, k) => n == y && (k == .local || k == .cell))
/-- side by side: the conditions under which the stores are exchanged -/
def parB (S : Sc) (ts : List (Str × Nat × Pos)) (es : List Expr) (l : Nat) : Bool :=
  ts.all (fun t => S.nm.lookup t.1 == some .local && t.2.2.line == l) && es.all plainE && !(es.all (foldedForSure 8)) && !(es.all (constantsAlone 8))
def nmP (S : Sc) : Expr → Option (Str × Nat × Pos)
  | .Name x p => (ixO S.N x).map fun i => (x, i, p)
  | _ => none
def notVar : CE → Bool
  | .var _ => false
  | _ => true
def cMut (S : Sc) (n : Nat) (x m : Str) (es : List Expr) (apos cpos : Pos) : Option CS :=
  match slotOf S x with
  | some i => if apos.endLine == cpos.line then match es with
      | [] => if m == "pop" then some (.pop none i .last []) else none
      | [e] => if m == "append" && plainE e then (cE n S e).map (.mut i [] .append []) else none
      | _ => none
      else none
  | none => none
def cAsgN (S : Sc) (n : Nat) (y : Str) (py : Pos) (e : Expr) : Option CS :=
  match locOf S y with
  | some j => match e with
    | .Call (.Attribute (.Name x _) m apos) [] [] cpos => match slotOf S x with
      | some i => if m == "pop" && (apos.endLine == cpos.line) then some (.pop (some j) i .last []) else none
      | none => none
    | .ListComp elt gs scope cpos => (cComp S (cE n) elt gs scope).map (.set (.one j))
    | e => if isComp e then none else (cE n S e).map (.set (.one j))
  | none => none
def cAsgT (S : Sc) (n : Nat) (tg e : Expr) : Option CS :=
  match tg, e with
  | .Tuple [.Name x px, .Name y py] _ _, .Tuple [a, b] _ _ => match ixO S.N x, ixO S.N y, cE n S a, cE n S b with
    | some i, some j, some c, some d => if parB S [(x, i, px), (y, j, py)] [a, b] px.line && !(x == y) then some (.par [i, j] [c, d]) else none
    | _, _, _, _ => none
  | .Tuple [.Name x px, .Name y py, .Name z pz] _ _, .Tuple [a, b, c] _ _ => match ixO S.N x, ixO S.N y, ixO S.N z, cE n S a, cE n S b, cE n S c with
    | some i, some j, some k, some d, some e, some f => if parB S [(x, i, px), (y, j, py), (z, k, pz)] [a, b, c] px.line && !(x == y) && !(x == z) && !(y == z) then some (.par [i, j, k] [d, e, f]) else none
    | _, _, _, _, _, _ => none
  | .Tuple _ _ _, e => if isComp e || isTup e then none else match cTg S.isLoc S.N tg, cE n S e with
    | some (t, _), some c => some (.set t c)
    | _, _ => none
  | _, _ => none
def cAsg (S : Sc) (n : Nat) (tg e : Expr) : Option CS :=
  match tg with
  | .Name y py => cAsgN S n y py e
  | .Subscript (.Name x _) k _ => if isComp e || !plainE k then none else match slotOf S x, cE n S k, cE n S e with
    | some i, some c, some d => some (.mut i [] .setk [c] d)
    | _, _, _ => none
  | _ => cAsgT S n tg e
def cBack (S : Sc) (n : Nat) (e : Expr) : Option CE :=
  match e with
  | .Name x _ => (slotOf S x).map .var
  | e => match cE n S e with
    | some c => if notVar c then some c else none
    | none => none
def cOver (S : Sc) (n : Nat) (e : Expr) : Option CE :=
  match e with
  | .Name x _ => (slotOf S x).map .var
  | e => match cIt S (cE n S) e with
    | some c => if notVar c then some c else none
    | none => none
def cS : Nat → Sc → Stmt → Option CS
  | 0, _, _ => none
  | n + 1, S, st => match st with
    | .Expr (.Call (.Attribute (.Name x _) m apos) es [] cpos) _ => cMut S n x m es apos cpos
    | .Expr e _ => if isComp e then none else (cE n S e).map .ex
    | .Assign [tg] e _ => cAsg S n tg e
    | .If c a b _ => if okT c then match cE n S c, mapO (cS n S) a, mapO (cS n S) b with
      | some x, some y, some z => some (.ite x y z)
      | _, _, _ => none
      else none
    | .While c b [] _ => if okT c then match cE n S c, mapO (cS n S) b with
      | some x, some y => some (.whl x y)
      | _, _ => none
      else none
    | .For tg it b [] _ => if plainE it then match cTg S.isLoc S.N tg, cOver S n it, mapO (cS n S) b with
      | some (t, _), some x, some y => some (.for t x y)
      | _, _, _ => none
      else none
    | .Return none _ => some .retN
    | .Return (some e) _ => (cBack S n e).map .ret
    | _ => none
theorem sw_no {e : Expr} (h : isComp e = false) (t : Option Expr) (l : Nat) (env : PySem.Env) : swapsWith e t l env = pure false := by
  cases e <;> first | rfl | (simp [isComp] at h)
/-- the context of a def's body -/
structure CtxB (X : Cx) (S : Sc) (C : Orc) : Prop where
  c : CtxS X S C
  fn : ∀ x, X.fn x = true
  own : PassesOwn (model X.prog X.w) X.A X.env X.xe
section
variable {X : Cx} {S : Sc} {C : Orc}
theorem CtxB.loc (k : CtxB X S C) (x : Str) (h : S.isLoc x = true) : L2.Loc X.env.scope x ∧ (X.fn x = true ∨ X.env.scope.names.lookup x = some .local) := by
  refine ⟨?_, .inl (k.fn x)⟩
  simp only [Sc.isLoc, Bool.or_eq_true, beq_iff_eq] at h
  unfold L2.Loc
  rw [k.c.nm]
  exact h
theorem slot_var (k : CtxS X S C) {x : Str} {i : Nat} {p : Pos} (h : slotOf S x = some i) : PE X (.Name x p) (tVar i) := by
  unfold slotOf at h
  split at h
  · rename_i hv
    obtain ⟨v1, v2, v3⟩ := k.vis hv
    exact pe_var (by rw [k.hN]; exact ixO_at h) v1 v2 v3
  · cases h
theorem loc_pg (k : CtxB X S C) {x : Str} {i : Nat} {p : Pos} (h : locOf S x = some i) : PG X (.Name x p) (gName i) ∧ X.N[i]? = some x ∧ L2.Loc X.env.scope x := by
  unfold locOf at h
  split at h
  · rename_i hv
    obtain ⟨l1, l2⟩ := k.loc x hv
    have hN : X.N[i]? = some x := by rw [k.c.hN]; exact ixO_at h
    exact ⟨pg_name k.c.nd hN l1 l2, hN, l1⟩
  · cases h
theorem few1 {e : Expr} (hp : plainE e = true) (pos : Pos) (env : PySem.Env) : ((backTo pos (starEach [e] env)).all (fun x => !x.1) && (backToKw pos (keywordEach [] env)).all (fun x => x.1.isSome) && decide (([e] : List Expr).length + ([] : List Keyword).length + (if ([] : List Keyword).isEmpty then 0 else 1) < 30)) = true := by
  rw [star_of hp]; rfl
theorem cMut_ok {n : Nat} {x m : Str} {es : List Expr} {apos cpos pos p : Pos} {c : CS} (k : CtxB X S C) (h : cMut S n x m es apos cpos = some c) : PS X (.Expr (.Call (.Attribute (.Name x p) m apos) es [] cpos) pos) (TS' X C c) := by
  unfold cMut at h
  split at h
  · rename_i i hi
    have v := slot_var (p := p) k.c hi
    split at h
    · rename_i hl
      split at h
      · split at h
        · rename_i hm
          cases h
          have := eq_of_beq hm
          subst this
          exact ps_imp (ps_expr (pe_bm0 PySem.F.plainAttrs_list PySem.F.slot_list_pop PySem.F.type_list_pop mt_pop v rfl hl) rfl) fun D σ H q => pop_in0 q
        · cases h
      · rename_i e
        split at h
        · rename_i hm
          rw [Bool.and_eq_true] at hm
          obtain ⟨d, e1, e2⟩ := Option.map_eq_some_iff.mp h
          subst e2
          have := eq_of_beq hm.1
          subst this
          have he := (cE_ok n X S k.c _ _ e1).pe
          exact ps_imp (ps_expr (pe_bm PySem.F.plainAttrs_list PySem.F.slot_list_append PySem.F.type_list_append mt_append v (pa_cons he pa_nil (star_of hm.2 _ _)) rfl (few1 hm.2 _ _) hl (star_of hm.2 _ _) rfl) rfl) fun D σ H q => app_in q
        · cases h
      · cases h
    · cases h
  · cases h
theorem ps_set2 {i : Nat} {x : Str} {e : Expr} {te : TE} {pos pos' : Pos} (k : CtxB X S C) (h : locOf S x = some i) (he : PE X e te) (hs : swapsWith e (some (.Name x pos')) pos.line X.env = pure false) : PS X (.Assign [.Name x pos'] e pos) (tAsg te (gName i)) := by
  obtain ⟨_, h1, h2⟩ := loc_pg (p := pos') k h
  exact ps_set k.c.nd h1 h2 he hs (.inl (k.fn x))
theorem cAsgN_ok {n : Nat} {y : Str} {e : Expr} {py pos : Pos} {c : CS} (k : CtxB X S C) (h : cAsgN S n y py e = some c) : PS X (.Assign [.Name y py] e pos) (TS' X C c) := by
  unfold cAsgN at h
  split at h
  · rename_i j hj
    split at h
    · rename_i x q m apos cpos
      split at h
      · rename_i i hi
        split at h
        · rename_i hm
          rw [Bool.and_eq_true] at hm
          cases h
          have := eq_of_beq hm.1
          subst this
          exact ps_imp (ps_set2 k hj (pe_bm0 PySem.F.plainAttrs_list PySem.F.slot_list_pop PySem.F.type_list_pop mt_pop (slot_var k.c hi) rfl hm.2) rfl) fun D σ H q => pop_in1 q
        · cases h
      · cases h
    · rename_i elt gs scope cpos
      obtain ⟨d, e1, e2⟩ := Option.map_eq_some_iff.mp h
      subst e2
      have co := cComp_ok k.c (fun X S k => cE_ok n X S k) e1
      have hnm : X.env.kindOf y = S.nm.lookup y := by show X.env.scope.names.lookup y = _; rw [k.c.nm]
      have hb : X.env.blockKind = .function := by unfold Env.blockKind; rw [k.c.kind]; rfl
      by_cases hs : swapB S y py cpos scope = true
      · simp only [swapB, Bool.and_eq_true, Bool.not_eq_true', beq_iff_eq] at hs
        obtain ⟨⟨s1, s2⟩, s3⟩ := hs
        obtain ⟨_, h1, h2⟩ := loc_pg (p := py) k hj
        have hloc : X.env.scope.names.lookup y = some .local := by rw [k.c.nm]; exact s1
        obtain ⟨tg, it, ifs, t, own, x, i, rfl, hp, hbk, be, pi, ib, hh⟩ := co.ex
        have sw : swapsWith (.ListComp elt [⟨tg, it, ifs, 0⟩] scope cpos) (some (.Name y py)) pos.line X.env = pure true := sw_true k.c.kind hloc (by simpa using s2) s3
        rcases hh with ⟨rfl, rfl⟩ | ⟨ce, cc, rfl, itt, rfl⟩
        · exact ps_imp (ps_setLc k.c.c0.calm k.c.nd h1 hloc sw pi be.ok be.g (fun _ _ _ _ _ => pts_nil) ib (hs_of hp _)) fun D σ H q => lc_in be (set_in q)
        · exact ps_imp (ps_setLc k.c.c0.calm k.c.nd h1 hloc sw pi be.ok be.g (fun s H Cc cl fp => pts_one (itt s H Cc cl fp)) ib (hs_of hp _)) fun D σ H q => lcIf_in be (set_in q)
      · refine ps_imp (ps_set2 k hj (co.pe (pos := cpos) k.c) ?_) fun D σ H q => set_in q
        have : swapsWith (.ListComp elt gs scope cpos) (some (.Name y py)) pos.line X.env = pure (X.env.blockKind == .function && X.env.kindOf y == some .local && py.line == cpos.line && !(scope.names.any fun (n, k) => n == y && (k == .local || k == .cell))) := rfl
        rw [this, hb, hnm]
        have hs' : swapB S y py cpos scope = false := by simpa using hs
        unfold swapB at hs'
        have e0 : (ScopeKind.function == ScopeKind.function) = true := rfl
        rw [e0, Bool.true_and, hs']
    · split at h
      · cases h
      · rename_i hc
        obtain ⟨d, e1, e2⟩ := Option.map_eq_some_iff.mp h
        subst e2
        exact ps_imp (ps_set2 k hj (cE_ok n X S k.c _ _ e1).pe (sw_no (by simpa using hc) _ _ _)) fun D σ H q => set_in q
  · cases h
end
end Wc
/- part WcT2 -/
namespace Wc
open PySem PySem.Spec PyProof.Rows L2
def noStar : Expr → Bool
  | .Starred .. => true
  | _ => false
theorem noStar_of {e : Expr} (h : plainE e = true) : noStar e = false := by cases e <;> first | rfl | (simp [plainE] at h)
theorem no_if {α : Type} {b : Bool} {x y : α} (h : b = false) : (if b = true then x else y) = y := by rw [h]; rfl
def nameFn (env : PySem.Env) (l : Nat) : Expr → Option Str
  | .Name id pos => if env.kindOf id == some .local && pos.line == l then some id else none
  | _ => none
theorem sw_storesN {env : PySem.Env} {ts vs : List Expr} {names : List Str} {kt k2 l : Nat} {pt p2 : Pos} (h1 : (!(ts.length == 2 || ts.length == 3) || vs.length != ts.length || env.blockKind != .function) = false) (h2 : vs.any noStar = false)
    (hl : (ts.head?.map (·.pos.line)).getD 0 = l) (h3 : ts.filterMap (nameFn env l) = names) (h4 : (names.length != ts.length || names.eraseDups.length != names.length) = false) (h5 : vs.all (foldedForSure 8) = false) (h6 : vs.all (constantsAlone 8) = false) :
    swappedStores [.Tuple ts kt pt] (.Tuple vs k2 p2) env = pure (some names) := by
  subst hl
  unfold swappedStores
  dsimp only
  refine (no_if h1).trans ((no_if h2).trans ?_)
  generalize hfm : List.filterMap _ ts = nl
  obtain rfl : nl = names := hfm.symm.trans h3
  exact (no_if h4).trans ((no_if h5).trans (no_if h6))
theorem nameF {env : PySem.Env} {x : Str} {p : Pos} {l : Nat} (hx : env.kindOf x = some .local) (hl : p.line = l) : nameFn env l (.Name x p) = some x := by
  show (if env.kindOf x == some .local && p.line == l then some x else none) = some x
  rw [hx, hl]; simp
section
variable {X : Cx} {S : Sc} {C : Orc}
theorem sw_sole {t e : Expr} {l : Nat} {env : PySem.Env} (h : isComp e = false) : swapsWithSole [t] e l env = pure false := sw_no h _ _ _
theorem ixO_ne {N : List Str} {x y : Str} {i j : Nat} (hx : ixO N x = some i) (hy : ixO N y = some j) (h : (x == y) = false) : i ≠ j := fun e => by
  subst e
  have h1 := ixO_at hx
  rw [ixO_at hy] at h1
  cases h1
  simp at h
theorem two_vs {a b : Nat} {vs : List V} (h : [a, b].length = vs.length) : ∃ v w, vs = [v, w] := by
  match vs, h with
  | [v, w], _ => exact ⟨v, w, rfl⟩
theorem three_vs {a b c : Nat} {vs : List V} (h : [a, b, c].length = vs.length) : ∃ u v w, vs = [u, v, w] := by
  match vs, h with
  | [u, v, w], _ => exact ⟨u, v, w, rfl⟩
theorem dup2 {x y : Str} (h : (x == y) = false) : ([x, y].length != 2 || [x, y].eraseDups.length != [x, y].length) = false := by
  have hne : (y == x) = false := by
    rw [beq_eq_false_iff_ne] at h ⊢
    exact Ne.symm h
  have : [x, y].eraseDups = [x, y] := by
    rw [List.eraseDups_cons, List.filter_cons_of_pos (by rw [hne]; rfl), List.filter_nil, List.eraseDups_cons, List.filter_nil, List.eraseDups_nil]
  rw [this]; rfl
theorem dup3 {x y z : Str} (h1 : (x == y) = false) (h2 : (x == z) = false) (h3 : (y == z) = false) : ([x, y, z].length != 3 || [x, y, z].eraseDups.length != [x, y, z].length) = false := by
  have f : ∀ {a b : Str}, (a == b) = false → (!(b == a)) = true := fun {a b} h => by
    have : (b == a) = false := by
      rw [beq_eq_false_iff_ne] at h ⊢
      exact Ne.symm h
    rw [this]; rfl
  have : [x, y, z].eraseDups = [x, y, z] := by
    rw [List.eraseDups_cons, List.filter_cons_of_pos (p := fun b => !b == x) (f h1), List.filter_cons_of_pos (p := fun b => !b == x) (f h2), List.filter_nil, List.eraseDups_cons, List.filter_cons_of_pos (p := fun b => !b == y) (f h3), List.filter_nil, List.eraseDups_cons, List.filter_nil, List.eraseDups_nil]
  rw [this]; rfl
theorem cAsgT_ok {n : Nat} {tg e : Expr} {pos : Pos} {c : CS} (k : CtxB X S C) (h : cAsgT S n tg e = some c) : PS X (.Assign [tg] e pos) (TS' X C c) := by
  have hnm : ∀ y, X.env.kindOf y = S.nm.lookup y := fun y => by show X.env.scope.names.lookup y = _; rw [k.c.nm]
  have hbk : X.env.blockKind = .function := by unfold Env.blockKind; rw [k.c.kind]; rfl
  unfold cAsgT at h
  split at h
  · rename_i x px y py kt pt a b k2 p2
    split at h
    · rename_i i j c1 c2 ex ey ea eb
      split at h
      · rename_i hc
        cases h
        simp only [parB, List.all_cons, List.all_nil, Bool.and_true, Bool.and_eq_true, Bool.not_eq_true', beq_iff_eq] at hc
        obtain ⟨⟨⟨⟨⟨⟨x1, x2⟩, ⟨y1, y2⟩⟩, ⟨pa, pb⟩⟩, f1⟩, f2⟩, hxy⟩ := hc
        have xl : X.env.kindOf x = some .local := (hnm x).trans x1
        have yl : X.env.kindOf y = some .local := (hnm y).trans y1
        have st : swappedStores [.Tuple [.Name x px, .Name y py] kt pt] (.Tuple [a, b] k2 p2) X.env = pure (some [x, y]) :=
          sw_storesN (by rw [hbk]; rfl) (Bool.or_eq_false_iff.mpr ⟨noStar_of pa, Bool.or_eq_false_iff.mpr ⟨noStar_of pb, rfl⟩⟩)
            (l := px.line) rfl (by rw [List.filterMap_cons_some (nameF xl rfl), List.filterMap_cons_some (nameF yl y2)]; rfl)
            (dup2 hxy) (by simpa using f1) (by simpa using f2)
        have hpa : PA X [a, b] (tEvs X.K X.prog X.w C [c1, c2]) := pa_cons' (cE_ok n X S k.c _ _ ea).pe (pa_cons' (cE_ok n X S k.c _ _ eb).pe pa_nil' (star_of pb _ _)) (star_of pa _ _)
        refine ps_imp (ps_par k.c.c0.calm k.c.nd (by rw [k.c.hN]; exact ixO_at ex) (by rw [k.c.hN]; exact ixO_at ey) (ixO_ne ex ey hxy) xl yl hpa st rfl) fun D σ H q => ?_
        obtain ⟨F, r, l, s, en, ev, q⟩ := par_in q
        refine ⟨F, r, l, s, en, ev, fun vs H' F' ft g o hn nd => ?_⟩
        obtain ⟨q1, q2⟩ := q vs H' F' ft g o hn nd
        obtain ⟨v, w, rfl⟩ := two_vs q1
        exact ⟨v, w, rfl, q2⟩
      · cases h
    · cases h
  · rename_i x px y py z pz kt pt a b c0 k2 p2
    split at h
    · rename_i i j l c1 c2 c3 ex ey ez ea eb ec
      split at h
      · rename_i hc
        cases h
        simp only [parB, List.all_cons, List.all_nil, Bool.and_true, Bool.and_eq_true, Bool.not_eq_true', beq_iff_eq] at hc
        obtain ⟨⟨⟨⟨⟨⟨⟨⟨x1, x2⟩, ⟨⟨y1, y2⟩, ⟨z1, z2⟩⟩⟩, ⟨pa, ⟨pb, pc⟩⟩⟩, f1⟩, f2⟩, hxy⟩, hxz⟩, hyz⟩ := hc
        have xl : X.env.kindOf x = some .local := (hnm x).trans x1
        have yl : X.env.kindOf y = some .local := (hnm y).trans y1
        have zl : X.env.kindOf z = some .local := (hnm z).trans z1
        have st : swappedStores [.Tuple [.Name x px, .Name y py, .Name z pz] kt pt] (.Tuple [a, b, c0] k2 p2) X.env = pure (some [x, y, z]) :=
          sw_storesN (by rw [hbk]; rfl) (Bool.or_eq_false_iff.mpr ⟨noStar_of pa, Bool.or_eq_false_iff.mpr ⟨noStar_of pb, Bool.or_eq_false_iff.mpr ⟨noStar_of pc, rfl⟩⟩⟩)
            (l := px.line) rfl (by rw [List.filterMap_cons_some (nameF xl rfl), List.filterMap_cons_some (nameF yl y2), List.filterMap_cons_some (nameF zl z2)]; rfl)
            (dup3 hxy hxz hyz) (by simpa using f1) (by simpa using f2)
        have hpa : PA X [a, b, c0] (tEvs X.K X.prog X.w C [c1, c2, c3]) := pa_cons' (cE_ok n X S k.c _ _ ea).pe (pa_cons' (cE_ok n X S k.c _ _ eb).pe (pa_cons' (cE_ok n X S k.c _ _ ec).pe pa_nil' (star_of pc _ _)) (star_of pb _ _)) (star_of pa _ _)
        refine ps_imp (ps_par3 k.c.c0.calm k.c.nd (by rw [k.c.hN]; exact ixO_at ex) (by rw [k.c.hN]; exact ixO_at ey) (by rw [k.c.hN]; exact ixO_at ez) (ixO_ne ex ey hxy) (ixO_ne ex ez hxz) (ixO_ne ey ez hyz) xl yl zl hpa st rfl) fun D σ H q => ?_
        obtain ⟨F, r, l, s, en, ev, q⟩ := par_in q
        refine ⟨F, r, l, s, en, ev, fun vs H' F' ft g o hn nd => ?_⟩
        obtain ⟨q1, q2⟩ := q vs H' F' ft g o hn nd
        obtain ⟨u, v, w, rfl⟩ := three_vs q1
        exact ⟨u, v, w, rfl, q2⟩
      · cases h
    · cases h
  · rename_i es kt pt _ _
    split at h
    · cases h
    · rename_i hc
      simp only [Bool.or_eq_true, not_or, Bool.not_eq_true] at hc
      split at h
      · rename_i t own c1 et ee
        cases h
        rw [← k.c.hN] at et
        obtain ⟨pg, _, _⟩ := pg_tg k.c.c0.calm k.c.nd k.loc et
        have sts : swappedStores [.Tuple es kt pt] e X.env = pure none := by
          have := hc.2
          cases e <;> first | rfl | (simp [isTup] at this)
        exact ps_imp (ps_asg (cE_ok n X S k.c _ _ ee).pe pg (sw_sole hc.1) sts rfl) fun D σ H q => set_in q
      · cases h
  · cases h
theorem cAsg_ok {n : Nat} {tg e : Expr} {pos : Pos} {c : CS} (k : CtxB X S C) (h : cAsg S n tg e = some c) : PS X (.Assign [tg] e pos) (TS' X C c) := by
  unfold cAsg at h
  split at h
  · exact cAsgN_ok k h
  · rename_i x q kE p
    split at h
    · cases h
    · rename_i hc
      simp only [Bool.or_eq_true, not_or, Bool.not_eq_true, Bool.not_eq_true'] at hc
      have hk : plainE kE = true := by simpa using hc.2
      split at h
      · rename_i i c1 d1 ei ek ee
        cases h
        have ha : ∀ v, assign (.Subscript (.Name x q) kE p) X.env v = (do
            let ov ← holding [v] (eval (.Name x q) X.env)
            let iv ← holding [v, ov] (eval kE X.env)
            standAt p
            holding [v, ov, iv] (setItem ov iv v)
            release [v, ov, iv] []) := fun v => by cases kE <;> first | rfl | (simp [plainE] at hk)
        have sts : swappedStores [.Subscript (.Name x q) kE p] e X.env = pure none := by cases e <;> rfl
        have asn : (assignEach [.Subscript (.Name x q) kE p] X.env).map (·.2) = [assign (.Subscript (.Name x q) kE p) X.env] := rfl
        exact ps_imp (ps_asg (cE_ok n X S k.c _ _ ee).pe (pg_sub (slot_var k.c ei) (cE_ok n X S k.c _ _ ek).pe (set_v k.c.c0) ha) (sw_sole hc.1) sts asn) fun D σ H q => put_in q
      · cases h
  · exact cAsgT_ok k h
theorem pss_all {f : Stmt → Option CS} (hf : ∀ st c, f st = some c → PS X st (TS' X C c)) : ∀ {sts : List Stmt} {cs : List CS}, mapO f sts = some cs → PSs X sts (TSs' X C cs)
  | [], cs, h => by
    simp only [mapO, Option.some.injEq] at h
    subst h
    exact s_nil
  | st :: sts, cs, h => by
    simp only [mapO] at h
    split at h
    · cases h
    · rename_i y ey
      split at h
      · cases h
      · rename_i ys eys
        cases h
        exact s_cons (hf _ _ ey) (pss_all hf eys)
theorem slot_both (k : CtxS X S C) {x : Str} {p : Pos} {c : CE} (h : (slotOf S x).map CE.var = some c) : Both X C (.Name x p) c ∧ ∃ i, c = .var i ∧ PE X (.Name x p) (tVar i) := by
  obtain ⟨i, e1, e2⟩ := Option.map_eq_some_iff.mp h
  subst e2
  refine ⟨cName_ok k ?_, i, rfl, slot_var k e1⟩
  unfold slotOf at e1
  unfold cName
  split at e1
  · rename_i hv; rw [if_pos hv, e1]; rfl
  · cases e1
theorem cBack_ok (k : CtxS X S C) {n : Nat} {e : Expr} {c : CE} (h : cBack S n e = some c) : Both X C e c ∧ ((∀ i, c ≠ .var i) ∨ ∃ i, c = .var i ∧ PE X e (tVar i)) := by
  unfold cBack at h
  split at h
  · obtain ⟨h1, h2⟩ := slot_both k h
    exact ⟨h1, .inr h2⟩
  · split at h
    · split at h
      · rename_i hn
        cases h
        exact ⟨cE_ok n X S k _ _ (by assumption), .inl fun i z => by subst z; simp [notVar] at hn⟩
      · cases h
    · cases h
theorem cOver_ok (k : CtxS X S C) {n : Nat} {tg e : Expr} {c : CE} (h : cOver S n e = some c) : PI X tg e (tIt X.K X.prog X.w C c) ∧ ∀ i, c = .var i → PE X e (tVar i) := by
  unfold cOver at h
  split at h
  · obtain ⟨h1, i, h2, h3⟩ := slot_both k h
    refine ⟨pi_val h1.pe, fun j hj => ?_⟩
    rw [h2] at hj
    cases hj
    exact h3
  · split at h
    · split at h
      · rename_i hn
        cases h
        exact ⟨cIt_ok k (cE_ok n X S k) (by assumption), fun i z => by subst z; simp [notVar] at hn⟩
      · cases h
    · cases h
theorem cS_ok (k : CtxB X S C) : ∀ (n : Nat) (st : Stmt) (c : CS), cS n S st = some c → PS X st (TS' X C c)
  | 0, st, c, h => by simp [cS] at h
  | n + 1, st, c, h => by
    have hE := cE_ok (C := C) n X S k.c
    have hS := cS_ok k n
    unfold cS at h
    split at h
    · exact cMut_ok k h
    · rename_i e p _
      split at h
      · cases h
      · rename_i hc
        obtain ⟨c1, e1, e2⟩ := Option.map_eq_some_iff.mp h
        subst e2
        exact ps_imp (ps_expr (hE _ _ e1).pe (sw_no (by simpa using hc) _ _ _)) fun D σ H q => ex_in q
    · exact cAsg_ok k h
    · split at h
      · rename_i ho
        split at h
        · rename_i x y z ex ey ez
          cases h
          exact ps_imp (ps_if ((hE _ _ ex).pt ho) (pss_all hS ey) (pss_all hS ez)) fun D σ H q => ite_in q
        · cases h
      · cases h
    · split at h
      · rename_i ho
        split at h
        · rename_i x y ex ey
          cases h
          exact ps_imp (ps_while k.own ((hE _ _ ex).pt ho) (pss_all hS ey)) fun D σ H q => whl_in q
        · cases h
      · cases h
    · rename_i tg it b p
      split at h
      · rename_i hp
        split at h
        · rename_i t own x y et ex ey
          cases h
          rw [← k.c.hN] at et
          obtain ⟨pg, _, _⟩ := pg_tg k.c.c0.calm k.c.nd k.loc et
          exact s_for k.own k.c.c0.calm hp (cOver_ok k.c ex).1 (cOver_ok (tg := tg) k.c ex).2 pg (pss_all hS ey)
        · cases h
      · cases h
    · cases h
      exact ps_imp ps_retN fun D σ H q => retN_in q
    · rename_i e p
      obtain ⟨c1, e1, e2⟩ := Option.map_eq_some_iff.mp h
      subst e2
      obtain ⟨b1, b2⟩ := cBack_ok k.c e1
      rcases b2 with b2 | ⟨i, rfl, b2⟩
      · exact ps_imp (ps_ret b1.pe) fun D σ H q => ret_in b2 q
      · exact ps_imp (ps_ret b2) fun D σ H q => retv_in q
    · cases h
end
end Wc
/- part WcU1 -/
namespace Wc
open PySem PySem.Spec PyProof.Rows L2
/-! ### a row's defs, all at once -/
/-- one def: its name, number, parameters, all its names, its text -/
structure Ent where
  x : Str
  id : Nat
  ps : List Str
  N : List Str
  d : He.DefD
abbrev Ent.sc (gl : List (Str × Nat × Nat)) (fr : List Str) (e : Ent) : Sc := ⟨e.N, e.d.scope.names, gl, fr⟩
def deep : Nat := 60
/-- the table says what the text says -/
def Ent.says (gl : List (Str × Nat × Nat)) (fr : List Str) (Φ : Nat → Option FDef) (e : Ent) : Prop :=
  ∃ b, mapO (cS deep (e.sc gl fr)) e.d.body = some b ∧ Φ e.id = some ⟨e.ps.length, e.N.length, b⟩
def Ent.okB (gl : List (Str × Nat × Nat)) (fr : List Str) (e : Ent) : Bool :=
  decide (e.d.scope.kind = .function) && !e.d.scope.isCoroutine && !e.d.scope.isGenerator && decide e.N.Nodup && decide (e.N.take e.ps.length = e.ps) &&
  e.ps.all (fun x => e.d.scope.names.lookup x == some .local || e.d.scope.names.lookup x == some .cell) && e.d.scope.names.all (fun y => !(y.2 == .free)) &&
  e.d.dfl.isEmpty && e.d.kwd.isEmpty && decide (gl.lookup e.x = some (e.id, e.ps.length))
theorem Ent.scope {gl : List (Str × Nat × Nat)} {fr : List Str} {e : Ent} (h : e.okB gl fr = true) : FnScope e.N e.ps e.d.scope := by
  simp only [Ent.okB, Bool.and_eq_true, decide_eq_true_eq, Bool.not_eq_true', List.all_eq_true, Bool.or_eq_true, beq_iff_eq] at h
  obtain ⟨⟨⟨⟨⟨⟨⟨⟨⟨h1, h2⟩, h3⟩, h4⟩, h5⟩, h6⟩, h7⟩, h8⟩, h9⟩, h10⟩ := h
  exact ⟨h1, h2, h3, h4, h5, h6, fun y hy e => by have := h7 y hy; rw [e] at this; simp at this⟩
def BindA (fd : FuncData) (ps : List Str) : Prop := ∀ (s : Shared) (us : List Value), us.length = ps.length → BindsTo s fd ⟨us, []⟩ (ps.zip us)
/-- the facts of one def in a module: its object, and how it binds -/
structure EntK (K : PySem.W.Frag) (mg : Str → Option Value) (e : Ent) : Prop where
  ex : ∃ f fd, mg e.x = some (.ref f) ∧ FunD K e.d.name e.d.qual e.d.params e.d.body e.d.scope [] [] f fd ∧ BindA fd e.ps
theorem start_at {n : Nat} {vs : List PyData} {i m : Nat} {d : PyData} (h : (Wc.start n vs)[i]? = some (some (m, d))) : m = 0 ∧ vs[i]? = some d := by
  unfold Wc.start at h
  by_cases hi : i < vs.length
  · rw [List.getElem?_append_left (by simpa using hi), List.getElem?_map] at h
    cases e : vs[i]? with
    | none => rw [e] at h; cases h
    | some a => rw [e] at h; cases h; exact ⟨rfl, rfl⟩
  · rw [List.getElem?_append_right (by simpa using hi), List.getElem?_replicate] at h
    split at h <;> cases h
theorem frm_start {K : PySem.W.Frag} {P : Program} {w : World} {F H : Hp} {N : List Str} {vs : List V} {ds : List PyData} (s : Sub F H) (r : RepAll K P w F vs ds) (hl : vs.length ≤ N.length) : Frm K P w F H F H (L2.start N vs) (Wc.start N.length ds) (fun _ => []) where
  gr := Grow.refl s
  len := by
    unfold L2.start Wc.start
    have := r.length
    simp [this]
  own := fun i m d h => by
    obtain ⟨rfl, h2⟩ := start_at h
    obtain ⟨v, h3, h4⟩ := r.get h2
    refine ⟨v, ?_, .sh h4 (.inl rfl)⟩
    unfold L2.start
    have hi := (List.getElem?_eq_some_iff.mp h3).1
    rw [List.getElem?_append_left (by simpa using hi), List.getElem?_map, h3]
    rfl
  dead := fun _ _ => rfl
  nd := fun _ => List.nodup_nil
  dj := fun _ _ _ h => absurd h (by simp)
  out := fun _ _ h => absurd h (by simp)
section
variable {P : Program} {w : World} {K : PySem.W.Frag} {mg : Str → Option Value} {base : Heap} {gl : List (Str × Nat × Nat)} {fr : List Str} {Φ : Nat → Option FDef}
/-- a def keeps its promise, if those it calls do -/
theorem ent_ok {e : Ent} {k : Nat} {f : Addr} {fd : FuncData} (hok : e.okB gl fr = true) (hs : e.says gl fr Φ) (F : FunD K e.d.name e.d.qual e.d.params e.d.body e.d.scope [] [] f fd)
    (hgl : ∀ x id n, gl.lookup x = some (id, n) → ∃ f fd ps, mg x = some (.ref f) ∧ PySem.W.keepIn K (.ref f) = true ∧ BindA fd ps ∧ ps.length = n ∧ FnG P w K mg base k f fd ps (spC K P w (callN Φ k) id n)) (hfr : ∀ x ∈ fr, mg x = none) :
    FnG P w K mg base (k + 1) f fd e.ps (spC K P w (callN Φ (k + 1)) e.id e.ps.length) := by
  obtain ⟨oc, od, dV, kV, doc, pm, an, cdv, ct, osl, rfl, lk, hcd, _, _⟩ := F.ex
  have S := Ent.scope hok
  obtain ⟨b, cb, ep⟩ := hs
  refine fn_g lk hcd S (fun vs H Q h => h.1) fun A outer s H vs Q hgd hr hsp => ⟨TSs' (cxOf noX P w K mg base e.N e.d.qual e.d.scope f cdv A outer s H noK) (callN Φ k) b, ?_, ?_⟩
  · have ctx : CtxB (cxOf noX P w K mg base e.N e.d.qual e.d.scope f cdv A outer s H noK) (e.sc gl fr) (callN Φ k) := by
      refine ⟨⟨⟨rfl, ?_, hgd⟩, S.nd, rfl, rfl, S.kind, fun x id n h => ?_, hfr⟩, fun _ => rfl, cxOf_owns⟩
      · have := hr.un
        show (A.deeper _).units + 200 < cLine
        omega
      · obtain ⟨f', fd', ps', h1, h2, h3, h4, h5⟩ := hgl x id n h
        exact ⟨f', fd', ps', k, h1, h2, fun s us _ hl => by rw [List.append_nil] at hl ⊢; exact h3 s us hl, h4, h5, hr⟩
    exact pss_all (fun st c h => cS_ok ctx deep st c h) cb
  · obtain ⟨hl, F0, ds, d, m, sb, rv, ev, q⟩ := hsp
    simp only [callN, ep, runF] at ev
    have hlen : vs.length ≤ e.N.length := by
      have := congrArg List.length S.pre
      rw [List.length_take] at this
      omega
    split at ev
    · split at ev
      · rename_i d' m' e1
        cases ev
        exact ⟨F0, H, F0, _, _, _, frm_start sb rv hlen, e1, fun v H' F' ft _ g o hn nd => q v H' F' ft g o hn nd⟩
      · rename_i r' e1
        cases ev
        exact ⟨F0, H, F0, _, _, _, frm_start sb rv hlen, e1, fun σ' H' F' fs' fr' _ => q .non H' F' [] fr'.gr (.sh .non (.inl rfl)) (fun _ h => absurd h (by simp)) List.nodup_nil⟩
      · cases ev
    · cases ev
/-- every def of the table, to a depth -/
theorem tab_ok (tab : List Ent) (hgl : ∀ x id n, gl.lookup x = some (id, n) → ∃ e ∈ tab, e.x = x ∧ e.id = id ∧ e.ps.length = n) (hok : ∀ e ∈ tab, e.okB gl fr = true) (hs : ∀ e ∈ tab, e.says gl fr Φ) (hK : ∀ e ∈ tab, EntK K mg e) (hfr : ∀ x ∈ fr, mg x = none) :
    ∀ (k : Nat) (x : Str) (id n : Nat), gl.lookup x = some (id, n) → ∃ f fd ps, mg x = some (.ref f) ∧ PySem.W.keepIn K (.ref f) = true ∧ BindA fd ps ∧ ps.length = n ∧ FnG P w K mg base k f fd ps (spC K P w (callN Φ k) id n)
  | 0, x, id, n, h => by
    obtain ⟨e, he, rfl, rfl, rfl⟩ := hgl x id n h
    obtain ⟨f, fd, h1, F, h3⟩ := (hK e he).ex
    refine ⟨f, fd, e.ps, h1, F.kp, h3, rfl, ⟨fun vs H Q q => q.1, fun A outer s H args us vs Q _ _ _ _ _ q => ?_⟩⟩
    obtain ⟨_, _, _, _, _, _, _, ev, _⟩ := q
    simp [callN] at ev
  | k + 1, x, id, n, h => by
    obtain ⟨e, he, rfl, rfl, rfl⟩ := hgl x id n h
    obtain ⟨f, fd, h1, F, h3⟩ := (hK e he).ex
    exact ⟨f, fd, e.ps, h1, F.kp, h3, rfl, ent_ok (hok e he) (hs e he) F (tab_ok tab hgl hok hs hK hfr k) hfr⟩
end
/-! ### the law -/
theorem law_callG {P : Program} {w : World} {K : PySem.W.Frag} {mg mb : Str → Option Value} {k : Nat} {fa a : Addr} {fd : FuncData} {x : Str} {sp : Sp0} {s₁ : Shared} {vs : List Value} {ns : List Int}
    (KX : K.In s₁.heap) (hns : s₁.heap.Ns mainGlobals mg) (hb : s₁.heap.Ns builtinsNs mb) (hbb : ∀ x : Str, x ≠ "__name__" → mb x = bootBuiltins x) (hlim : s₁.heap.NoLimit) (hg : s₁.gens = #[])
    (ha : s₁.heap.get? a = some { cls := .type "list", data := .seq vs.toArray }) (hi : IntsAre vs ns) (hl : ns.length ≤ sizeLine) (hr : Room k callerA)
    (F : ∀ base : Heap, K.In base → base.Ns mainGlobals mg → FnG P w K mg base k fa fd [x] sp) (hbind : BindA fd [x])
    (hsp : ∀ H : Hp, SqL K H a (ns.map V.int) → sp [.ref a] H fun v _ => v = .bl true) :
    codeAny (model P w) callerA (.call (.ref fa) ⟨[.ref a], []⟩) (fun r s' => r = .ok (.ret (.bool true)) ∧ OldK s₁.heap s'.heap ∧ s'.os = s₁.os ∧ AllBare s'.gens) s₁ := by
  have rv := vals_ints hi
  have lenV := hi.length
  have main : ∀ H : Hp, Only H → SqL K H a (ns.map V.int) → HOk P w H s₁.heap → (∀ b, H b ≠ none → b = a ∧ K.lookup a = none) →
      codeAny (model P w) callerA (.call (.ref fa) ⟨[.ref a], []⟩) (fun r s' => r = .ok (.ret (.bool true)) ∧ OldK s₁.heap s'.heap ∧ s'.os = s₁.os ∧ AllBare s'.gens) s₁ := by
    intro H only sq hok one
    have stay : ∀ {b : Addr} {o : Obj}, s₁.heap.get? b = some o → (b = a → False) → (hidT s₁.heap H).get? b = some o := fun {b o} e ne => hidT_get e (by
      cases q : H b with
      | none => rfl
      | some u => exact absurd (one b (by rw [q]; simp)).1 ne)
    have stayNs : ∀ {b : Addr} {m : Str → Option Value}, s₁.heap.Ns b m → (hidT s₁.heap H).Ns b m := by
      rintro b m ⟨o, es, ep, e, d, r⟩
      refine ⟨o, es, ep, stay e fun z => ?_, d, r⟩
      subst z
      rw [ha] at e
      cases e
      exact nomatch d
    have inB : K.In (hidT s₁.heap H) := fun b o e => by
      cases q : H b with
      | none => exact hidT_get (KX b o e) q
      | some u =>
        obtain ⟨rfl, z⟩ := one b (by rw [q]; simp)
        rw [z] at e; cases e
    have hM : Mod K mg (hidT s₁.heap H) := ⟨inB, stayNs hns, ⟨mb, stayNs hb, hbb⟩, let ⟨mc, h1, h2⟩ := hlim; ⟨mc, stayNs h1, h2⟩⟩
    have e0 : Env0 P w K mg (hidT s₁.heap H) callerA [] s₁ H := ⟨rfl, hM, fun b o e => of_hidT e, Nat.le_of_eq (hidT_size _ _), trivial, fun b hb => absurd (show b ∈ ([] : List Addr) from hb) (by simp), hok, .of_eq hg⟩
    refine codeAny_mono ((F _ inB (stayNs hns)).run callerA [] s₁ H ⟨[.ref a], []⟩ [.ref a] [.ref a] _ rfl hr e0 (hbind s₁ [.ref a] rfl) (.cons rfl .nil) (hsp H sq)) fun r s' z => ?_
    cases r with
    | error e => exact False.elim z
    | ok fl =>
      cases fl with
      | ret u =>
        obtain ⟨v, H', os, bare, un, hok', rv', q⟩ := z
        subst q
        obtain rfl : u = Value.bool true := rv'
        refine ⟨rfl, OldK.of_keep fun b o e => ?_, os, bare⟩
        rcases only b with n | ⟨ob, xs, n⟩
        · exact un.keep b o e n (fun z => absurd (show b ∈ ([] : List Addr) from z) (by simp)) (by simp)
        · obtain ⟨e1, _⟩ := hok b _ n
          obtain ⟨e2, _⟩ := hok' b _ (un.frzs b ob _ n)
          rw [e] at e1; cases e1
          exact e2
      | next => exact False.elim z
      | brk => exact False.elim z
      | cont => exact False.elim z
  have sz : vs.toArray.size ≤ sizeLine := by rw [List.size_toArray, lenV]; exact hl
  cases hk : K.lookup a with
  | some o =>
    have e := KX a o hk
    rw [ha] at e
    cases e
    exact main (fun _ => none) (fun _ => .inl rfl) (.inr ⟨_, vs.toArray, _, hk, rfl, rfl, rfl, sz, by simpa using rv⟩) (fun b u z => nomatch (show (none : Option HO) = some u from z)) fun b z => absurd rfl z
  | none =>
    generalize hu : (HO.frz { cls := .type "list", data := .seq vs.toArray } (.lst (ns.map V.int))) = u
    have at1 : upd (fun _ => none) a u a = some u := upd_same
    have off : ∀ b, b ≠ a → upd (fun _ => none) a u b = none := fun b h => upd_ne h
    refine main (upd (fun _ => none) a u) (fun b => ?_) (.inl (.inr ⟨{ cls := .type "list", data := .seq vs.toArray }, by rw [at1, hu]⟩)) (fun b v z => ?_) fun b z => ⟨Decidable.byContradiction fun h => z (off b h), hk⟩
    · by_cases h : b = a
      · subst h; exact .inr ⟨_, _, by rw [at1, ← hu]⟩
      · exact .inl (off b h)
    · by_cases h : b = a
      · subst h
        rw [at1] at z
        cases z
        subst hu
        exact ⟨ha, by rw [List.length_map]; exact hl, vs, _, rv, ha⟩
      · rw [off b h] at z; cases z
/-- a law by its table -/
theorem law_tab {P : Program} {w : World} {K : PySem.W.Frag} {mg mb : Str → Option Value} {k : Nat} {fa a : Addr} {s₁ : Shared} {vs : List Value} {ns : List Int} {gl : List (Str × Nat × Nat)} {fr : List Str} {Φ : Nat → Option FDef} {tab : List Ent} {id m : Nat}
    (KX : K.In s₁.heap) (hns : s₁.heap.Ns mainGlobals mg) (hb : s₁.heap.Ns builtinsNs mb) (hbb : ∀ x : Str, x ≠ "__name__" → mb x = bootBuiltins x) (hlim : s₁.heap.NoLimit) (hg : s₁.gens = #[])
    (ha : s₁.heap.get? a = some { cls := .type "list", data := .seq vs.toArray }) (hi : IntsAre vs ns) (hl : ns.length ≤ sizeLine) (hr : Room k callerA)
    (hgl : ∀ x id n, gl.lookup x = some (id, n) → ∃ e ∈ tab, e.x = x ∧ e.id = id ∧ e.ps.length = n) (hok : ∀ e ∈ tab, e.okB gl fr = true) (hs : ∀ e ∈ tab, e.says gl fr Φ) (hK : ∀ e ∈ tab, EntK K mg e) (hfr : ∀ x ∈ fr, mg x = none)
    (hx : gl.lookup ("law" : Str) = some (id, 1)) (hfa : mg ("law" : Str) = some (.ref fa)) (law : callN Φ k id [mkScr (ns.map .int)] = some (.bool true, m)) :
    codeAny (model P w) callerA (.call (.ref fa) ⟨[.ref a], []⟩) (fun r s' => r = .ok (.ret (.bool true)) ∧ OldK s₁.heap s'.heap ∧ s'.os = s₁.os ∧ AllBare s'.gens) s₁ := by
  obtain ⟨e, he, hex, hid, hn⟩ := hgl _ _ _ hx
  obtain ⟨f0, fd, m1, FD, hbind⟩ := (hK e he).ex
  have hp : ∃ x, e.ps = [x] := by
    match hq : e.ps, hn with
    | [x], _ => exact ⟨x, rfl⟩
  obtain ⟨x, hp⟩ := hp
  rw [hex, hfa] at m1
  cases m1
  refine law_callG (k := k) (x := x) (sp := spC K P w (callN Φ k) id 1) KX hns hb hbb hlim hg ha hi hl hr (fun base _ _ => ?_) (by rw [← hp]; exact hbind) fun H sq => ⟨rfl, H, _, _, _, Sub.refl H, .cons (.scr sq) .nil, law, fun v H' F' ft g o hn nd => ?_⟩
  · cases k with
    | zero => simp [callN] at law
    | succ k =>
      have := ent_ok (P := P) (w := w) (base := base) (k := k) (hok e he) (hs e he) FD (tab_ok tab hgl hok hs hK hfr k) hfr
      rw [hp] at this
      rw [← hid]
      exact this
  · cases o with
    | sh r _ => exact r.bl_inv
end Wc
/- part WcV1 -/
set_option maxHeartbeats 2000000
namespace Wc
open PySem PySem.Spec PyProof.Rows L2
/-- a law walked over its table -/
theorem walk_tab {l : PySem.W.OpenLaw} {n k : Nat} {q : Program} {loose : List Str} {XP : (Str → Option Value) → Heap → Prop} {YP : World → Heap → Prop} {d : DefRec} {gl : List (Str × Nat × Nat)} {fr : List Str} {Φ : Nat → Option FDef} {tab : List Ent} {id : Nat}
    (hn : l.most = some n) (hn2 : n ≤ sizeLine) (hdf : d.params.defaults = []) (hr : Room k callerA) (hname : d.name = ("law" : Str))
    (hgl : ∀ x id n, gl.lookup x = some (id, n) → ∃ e ∈ tab, e.x = x ∧ e.id = id ∧ e.ps.length = n) (hok : ∀ e ∈ tab, e.okB gl fr = true) (hs : ∀ e ∈ tab, e.says gl fr Φ) (hx : gl.lookup ("law" : Str) = some (id, 1))
    (F : ∀ (w : World) (mg : Str → Option Value) (h : Heap), YP w h → h.Ns mainGlobals mg → ∃ K : PySem.W.Frag, K.In h ∧ (∀ e ∈ tab, EntK K mg e) ∧ ∀ x ∈ fr, mg x = none)
    (law : ∀ ns : List Int, ns.length ≤ n → ∃ m, callN Φ k id [mkScr (ns.map .int)] = some (.bool true, m)) :
    PySem.W.WalkO q loose XP YP l.row.toRowW d [] (fun f vs => PySem.call f vs) := by
  refine Att.attach_call hn hdf fun w s₀ s₁ mg mb fa o pm cd doc a vs ns G Y ho hd hcd hmg hobj hints hlen hg => ?_
  obtain ⟨K, KX, hK, hfr⟩ := F w mg _ Y G.T.g
  obtain ⟨m, hlaw⟩ := law ns hlen
  rw [hname] at hmg
  exact law_tab KX G.T.g G.T.b G.T.builtins G.T.nolimit hg hobj hints (Nat.le_trans hlen hn2) hr hgl hok hs hK hfr hx hmg hlaw
/-- the facts of a table, by the head's hook -/
def faOf (tab : List Ent) (fr : List Str) : List He.Fa := tab.map (fun e => .glo e.x) ++ fr.map .free
theorem facts_tab {K : PySem.W.Frag} {h : Heap} {mg : Str → Option Value} {tab : List Ent} {fr : List Str} (X : K.In h) (G : h.Ns mainGlobals mg) (c : He.SaysD (faOf tab fr) (tab.map (·.d)) K)
    (hd : ∀ e ∈ tab, e.d.at_ = (e.x, none) ∧ e.d.dfl = [] ∧ e.d.kwd = [] ∧ ∀ (kV doc pm : Value) (an : Option Addr) (cdv ct : Value) (us : List Value), us.length = e.ps.length → bindArgs (PySem.W.fnOf e.d.name e.d.qual e.d.params e.d.body e.d.scope .none kV doc pm an cdv ct) ⟨us, []⟩ = pure (e.ps.zip us)) :
    (∀ e ∈ tab, EntK K mg e) ∧ ∀ x ∈ fr, mg x = none := by
  refine ⟨fun e he => ?_, fun x hx => ?_⟩
  · obtain ⟨i, hi, ei⟩ := List.mem_iff_getElem.mp he
    have e1 : tab[i]? = some e := by rw [List.getElem?_eq_getElem hi, ei]
    obtain ⟨fd, FD⟩ := c.def_ i (d := e.d) (by rw [List.getElem?_map, e1]; rfl)
    have g1 := He.glo_ok X G (c.fact i (f := .glo e.x) (by
      unfold faOf
      rw [List.getElem?_append_left (by simpa using hi), List.getElem?_map, e1]; rfl))
    obtain ⟨h1, h2, h3, h4⟩ := hd e he
    have h5 : e.d.dvs K = [] := by unfold He.DefD.dvs; rw [h2]; rfl
    have h6 : e.d.kws K = [] := by unfold He.DefD.kws; rw [h3]; rfl
    rw [h1, h5, h6] at FD
    exact ⟨_, fd, g1, FD, fun s us hl => FD.bindsA (ps := e.ps) h4 s us hl⟩
  · obtain ⟨i, hi, ei⟩ := List.mem_iff_getElem.mp hx
    have e1 : fr[i]? = some x := by rw [List.getElem?_eq_getElem hi, ei]
    exact He.free_ok X G (c.fact (tab.length + i) (f := .free x) (by
      unfold faOf
      rw [List.getElem?_append_right (by simp), List.length_map, Nat.add_sub_cancel_left, List.getElem?_map, e1]; rfl))
end Wc
/- part WcD1 -/
namespace Wc
open PySem
/-! ### plain laws: loops, iL -/
theorem forl_all {f : D → Env → Option Out} {I : Nat → Env → Prop} : ∀ (xs : List D) (k : Nat), (∀ i x r, xs[i]? = some x → I (k + i) r → ∃ r', f x r = some (.nx r') ∧ I (k + i + 1) r') → ∀ r, I k r → ∃ r', forl f xs r = some (.nx r') ∧ I (k + xs.length) r'
  | [], k, _, r, h => ⟨r, rfl, h⟩
  | x :: xs, k, st, r, h => by
    obtain ⟨r1, e1, h1⟩ := st 0 x r rfl h
    obtain ⟨r2, e2, h2⟩ := forl_all xs (k + 1) (fun i y r hy hi => by
      have := st (i + 1) y r (by simpa using hy) (by rw [show k + (i + 1) = k + 1 + i by omega]; exact hi)
      rw [show k + (i + 1) + 1 = k + 1 + i + 1 by omega] at this
      exact this) r1 h1
    refine ⟨r2, ?_, by rw [List.length_cons, show k + (xs.length + 1) = k + 1 + xs.length by omega]; exact h2⟩
    simp only [forl, e1]
    exact e2
abbrev iL (l : List Int) : List D := l.map .int
theorem clean_int (m : Nat) (i : Int) : clean m (.int i) = true := by cases m <;> rfl
theorem cleans_iL : ∀ (m : Nat) (l : List Int), cleans m (iL l) = true
  | _, [] => rfl
  | m, i :: l => by simp only [List.map_cons, cleans, clean_int, cleans_iL m l, Bool.and_self]
theorem clean_iL (m : Nat) (l : List Int) : clean (m + 1) (.list (iL l)) = true := by simp only [clean, cleans_iL]
theorem immut_int (i : Int) : immut (.int i) = true := rfl
theorem rngv_iL (a b : Int) : rngv a b = iL ((List.range (b - a).toNat).map fun (i : Nat) => a + (i : Int)) := by
  unfold rngv iL
  rw [List.map_map]; rfl
theorem clean_rngv (m : Nat) (a b : Int) : clean (m + 1) (.list (rngv a b)) = true := by rw [rngv_iL]; exact clean_iL _ _
theorem rngv_len (a b : Int) : (rngv a b).length = (b - a).toNat := by simp [rngv]
theorem rngv_at {a b : Int} {i : Nat} {x : D} (h : (rngv a b)[i]? = some x) : x = .int (a + i) ∧ i < (b - a).toNat := by
  have hi := (List.getElem?_eq_some_iff.mp h).1
  rw [rngv_len] at hi
  unfold rngv at h
  rw [List.getElem?_map, List.getElem?_range hi] at h
  cases h
  exact ⟨rfl, hi⟩
end Wc
/- part WcD2 -/
namespace Wc
open PySem
/-! ### the numbers drawn from a script: as many ints as were asked for -/
def b_draws : List CS := [(.set (.one 2) (.lst [])), (.for (.one 3) (.slc false true (.var 0) (.lit .none) (.lit (.int (63)))) [(.set (.one 5) (.blt .abs [(.blt .int [(.var 3)])])), (.ite (.cmp .ge (.var 5) (.bin .pow (.lit (.int (10))) (.lit (.int (18))))) [(.for (.one 4) (.rng (.lit (.int (0))) (.lit (.int (60)))) [(.ite (.cmp .gt (.var 5) (.lit (.int (0)))) [(.mut 2 [] .append [] (.bin .mod (.var 5) (.lit (.int (1000003))))), (.set (.one 5) (.bin .fdiv (.var 5) (.lit (.int (1000003)))))] [])])] [(.set (.one 6) (.bin .mod (.bin .add (.bin .add (.bin .mul (.var 5) (.lit (.int (48271)))) (.bin .mul (.lit (.int (7))) (.blt .len [(.var 2)]))) (.lit (.int (11)))) (.lit (.int (2147483647))))), (.for (.one 4) (.rng (.lit (.int (0))) (.lit (.int (4)))) [(.set (.one 6) (.bin .mod (.bin .add (.bin .add (.bin .add (.bin .mul (.var 6) (.lit (.int (69621)))) (.bin .fdiv (.var 6) (.lit (.int (65536))))) (.bin .mul (.lit (.int (13))) (.var 4))) (.lit (.int (5)))) (.lit (.int (2147483629))))), (.mut 2 [] .append [] (.bin .mod (.bin .fdiv (.var 6) (.lit (.int (8)))) (.lit (.int (1000003)))))])])]), (.for (.one 4) (.rng (.lit (.int (0))) (.var 1)) [(.ite (.cmp .lt (.blt .len [(.var 2)]) (.var 1)) [(.set (.one 7) (.lit (.int (0)))), (.ite (.cmp .gt (.blt .len [(.var 2)]) (.lit (.int (0)))) [(.set (.one 7) (.idx (.var 2) (.bin .mod (.var 4) (.blt .len [(.var 2)]))))] []), (.mut 2 [] .append [] (.bin .mod (.bin .add (.bin .add (.bin .mul (.var 7) (.lit (.int (16807)))) (.bin .mul (.lit (.int (31))) (.blt .len [(.var 2)]))) (.lit (.int (17)))) (.lit (.int (1000003)))))] [])]), (.ret (.slc false true (.var 2) (.lit .none) (.var 1)))]
def f_draws : FDef := ⟨2, 8, b_draws⟩
/-- while the numbers are drawn: the list so far -/
def DI (s : D) (many : Int) (n : Nat) (r : Env) : Prop := ∃ (l : List Int) (a3 a4 a5 a6 a7 : Option Slot), r = [some (0, s), some (0, .int many), some (9, .list (iL l)), a3, a4, a5, a6, a7] ∧ l.length ≤ n
def DI5 (s : D) (many : Int) (n : Nat) (r : Env) : Prop := ∃ (l : List Int) (a3 a4 a6 a7 : Option Slot) (m : Nat) (v : Int), r = [some (0, s), some (0, .int many), some (9, .list (iL l)), a3, a4, some (m, .int v), a6, a7] ∧ l.length ≤ n
section
variable {C : Orc} {s : D} {many : Int}
theorem app_iL (l : List Int) (v : Int) : iL l ++ [PyData.int v] = iL (l ++ [v]) := by simp
set_option maxHeartbeats 1000000 in
theorem draw_in {l : List Int} {a3 a4 a6 a7 : Option Slot} {m : Nat} {v : Int} (hl : l.length < line) : ∃ r', evSs C [some (0, s), some (0, .int many), some (9, .list (iL l)), a3, a4, some (m, .int v), a6, a7]
    [(.ite (.cmp .gt (.var 5) (.lit (.int (0)))) [(.mut 2 [] .append [] (.bin .mod (.var 5) (.lit (.int (1000003))))), (.set (.one 5) (.bin .fdiv (.var 5) (.lit (.int (1000003)))))] [])] = some (.nx r') ∧ DI5 s many (l.length + 1) r' := by
  by_cases hv : (0 : Int) < v
  · refine ⟨_, ?_, l ++ [v % 1000003], a3, a4, a6, a7, 0, v / 1000003, rfl, by simp⟩
    simp [evSs, evS, evT, evE, evEs, getv, cmpv, ltv, hv, binv, immuts, kept, clean_int, updAt, mutv, hl, inMode, immut, setTg]
  · refine ⟨_, ?_, l, a3, a4, a6, a7, m, v, rfl, by omega⟩
    simp [evSs, evS, evT, evE, evEs, getv, cmpv, ltv, hv]
theorem line_eq' : line = 16777216 := rfl
/-- the sixty turns for a great number -/
theorem draw_great {n : Nat} (hn : n + 60 < line) {r : Env} (h : DI5 s many n r) : ∃ r', evS C r (.for (.one 4) (.rng (.lit (.int (0))) (.lit (.int (60)))) [(.ite (.cmp .gt (.var 5) (.lit (.int (0)))) [(.mut 2 [] .append [] (.bin .mod (.var 5) (.lit (.int (1000003))))), (.set (.one 5) (.bin .fdiv (.var 5) (.lit (.int (1000003)))))] [])]) = some (.nx r') ∧ DI s many (n + 60) r' := by
  have ok : rngOk 0 60 = true := by decide
  have hlen : (rngv 0 60).length = 60 := by rw [rngv_len]; rfl
  obtain ⟨r', e1, e2⟩ := forl_all (f := fun d r => match setTg 0 (.one 4) d r with | some r' => evSs C r' [(.ite (.cmp .gt (.var 5) (.lit (.int (0)))) [(.mut 2 [] .append [] (.bin .mod (.var 5) (.lit (.int (1000003))))), (.set (.one 5) (.bin .fdiv (.var 5) (.lit (.int (1000003)))))] [])] | none => none)
    (I := fun k r => k ≤ 60 ∧ DI5 s many (n + k) r) (rngv 0 60) 0 (fun i x r hx ⟨_, l, a3, a4, a6, a7, m, v, hr, hl⟩ => by
      obtain ⟨_, hi⟩ := rngv_at hx
      have hi60 : i < 60 := hi
      subst hr
      obtain ⟨r1, q1, l1, b3, b4, b6, b7, m1, v1, q2, q3⟩ := draw_in (C := C) (s := s) (many := many) (l := l) (a3 := a3) (a4 := some (0, x)) (a6 := a6) (a7 := a7) (m := m) (v := v) (by omega)
      exact ⟨r1, q1, by omega, l1, b3, b4, b6, b7, m1, v1, q2, by omega⟩) r ⟨by omega, by simpa using h⟩
  rw [hlen] at e2
  obtain ⟨_, l, a3, a4, a6, a7, m, v, hr, hl⟩ := e2
  refine ⟨r', ?_, l, a3, a4, _, a6, a7, hr, by simpa using hl⟩
  simp only [evS, evE, ok, if_true, itemsOf, loose, clean_rngv]
  exact e1
set_option maxHeartbeats 1000000 in
theorem draw_in2 {l : List Int} {a3 a5 a7 : Option Slot} {m6 m4 : Nat} {k v : Int} (hl : l.length < line) : ∃ v', evSs C [some (0, s), some (0, .int many), some (9, .list (iL l)), a3, some (m4, .int k), a5, some (m6, .int v), a7]
    [(.set (.one 6) (.bin .mod (.bin .add (.bin .add (.bin .add (.bin .mul (.var 6) (.lit (.int (69621)))) (.bin .fdiv (.var 6) (.lit (.int (65536))))) (.bin .mul (.lit (.int (13))) (.var 4))) (.lit (.int (5)))) (.lit (.int (2147483629))))), (.mut 2 [] .append [] (.bin .mod (.bin .fdiv (.var 6) (.lit (.int (8)))) (.lit (.int (1000003)))))]
      = some (.nx [some (0, s), some (0, .int many), some (9, .list (iL (l ++ [v' / 8 % 1000003]))), a3, some (m4, .int k), a5, some (0, .int v'), a7]) := by
  have c1 : small 69621 = true := by decide
  have c2 : small 13 = true := by decide
  refine ⟨(v * 69621 + v / 65536 + 13 * k + 5) % 2147483629, ?_⟩
  simp [evSs, evS, evE, evEs, getv, binv, c1, c2, immuts, kept, clean_int, updAt, mutv, hl, inMode, immut, setTg]
def DI6 (s : D) (many : Int) (n : Nat) (r : Env) : Prop := ∃ (l : List Int) (a3 a4 a5 a7 : Option Slot) (m : Nat) (v : Int), r = [some (0, s), some (0, .int many), some (9, .list (iL l)), a3, a4, a5, some (m, .int v), a7] ∧ l.length ≤ n
theorem draw_small {n : Nat} (hn : n + 60 < line) {r : Env} (h : DI6 s many n r) : ∃ r', evS C r (.for (.one 4) (.rng (.lit (.int (0))) (.lit (.int (4)))) [(.set (.one 6) (.bin .mod (.bin .add (.bin .add (.bin .add (.bin .mul (.var 6) (.lit (.int (69621)))) (.bin .fdiv (.var 6) (.lit (.int (65536))))) (.bin .mul (.lit (.int (13))) (.var 4))) (.lit (.int (5)))) (.lit (.int (2147483629))))), (.mut 2 [] .append [] (.bin .mod (.bin .fdiv (.var 6) (.lit (.int (8)))) (.lit (.int (1000003)))))]) = some (.nx r') ∧ DI s many (n + 60) r' := by
  have ok : rngOk 0 4 = true := by decide
  have hlen : (rngv 0 4).length = 4 := by rw [rngv_len]; rfl
  obtain ⟨r', e1, e2⟩ := forl_all (f := fun d r => match setTg 0 (.one 4) d r with | some r' => evSs C r' [(.set (.one 6) (.bin .mod (.bin .add (.bin .add (.bin .add (.bin .mul (.var 6) (.lit (.int (69621)))) (.bin .fdiv (.var 6) (.lit (.int (65536))))) (.bin .mul (.lit (.int (13))) (.var 4))) (.lit (.int (5)))) (.lit (.int (2147483629))))), (.mut 2 [] .append [] (.bin .mod (.bin .fdiv (.var 6) (.lit (.int (8)))) (.lit (.int (1000003)))))] | none => none)
    (I := fun k r => k ≤ 4 ∧ DI6 s many (n + k) r) (rngv 0 4) 0 (fun i x r hx ⟨_, l, a3, a4, a5, a7, m, v, hr, hl⟩ => by
      obtain ⟨hxi, hi⟩ := rngv_at hx
      have hi4 : i < 4 := hi
      subst hr
      subst hxi
      obtain ⟨v', q1⟩ := draw_in2 (C := C) (s := s) (many := many) (l := l) (a3 := a3) (a5 := a5) (a7 := a7) (m6 := m) (m4 := 0) (k := 0 + (i : Int)) (v := v) (by omega)
      exact ⟨_, q1, by omega, _, _, _, _, _, _, _, rfl, by simp; omega⟩) r ⟨by omega, by simpa using h⟩
  rw [hlen] at e2
  obtain ⟨_, l, a3, a4, a5, a7, m, v, hr, hl⟩ := e2
  refine ⟨r', ?_, l, a3, a4, a5, _, a7, hr, by omega⟩
  simp only [evS, evE, ok, if_true, itemsOf, loose, clean_rngv]
  exact e1
theorem evSs_cons {r : Env} {c : CS} {cs : List CS} {r1 : Env} (h : evS C r c = some (.nx r1)) : evSs C r (c :: cs) = evSs C r1 cs := by simp only [evSs, h]
set_option maxHeartbeats 1000000 in
theorem draw_cell {n : Nat} (hn : n + 60 < line) {l : List Int} {a4 a5 a6 a7 : Option Slot} {c : Int} (hl : l.length ≤ n) : ∃ r', evSs C [some (0, s), some (0, .int many), some (9, .list (iL l)), some (0, .int c), a4, a5, a6, a7]
    [(.set (.one 5) (.blt .abs [(.blt .int [(.var 3)])])), (.ite (.cmp .ge (.var 5) (.bin .pow (.lit (.int (10))) (.lit (.int (18))))) [(.for (.one 4) (.rng (.lit (.int (0))) (.lit (.int (60)))) [(.ite (.cmp .gt (.var 5) (.lit (.int (0)))) [(.mut 2 [] .append [] (.bin .mod (.var 5) (.lit (.int (1000003))))), (.set (.one 5) (.bin .fdiv (.var 5) (.lit (.int (1000003)))))] [])])] [(.set (.one 6) (.bin .mod (.bin .add (.bin .add (.bin .mul (.var 5) (.lit (.int (48271)))) (.bin .mul (.lit (.int (7))) (.blt .len [(.var 2)]))) (.lit (.int (11)))) (.lit (.int (2147483647))))), (.for (.one 4) (.rng (.lit (.int (0))) (.lit (.int (4)))) [(.set (.one 6) (.bin .mod (.bin .add (.bin .add (.bin .add (.bin .mul (.var 6) (.lit (.int (69621)))) (.bin .fdiv (.var 6) (.lit (.int (65536))))) (.bin .mul (.lit (.int (13))) (.var 4))) (.lit (.int (5)))) (.lit (.int (2147483629))))), (.mut 2 [] .append [] (.bin .mod (.bin .fdiv (.var 6) (.lit (.int (8)))) (.lit (.int (1000003)))))])])] = some (.nx r') ∧ DI s many (n + 60) r' := by
  have c1 : small 48271 = true := by decide
  have c2 : small 7 = true := by decide
  generalize hv : (if c < 0 then -c else c) = v
  have s1 : evS C [some (0, s), some (0, .int many), some (9, .list (iL l)), some (0, .int c), a4, a5, a6, a7] (.set (.one 5) (.blt .abs [(.blt .int [(.var 3)])])) = some (.nx [some (0, s), some (0, .int many), some (9, .list (iL l)), some (0, .int c), a4, some (0, .int v), a6, a7]) := by
    simp [evS, evE, evEs, getv, bltv, kept, clean_int, setTg, hv]
  rw [evSs_cons s1]
  by_cases h : v < 1000000000000000000
  · have t1 : evT C [some (0, s), some (0, .int many), some (9, .list (iL l)), some (0, .int c), a4, some (0, .int v), a6, a7] (.cmp .ge (.var 5) (.bin .pow (.lit (.int (10))) (.lit (.int (18))))) = some false := by
      simp [evT, evE, getv, binv, cmpv, ltv, h]
    have s2 : evS C [some (0, s), some (0, .int many), some (9, .list (iL l)), some (0, .int c), a4, some (0, .int v), a6, a7] (.set (.one 6) (.bin .mod (.bin .add (.bin .add (.bin .mul (.var 5) (.lit (.int (48271)))) (.bin .mul (.lit (.int (7))) (.blt .len [(.var 2)]))) (.lit (.int (11)))) (.lit (.int (2147483647))))) = some (.nx [some (0, s), some (0, .int many), some (9, .list (iL l)), some (0, .int c), a4, some (0, .int v), some (0, .int ((v * 48271 + 7 * (l.length : Int) + 11) % 2147483647)), a7]) := by
      simp [evS, evE, evEs, getv, binv, bltv, c1, c2, kept, clean_int, setTg]
    obtain ⟨r', q1, q2⟩ := draw_small (C := C) (s := s) (many := many) hn ⟨l, _, _, _, _, _, _, rfl, hl⟩
    refine ⟨r', ?_, q2⟩
    rw [show ∀ (x : CS), evSs C [some (0, s), some (0, .int many), some (9, .list (iL l)), some (0, .int c), a4, some (0, .int v), a6, a7] [x] = (match evS C [some (0, s), some (0, .int many), some (9, .list (iL l)), some (0, .int c), a4, some (0, .int v), a6, a7] x with | some (.nx r') => some (.nx r') | o => o) from fun x => rfl]
    simp only [evS, t1]
    rw [evSs_cons s2, evSs_cons q1]
    rfl
  · have t1 : evT C [some (0, s), some (0, .int many), some (9, .list (iL l)), some (0, .int c), a4, some (0, .int v), a6, a7] (.cmp .ge (.var 5) (.bin .pow (.lit (.int (10))) (.lit (.int (18))))) = some true := by
      simp [evT, evE, getv, binv, cmpv, ltv, h]
    obtain ⟨r', q1, q2⟩ := draw_great (C := C) (s := s) (many := many) hn ⟨l, _, _, _, _, _, _, rfl, hl⟩
    refine ⟨r', ?_, q2⟩
    rw [show ∀ (x : CS), evSs C [some (0, s), some (0, .int many), some (9, .list (iL l)), some (0, .int c), a4, some (0, .int v), a6, a7] [x] = (match evS C [some (0, s), some (0, .int many), some (9, .list (iL l)), some (0, .int c), a4, some (0, .int v), a6, a7] x with | some (.nx r') => some (.nx r') | o => o) from fun x => rfl]
    simp only [evS, t1]
    rw [evSs_cons q1]
    rfl
set_option maxHeartbeats 1000000 in
theorem draw_fill {l : List Int} {a3 a5 a6 a7 : Option Slot} {m : Nat} {k : Int} (hk : 0 ≤ k) (hl : l.length < line) : ∃ r', evSs C [some (0, s), some (0, .int many), some (9, .list (iL l)), a3, some (m, .int k), a5, a6, a7]
    [(.ite (.cmp .lt (.blt .len [(.var 2)]) (.var 1)) [(.set (.one 7) (.lit (.int (0)))), (.ite (.cmp .gt (.blt .len [(.var 2)]) (.lit (.int (0)))) [(.set (.one 7) (.idx (.var 2) (.bin .mod (.var 4) (.blt .len [(.var 2)]))))] []), (.mut 2 [] .append [] (.bin .mod (.bin .add (.bin .add (.bin .mul (.var 7) (.lit (.int (16807)))) (.bin .mul (.lit (.int (31))) (.blt .len [(.var 2)]))) (.lit (.int (17)))) (.lit (.int (1000003)))))] [])] = some (.nx r') ∧ ∃ (l' : List Int) (b7 : Option Slot), r' = [some (0, s), some (0, .int many), some (9, .list (iL l')), a3, some (m, .int k), a5, a6, b7] ∧ l'.length ≤ l.length + 1 ∧ l.length ≤ l'.length ∧ ((l.length : Int) < many → l'.length = l.length + 1) := by
  have c1 : small 16807 = true := by decide
  have c2 : small 31 = true := by decide
  by_cases h : (l.length : Int) < many
  · by_cases h0 : (0 : Int) < (l.length : Int)
    · have hj : 0 ≤ k % (l.length : Int) ∧ k % (l.length : Int) < l.length := ⟨Int.emod_nonneg _ (by omega), Int.emod_lt_of_pos _ h0⟩
      generalize hje : k % (l.length : Int) = j at hj
      have hix : ixZ l.length j = some j.toNat := by unfold ixZ; rw [if_pos hj.1, if_pos hj.2]
      have hjl : j.toNat < l.length := by omega
      have hp : 0 < l.length := by omega
      refine ⟨_, ?_, l ++ [(l[j.toNat] * 16807 + 31 * (l.length : Int) + 17) % 1000003], some (0, .int l[j.toNat]), rfl, by simp, by simp, fun _ => by simp⟩
      simp [evSs, evS, evT, evE, evEs, getv, cmpv, ltv, h, h0, hp, binv, bltv, idxv, hje, hix, hjl, c1, c2, immuts, kept, clean_int, updAt, mutv, hl, inMode, immut, setTg]
    · have h00 : l.length = 0 := by omega
      have hl0 : l = [] := List.length_eq_zero_iff.mp h00
      subst hl0
      refine ⟨_, ?_, [(0 * 16807 + 31 * 0 + 17) % 1000003], some (0, .int 0), rfl, by simp, by simp, fun _ => by simp⟩
      have hm : 0 < many := by simpa using h
      have hl2 : 0 < line := hl
      simp [evSs, evS, evT, evE, evEs, getv, cmpv, ltv, hm, binv, bltv, c1, c2, immuts, kept, clean_int, updAt, mutv, hl2, inMode, immut, setTg]
  · refine ⟨_, ?_, l, a7, rfl, by omega, Nat.le_refl _, fun z => absurd z h⟩
    simp [evSs, evS, evT, evE, evEs, getv, cmpv, ltv, h, bltv]
/-- the whole -/
theorem draws_ok {ns : List Int} (hns : ns.length ≤ 63) (hm : 0 ≤ many) (hm2 : many ≤ 1000) : ∃ l : List Int, runF C f_draws [mkScr (iL ns), .int many] = some (.list (iL l), 1) ∧ l.length = many.toNat := by
  generalize hs : mkScr (iL ns) = s
  have hline := line_eq'
  -- the cells
  have hcut : slcv s .none (.int 63) = some (.list (iL (ns.take (min 63 ns.length))), 1) := by
    subst hs
    show ((cut (iL ns).length .none (.int 63) (iL ns)).map fun l => (PyData.list l, 1)) = _
    simp [cut, sIx, List.map_take]
  obtain ⟨r1, e1, f1⟩ := forl_all (f := fun d r => match setTg 0 (.one 3) d r with | some r' => evSs C r' [(.set (.one 5) (.blt .abs [(.blt .int [(.var 3)])])), (.ite (.cmp .ge (.var 5) (.bin .pow (.lit (.int (10))) (.lit (.int (18))))) [(.for (.one 4) (.rng (.lit (.int (0))) (.lit (.int (60)))) [(.ite (.cmp .gt (.var 5) (.lit (.int (0)))) [(.mut 2 [] .append [] (.bin .mod (.var 5) (.lit (.int (1000003))))), (.set (.one 5) (.bin .fdiv (.var 5) (.lit (.int (1000003)))))] [])])] [(.set (.one 6) (.bin .mod (.bin .add (.bin .add (.bin .mul (.var 5) (.lit (.int (48271)))) (.bin .mul (.lit (.int (7))) (.blt .len [(.var 2)]))) (.lit (.int (11)))) (.lit (.int (2147483647))))), (.for (.one 4) (.rng (.lit (.int (0))) (.lit (.int (4)))) [(.set (.one 6) (.bin .mod (.bin .add (.bin .add (.bin .add (.bin .mul (.var 6) (.lit (.int (69621)))) (.bin .fdiv (.var 6) (.lit (.int (65536))))) (.bin .mul (.lit (.int (13))) (.var 4))) (.lit (.int (5)))) (.lit (.int (2147483629))))), (.mut 2 [] .append [] (.bin .mod (.bin .fdiv (.var 6) (.lit (.int (8)))) (.lit (.int (1000003)))))])])] | none => none) (I := fun k r => k ≤ 63 ∧ DI s many (60 * k) r) (iL (ns.take (min 63 ns.length))) 0
    (fun i x r hx ⟨hk, l, a3, a4, a5, a6, a7, hr, hl⟩ => by
      have hi := (List.getElem?_eq_some_iff.mp hx).1
      have hx2 : ∃ c, x = .int c := by
        rw [List.getElem?_map] at hx
        obtain ⟨c, _, e⟩ := Option.map_eq_some_iff.mp hx
        exact ⟨c, e.symm⟩
      obtain ⟨c, rfl⟩ := hx2
      simp only [List.length_map, List.length_take] at hi
      subst hr
      obtain ⟨r', q1, q2⟩ := draw_cell (C := C) (s := s) (many := many) (n := 60 * (0 + i)) (l := l) (a4 := a4) (a5 := a5) (a6 := a6) (a7 := a7) (c := c) (by omega) hl
      exact ⟨r', q1, by omega, by rw [show 60 * (0 + i + 1) = 60 * (0 + i) + 60 by omega]; exact q2⟩)
    [some (0, s), some (0, .int many), some (9, .list (iL [])), none, none, none, none, none] ⟨by omega, [], _, _, _, _, _, rfl, by simp⟩
  obtain ⟨_, l1, a3, a4, a5, a6, a7, hr1, hl1⟩ := f1
  have hl1' : l1.length ≤ 60 * 63 := by
    simp only [List.length_map, List.length_take] at hl1
    have : min (min 63 ns.length) ns.length ≤ 63 := by omega
    omega
  -- filled up
  have ok : rngOk 0 many = true := by
    simp only [rngOk, Bool.and_eq_true, decide_eq_true_eq]
    refine ⟨⟨⟨by decide, by decide⟩, by omega⟩, by omega⟩
  obtain ⟨r2, e2, f2⟩ := forl_all (f := fun d r => match setTg 0 (.one 4) d r with | some r' => evSs C r' [(.ite (.cmp .lt (.blt .len [(.var 2)]) (.var 1)) [(.set (.one 7) (.lit (.int (0)))), (.ite (.cmp .gt (.blt .len [(.var 2)]) (.lit (.int (0)))) [(.set (.one 7) (.idx (.var 2) (.bin .mod (.var 4) (.blt .len [(.var 2)]))))] []), (.mut 2 [] .append [] (.bin .mod (.bin .add (.bin .add (.bin .mul (.var 7) (.lit (.int (16807)))) (.bin .mul (.lit (.int (31))) (.blt .len [(.var 2)]))) (.lit (.int (17)))) (.lit (.int (1000003)))))] [])] | none => none) (I := fun k r => ∃ (l : List Int) (a4 a7 : Option Slot), r = [some (0, s), some (0, .int many), some (9, .list (iL l)), a3, a4, a5, a6, a7] ∧ l.length ≤ 60 * 63 + k ∧ (k ≤ l.length ∨ many ≤ l.length)) (rngv 0 many) 0
    (fun i x r hx ⟨l, b4, b7, hr, hl, hk⟩ => by
      obtain ⟨hxi, hi⟩ := rngv_at hx
      subst hxi
      subst hr
      obtain ⟨r', q1, l', c7, q2, q3, q4, q5⟩ := draw_fill (C := C) (s := s) (many := many) (l := l) (a3 := a3) (a5 := a5) (a6 := a6) (a7 := b7) (m := 0) (k := 0 + (i : Int)) (by omega) (by omega)
      refine ⟨r', q1, l', _, c7, q2, by omega, ?_⟩
      by_cases h : (l.length : Int) < many
      · have := q5 h; omega
      · omega) r1 ⟨l1, a4, a7, hr1, by omega, .inl (Nat.zero_le _)⟩
  obtain ⟨l2, b4, b7, hr2, hl2, hk2⟩ := f2
  rw [rngv_len] at hk2
  have hfin : many.toNat ≤ l2.length := by omega
  refine ⟨l2.take many.toNat, ?_, by rw [List.length_take]; omega⟩
  have s0 : evS C (start 8 [s, .int many]) (.set (.one 2) (.lst [])) = some (.nx [some (0, s), some (0, .int many), some (9, .list (iL [])), none, none, none, none, none]) := rfl
  have s1 : evS C [some (0, s), some (0, .int many), some (9, .list (iL [])), none, none, none, none, none] (.for (.one 3) (.slc false true (.var 0) (.lit .none) (.lit (.int (63)))) [(.set (.one 5) (.blt .abs [(.blt .int [(.var 3)])])), (.ite (.cmp .ge (.var 5) (.bin .pow (.lit (.int (10))) (.lit (.int (18))))) [(.for (.one 4) (.rng (.lit (.int (0))) (.lit (.int (60)))) [(.ite (.cmp .gt (.var 5) (.lit (.int (0)))) [(.mut 2 [] .append [] (.bin .mod (.var 5) (.lit (.int (1000003))))), (.set (.one 5) (.bin .fdiv (.var 5) (.lit (.int (1000003)))))] [])])] [(.set (.one 6) (.bin .mod (.bin .add (.bin .add (.bin .mul (.var 5) (.lit (.int (48271)))) (.bin .mul (.lit (.int (7))) (.blt .len [(.var 2)]))) (.lit (.int (11)))) (.lit (.int (2147483647))))), (.for (.one 4) (.rng (.lit (.int (0))) (.lit (.int (4)))) [(.set (.one 6) (.bin .mod (.bin .add (.bin .add (.bin .add (.bin .mul (.var 6) (.lit (.int (69621)))) (.bin .fdiv (.var 6) (.lit (.int (65536))))) (.bin .mul (.lit (.int (13))) (.var 4))) (.lit (.int (5)))) (.lit (.int (2147483629))))), (.mut 2 [] .append [] (.bin .mod (.bin .fdiv (.var 6) (.lit (.int (8)))) (.lit (.int (1000003)))))])])]) = some (.nx r1) := by
    have ev : evE C [some (0, s), some (0, .int many), some (9, .list (iL [])), none, none, none, none, none] (.slc false true (.var 0) (.lit .none) (.lit (.int (63)))) = some (.list (iL (ns.take (min 63 ns.length))), 1) := by
      show (if isInt .none = false ∧ isInt (.int 63) = true then slcv s .none (.int 63) else none) = _
      rw [if_pos ⟨rfl, rfl⟩, hcut]
    simp only [evS, ev, itemsOf, loose, clean_iL, if_true]
    exact e1
  have s2 : evS C r1 (.for (.one 4) (.rng (.lit (.int (0))) (.var 1)) [(.ite (.cmp .lt (.blt .len [(.var 2)]) (.var 1)) [(.set (.one 7) (.lit (.int (0)))), (.ite (.cmp .gt (.blt .len [(.var 2)]) (.lit (.int (0)))) [(.set (.one 7) (.idx (.var 2) (.bin .mod (.var 4) (.blt .len [(.var 2)]))))] []), (.mut 2 [] .append [] (.bin .mod (.bin .add (.bin .add (.bin .mul (.var 7) (.lit (.int (16807)))) (.bin .mul (.lit (.int (31))) (.blt .len [(.var 2)]))) (.lit (.int (17)))) (.lit (.int (1000003)))))] [])]) = some (.nx r2) := by
    have ev : evE C r1 (.rng (.lit (.int (0))) (.var 1)) = some (.list (rngv 0 many), 1) := by
      subst hr1
      show (if rngOk 0 many then some (PyData.list (rngv 0 many), 1) else none) = _
      rw [if_pos ok]
    simp only [evS, ev, itemsOf, loose, clean_rngv, if_true]
    exact e2
  have s3 : evS C r2 (.ret (.slc false true (.var 2) (.lit .none) (.var 1))) = some (.rt (.list (iL (l2.take many.toNat))) 1) := by
    have ev : evE C r2 (.slc false true (.var 2) (.lit .none) (.var 1)) = some (.list (iL (l2.take many.toNat)), 1) := by
      subst hr2
      show (if isInt .none = false ∧ isInt (.int many) = true then slcv (.list (iL l2)) .none (.int many) else none) = _
      rw [if_pos ⟨rfl, rfl⟩]
      have hneg : ¬ many < 0 := by omega
      have : min many.toNat l2.length = many.toNat := by omega
      simp [slcv, cut, sIx, hneg, this, List.map_take]
    simp only [evS, ev]
  show (if (2 : Nat) = 2 then (match evSs C (start 8 [s, .int many]) b_draws with | some (.rt d m) => some (d, m) | some (.nx _) => some (.none, 0) | none => none) else none) = _
  rw [if_pos rfl]
  unfold b_draws
  rw [evSs_cons s0, evSs_cons s1, evSs_cons s2]
  simp only [evSs, s3]
end
end Wc
/- part Fk69 -/
namespace K69
open PySem Wc
def b_factorial : List CS := [(.set (.one 1) (.lit (.int (1)))), (.for (.one 2) (.rng (.lit (.int (2))) (.bin .add (.var 0) (.lit (.int (1))))) [(.set (.one 1) (.bin .mul (.var 1) (.var 2)))]), (.ret (.var 1))]
def f_factorial : FDef := ⟨1, 3, b_factorial⟩
def b_raised : List CS := [(.set (.one 2) (.lit (.int (1)))), (.for (.one 3) (.rng (.lit (.int (0))) (.var 1)) [(.set (.one 2) (.bin .mul (.var 2) (.var 0)))]), (.ret (.var 2))]
def f_raised : FDef := ⟨2, 4, b_raised⟩
def b_count_lots : List CS := [(.set (.one 2) (.lst [(.lit (.int (0)))])), (.for (.one 3) (.rng (.lit (.int (1))) (.bin .add (.var 1) (.lit (.int (1))))) [(.set (.one 4) (.bin .mul (.var 3) (.call 1 [(.call 0 [(.var 3)]), (.bin .sub (.var 0) (.lit (.int (1))))]))), (.for (.one 5) (.rng (.lit (.int (1))) (.var 3)) [(.set (.one 4) (.bin .sub (.var 4) (.bin .mul (.call 1 [(.call 0 [(.bin .sub (.var 3) (.var 5))]), (.bin .sub (.var 0) (.lit (.int (1))))]) (.idx (.var 2) (.var 5)))))]), (.mut 2 [] .append [] (.var 4))]), (.ret (.idx (.var 2) (.var 1)))]
def f_count_lots : FDef := ⟨2, 6, b_count_lots⟩
def b__law_draws : List CS := [(.set (.one 2) (.lst [])), (.for (.one 3) (.slc false true (.var 0) (.lit .none) (.lit (.int (63)))) [(.set (.one 5) (.blt .abs [(.blt .int [(.var 3)])])), (.ite (.cmp .ge (.var 5) (.bin .pow (.lit (.int (10))) (.lit (.int (18))))) [(.for (.one 4) (.rng (.lit (.int (0))) (.lit (.int (60)))) [(.ite (.cmp .gt (.var 5) (.lit (.int (0)))) [(.mut 2 [] .append [] (.bin .mod (.var 5) (.lit (.int (1000003))))), (.set (.one 5) (.bin .fdiv (.var 5) (.lit (.int (1000003)))))] [])])] [(.set (.one 6) (.bin .mod (.bin .add (.bin .add (.bin .mul (.var 5) (.lit (.int (48271)))) (.bin .mul (.lit (.int (7))) (.blt .len [(.var 2)]))) (.lit (.int (11)))) (.lit (.int (2147483647))))), (.for (.one 4) (.rng (.lit (.int (0))) (.lit (.int (4)))) [(.set (.one 6) (.bin .mod (.bin .add (.bin .add (.bin .add (.bin .mul (.var 6) (.lit (.int (69621)))) (.bin .fdiv (.var 6) (.lit (.int (65536))))) (.bin .mul (.lit (.int (13))) (.var 4))) (.lit (.int (5)))) (.lit (.int (2147483629))))), (.mut 2 [] .append [] (.bin .mod (.bin .fdiv (.var 6) (.lit (.int (8)))) (.lit (.int (1000003)))))])])]), (.for (.one 4) (.rng (.lit (.int (0))) (.var 1)) [(.ite (.cmp .lt (.blt .len [(.var 2)]) (.var 1)) [(.set (.one 7) (.lit (.int (0)))), (.ite (.cmp .gt (.blt .len [(.var 2)]) (.lit (.int (0)))) [(.set (.one 7) (.idx (.var 2) (.bin .mod (.var 4) (.blt .len [(.var 2)]))))] []), (.mut 2 [] .append [] (.bin .mod (.bin .add (.bin .add (.bin .mul (.var 7) (.lit (.int (16807)))) (.bin .mul (.lit (.int (31))) (.blt .len [(.var 2)]))) (.lit (.int (17)))) (.lit (.int (1000003)))))] [])]), (.ret (.slc false true (.var 2) (.lit .none) (.var 1)))]
def f__law_draws : FDef := ⟨2, 8, b__law_draws⟩
def b__law_is_number : List CS := [(.ret (.and (.isi (.var 0) .int) (.not (.isi (.var 0) .bool))))]
def f__law_is_number : FDef := ⟨1, 1, b__law_is_number⟩
def b__law_signed : List CS := [(.set (.one 1) (.lst [])), (.for (.one 2) (.rng (.lit (.int (1))) (.bin .add (.var 0) (.lit (.int (1))))) [(.set (.one 1) (.bin .add (.var 1) (.lst [(.var 2), (.neg (.var 2))])))]), (.ret (.var 1))]
def f__law_signed : FDef := ⟨1, 3, b__law_signed⟩
def b__law_numbered : List CS := [(.set (.one 3) (.lst [(.var 2)])), (.for (.one 4) (.rng (.lit (.int (0))) (.bin .add (.blt .len [(.var 1)]) (.lit (.int (1))))) [(.ite (.cmp .lt (.var 4) (.blt .len [(.var 3)])) [(.for (.one 7) (.call 5 [(.var 0)]) [(.set (.one 8) (.get1 (.var 1) (.tup [(.idx (.var 3) (.var 4)), (.var 7)]))), (.ite (.and (.isn true (.var 8)) (.cmp .notin (.var 8) (.var 3))) [(.mut 3 [] .append [] (.var 8))] [])])] [])]), (.set (.one 5) (.lst [])), (.for (.many [6, 7]) (.var 1) [(.ite (.cmp .gt (.var 7) (.lit (.int (0)))) [(.mut 5 [] .append [] (.tup [(.index (.var 3) (.var 6)), (.var 7), (.index (.var 3) (.idx (.var 1) (.tup [(.var 6), (.var 7)])))]))] [])]), (.ret (.tup [(.blt .len [(.var 3)]), (.blt .sorted [(.var 5)])]))]
def f__law_numbered : FDef := ⟨3, 9, b__law_numbered⟩
def b__law_deck_track : List CS := [(.set (.one 2) (.dict0 false)), (.for (.one 3) (.rng (.lit (.int (1))) (.bin .add (.var 0) (.lit (.int (1))))) [(.for (.one 4) (.rng (.lit (.int (0))) (.blt .len [(.idx (.var 1) (.lit (.int (0))))])) [(.mut 2 [] .setk [(.tup [(.var 4), (.var 3)])] (.idx (.idx (.var 1) (.bin .sub (.var 3) (.lit (.int (1))))) (.var 4))), (.mut 2 [] .setk [(.tup [(.idx (.idx (.var 1) (.bin .sub (.var 3) (.lit (.int (1))))) (.var 4)), (.neg (.var 3))])] (.var 4))])]), (.ret (.var 2))]
def f__law_deck_track : FDef := ⟨2, 5, b__law_deck_track⟩
def b__law_reached : List CS := [(.set (.one 3) (.lst [(.var 2)])), (.set (.one 4) (.lst [(.var 2)])), (.whl (.cmp .ne (.var 4) (.lst [])) [(.pop (.some 6) 4 .last []), (.for (.one 7) (.call 5 [(.var 0)]) [(.set (.one 8) (.get1 (.var 1) (.tup [(.var 6), (.var 7)]))), (.ite (.and (.isn true (.var 8)) (.cmp .notin (.var 8) (.var 3))) [(.mut 3 [] .append [] (.var 8)), (.mut 4 [] .append [] (.var 8))] [])])]), (.set (.one 5) (.dict0 false)), (.for (.many [6, 7]) (.var 1) [(.ite (.cmp .isin (.var 6) (.var 3)) [(.mut 5 [] .setk [(.tup [(.var 6), (.var 7)])] (.idx (.var 1) (.tup [(.var 6), (.var 7)])))] [])]), (.ret (.var 5))]
def f__law_reached : FDef := ⟨3, 9, b__law_reached⟩
def b__law_factorial : List CS := [(.set (.one 1) (.lit (.int (1)))), (.for (.one 2) (.rng (.lit (.int (1))) (.bin .add (.var 0) (.lit (.int (1))))) [(.set (.one 1) (.bin .mul (.var 1) (.var 2)))]), (.ret (.var 1))]
def f__law_factorial : FDef := ⟨1, 3, b__law_factorial⟩
def b__law_power : List CS := [(.set (.one 2) (.lit (.int (1)))), (.for (.one 3) (.rng (.lit (.int (0))) (.var 1)) [(.set (.one 2) (.bin .mul (.var 2) (.var 0)))]), (.ret (.var 2))]
def f__law_power : FDef := ⟨2, 4, b__law_power⟩
def b__law_due : List CS := [(.set (.one 2) (.lst [(.lit (.int (0)))])), (.for (.one 3) (.rng (.lit (.int (1))) (.bin .add (.var 1) (.lit (.int (1))))) [(.set (.one 4) (.bin .mul (.var 3) (.call 10 [(.call 9 [(.var 3)]), (.bin .sub (.var 0) (.lit (.int (1))))]))), (.for (.one 5) (.rng (.lit (.int (1))) (.var 3)) [(.set (.one 4) (.bin .sub (.var 4) (.bin .mul (.call 10 [(.call 9 [(.bin .sub (.var 3) (.var 5))]), (.bin .sub (.var 0) (.lit (.int (1))))]) (.idx (.var 2) (.var 5)))))]), (.mut 2 [] .append [] (.var 4))]), (.ret (.idx (.var 2) (.var 1)))]
def f__law_due : FDef := ⟨2, 6, b__law_due⟩
def b__law_orders : List CS := [(.set (.one 1) (.lst [(.lst [])])), (.for (.one 2) (.rng (.lit (.int (0))) (.var 0)) [(.set (.one 3) (.lst [])), (.for (.one 4) (.var 1) [(.for (.one 5) (.rng (.lit (.int (0))) (.bin .add (.blt .len [(.var 4)]) (.lit (.int (1))))) [(.mut 3 [] .append [] (.bin .add (.bin .add (.slc false true (.var 4) (.lit .none) (.var 5)) (.lst [(.var 2)])) (.slc true false (.var 4) (.var 5) (.lit .none))))])]), (.set (.one 1) (.var 3))]), (.ret (.var 1))]
def f__law_orders : FDef := ⟨1, 6, b__law_orders⟩
def b__law_searched : List CS := [(.set (.one 2) (.lst [(.lst [])])), (.for (.one 3) (.rng (.lit (.int (0))) (.var 0)) [(.set (.one 7) (.lst [])), (.for (.one 6) (.var 2) [(.set (.one 7) (.bin .add (.var 7) (.lcomp (.one 9) (.bin .add (.var 6) (.lst [(.var 9)])) (.call 12 [(.var 1)]))))]), (.set (.one 2) (.var 7))]), (.set (.one 4) (.dict0 false)), (.set (.one 5) (.lit (.int (0)))), (.for (.one 6) (.var 2) [(.set (.one 8) (.call 6 [(.var 0), (.call 8 [(.var 0), (.call 7 [(.var 0), (.var 6)]), (.lit (.int (0)))]), (.lit (.int (0)))])), (.ite (.cmp .eq (.idx (.var 8) (.lit (.int (0)))) (.var 1)) [(.set (.one 5) (.bin .add (.var 5) (.lit (.int (1))))), (.mut 4 [] .setk [(.blt .repr [(.var 8)])] (.lit (.bool true)))] [])]), (.ret (.tup [(.blt .len [(.var 4)]), (.var 5)]))]
def f__law_searched : FDef := ⟨2, 10, b__law_searched⟩
def b_law : List CS := [(.set (.one 1) (.call 3 [(.var 0), (.lit (.int (6)))])), (.set (.one 2) (.bin .add (.lit (.int (1))) (.bin .mod (.idx (.var 1) (.lit (.int (0)))) (.lit (.int (4)))))), (.for (.one 3) (.lst [(.bin .add (.lit (.int (1))) (.bin .mod (.idx (.var 1) (.lit (.int (1)))) (.lit (.int (12))))), (.lit (.int (1))), (.lit (.int (2))), (.bin .add (.lit (.int (1))) (.bin .mod (.idx (.var 1) (.lit (.int (2)))) (.lit (.int (6)))))]) [(.set (.one 4) (.call 2 [(.var 2), (.var 3)])), (.ite (.or (.not (.call 4 [(.var 4)])) (.or (.cmp .ne (.var 4) (.call 11 [(.var 2), (.var 3)])) (.or (.and (.cmp .eq (.var 2) (.lit (.int (1)))) (.cmp .ne (.var 4) (.lit (.int (1))))) (.cmp .ne (.call 2 [(.var 2), (.var 3)]) (.var 4))))) [(.ret (.lit (.bool false)))] [])]), (.for (.many [2, 3]) (.lst [(.idx (.lst [(.tup [(.lit (.int (1))), (.lit (.int (4)))]), (.tup [(.lit (.int (2))), (.lit (.int (2)))]), (.tup [(.lit (.int (3))), (.lit (.int (2)))]), (.tup [(.lit (.int (1))), (.lit (.int (5)))])]) (.bin .mod (.idx (.var 1) (.lit (.int (3)))) (.lit (.int (4))))), (.idx (.lst [(.tup [(.lit (.int (2))), (.lit (.int (3)))]), (.tup [(.lit (.int (2))), (.lit (.int (1)))]), (.tup [(.lit (.int (4))), (.lit (.int (1)))]), (.tup [(.lit (.int (2))), (.lit (.int (2)))])]) (.bin .mod (.idx (.var 1) (.lit (.int (4)))) (.lit (.int (4)))))]) [(.set (.many [5, 6]) (.call 13 [(.var 2), (.var 3)])), (.ite (.or (.cmp .ne (.call 2 [(.var 2), (.var 3)]) (.var 5)) (.cmp .ne (.bin .mul (.var 5) (.call 9 [(.var 3)])) (.bin .mul (.var 3) (.var 6)))) [(.ret (.lit (.bool false)))] [])]), (.ret (.and (.cmp .eq (.call 2 [(.lit (.int (2))), (.lit (.int (5)))]) (.lit (.int (461)))) (.and (.cmp .eq (.call 2 [(.lit (.int (3))), (.lit (.int (3)))]) (.lit (.int (97)))) (.cmp .eq (.call 2 [(.lit (.int (2))), (.lit (.int (12)))]) (.call 11 [(.lit (.int (2))), (.lit (.int (12)))])))))]
def f_law : FDef := ⟨1, 7, b_law⟩
def phi : Nat → Option FDef
  | 0 => some f_factorial
  | 1 => some f_raised
  | 2 => some f_count_lots
  | 3 => some f__law_draws
  | 4 => some f__law_is_number
  | 5 => some f__law_signed
  | 6 => some f__law_numbered
  | 7 => some f__law_deck_track
  | 8 => some f__law_reached
  | 9 => some f__law_factorial
  | 10 => some f__law_power
  | 11 => some f__law_due
  | 12 => some f__law_orders
  | 13 => some f__law_searched
  | 14 => some f_law
  | _ => none
end K69
/- part K69c -/
namespace K69
open PySem Wc
theorem forl_append {f : D → Wc.Env → Option Out} : ∀ {xs ys : List D} {r r' : Wc.Env}, forl f xs r = some (.nx r') → forl f (xs ++ ys) r = forl f ys r'
  | [], ys, r, r', h => by
    simp only [forl, Option.some.injEq, Out.nx.injEq] at h
    subst h
    rfl
  | x :: xs, ys, r, r', h => by
    simp only [forl, List.cons_append] at h ⊢
    split at h
    · rename_i r1 e1
      exact forl_append h
    · rename_i hne
      exact absurd h (hne r')
abbrev C5 : Orc := callN phi 5
abbrev C6 : Orc := callN phi 6
theorem evSs_parts {C : Orc} : ∀ (n : Nat) (l : List CS) (r : Wc.Env), evSs C r l = (match evSs C r (l.take n) with | some (.nx r') => evSs C r' (l.drop n) | o => o)
  | 0, l, r => rfl
  | n + 1, [], r => rfl
  | n + 1, c :: l, r => by
    simp only [evSs, List.take_succ_cons, List.drop_succ_cons]
    cases evS C r c with
    | none => rfl
    | some o => cases o with
      | nx r' => exact evSs_parts n l r'
      | rt d m => rfl
def B5 : List CS := match b__law_searched.getD 4 CS.retN with | CS.for _ _ b => b | _ => []
def F5 : D → Wc.Env → Option Out := fun d r => match setTg 0 (.one 6) d r with | some r' => evSs C5 r' B5 | none => none
def a_c0 : List D := [.list [.list [.int (4), .int (3), .int (2), .int (1), .int (0)]], .list [.list [.int (3), .int (4), .int (2), .int (1), .int (0)]], .list [.list [.int (3), .int (2), .int (4), .int (1), .int (0)]], .list [.list [.int (3), .int (2), .int (1), .int (4), .int (0)]], .list [.list [.int (3), .int (2), .int (1), .int (0), .int (4)]], .list [.list [.int (4), .int (2), .int (3), .int (1), .int (0)]], .list [.list [.int (2), .int (4), .int (3), .int (1), .int (0)]], .list [.list [.int (2), .int (3), .int (4), .int (1), .int (0)]], .list [.list [.int (2), .int (3), .int (1), .int (4), .int (0)]], .list [.list [.int (2), .int (3), .int (1), .int (0), .int (4)]]]
def a_c1 : List D := [.list [.list [.int (4), .int (2), .int (1), .int (3), .int (0)]], .list [.list [.int (2), .int (4), .int (1), .int (3), .int (0)]], .list [.list [.int (2), .int (1), .int (4), .int (3), .int (0)]], .list [.list [.int (2), .int (1), .int (3), .int (4), .int (0)]], .list [.list [.int (2), .int (1), .int (3), .int (0), .int (4)]], .list [.list [.int (4), .int (2), .int (1), .int (0), .int (3)]], .list [.list [.int (2), .int (4), .int (1), .int (0), .int (3)]], .list [.list [.int (2), .int (1), .int (4), .int (0), .int (3)]], .list [.list [.int (2), .int (1), .int (0), .int (4), .int (3)]], .list [.list [.int (2), .int (1), .int (0), .int (3), .int (4)]]]
def a_c2 : List D := [.list [.list [.int (4), .int (3), .int (1), .int (2), .int (0)]], .list [.list [.int (3), .int (4), .int (1), .int (2), .int (0)]], .list [.list [.int (3), .int (1), .int (4), .int (2), .int (0)]], .list [.list [.int (3), .int (1), .int (2), .int (4), .int (0)]], .list [.list [.int (3), .int (1), .int (2), .int (0), .int (4)]], .list [.list [.int (4), .int (1), .int (3), .int (2), .int (0)]], .list [.list [.int (1), .int (4), .int (3), .int (2), .int (0)]], .list [.list [.int (1), .int (3), .int (4), .int (2), .int (0)]], .list [.list [.int (1), .int (3), .int (2), .int (4), .int (0)]], .list [.list [.int (1), .int (3), .int (2), .int (0), .int (4)]]]
def a_c3 : List D := [.list [.list [.int (4), .int (1), .int (2), .int (3), .int (0)]], .list [.list [.int (1), .int (4), .int (2), .int (3), .int (0)]], .list [.list [.int (1), .int (2), .int (4), .int (3), .int (0)]], .list [.list [.int (1), .int (2), .int (3), .int (4), .int (0)]], .list [.list [.int (1), .int (2), .int (3), .int (0), .int (4)]], .list [.list [.int (4), .int (1), .int (2), .int (0), .int (3)]], .list [.list [.int (1), .int (4), .int (2), .int (0), .int (3)]], .list [.list [.int (1), .int (2), .int (4), .int (0), .int (3)]], .list [.list [.int (1), .int (2), .int (0), .int (4), .int (3)]], .list [.list [.int (1), .int (2), .int (0), .int (3), .int (4)]]]
def a_c4 : List D := [.list [.list [.int (4), .int (3), .int (1), .int (0), .int (2)]], .list [.list [.int (3), .int (4), .int (1), .int (0), .int (2)]], .list [.list [.int (3), .int (1), .int (4), .int (0), .int (2)]], .list [.list [.int (3), .int (1), .int (0), .int (4), .int (2)]], .list [.list [.int (3), .int (1), .int (0), .int (2), .int (4)]], .list [.list [.int (4), .int (1), .int (3), .int (0), .int (2)]], .list [.list [.int (1), .int (4), .int (3), .int (0), .int (2)]], .list [.list [.int (1), .int (3), .int (4), .int (0), .int (2)]], .list [.list [.int (1), .int (3), .int (0), .int (4), .int (2)]], .list [.list [.int (1), .int (3), .int (0), .int (2), .int (4)]]]
def a_c5 : List D := [.list [.list [.int (4), .int (1), .int (0), .int (3), .int (2)]], .list [.list [.int (1), .int (4), .int (0), .int (3), .int (2)]], .list [.list [.int (1), .int (0), .int (4), .int (3), .int (2)]], .list [.list [.int (1), .int (0), .int (3), .int (4), .int (2)]], .list [.list [.int (1), .int (0), .int (3), .int (2), .int (4)]], .list [.list [.int (4), .int (1), .int (0), .int (2), .int (3)]], .list [.list [.int (1), .int (4), .int (0), .int (2), .int (3)]], .list [.list [.int (1), .int (0), .int (4), .int (2), .int (3)]], .list [.list [.int (1), .int (0), .int (2), .int (4), .int (3)]], .list [.list [.int (1), .int (0), .int (2), .int (3), .int (4)]]]
def a_c6 : List D := [.list [.list [.int (4), .int (3), .int (2), .int (0), .int (1)]], .list [.list [.int (3), .int (4), .int (2), .int (0), .int (1)]], .list [.list [.int (3), .int (2), .int (4), .int (0), .int (1)]], .list [.list [.int (3), .int (2), .int (0), .int (4), .int (1)]], .list [.list [.int (3), .int (2), .int (0), .int (1), .int (4)]], .list [.list [.int (4), .int (2), .int (3), .int (0), .int (1)]], .list [.list [.int (2), .int (4), .int (3), .int (0), .int (1)]], .list [.list [.int (2), .int (3), .int (4), .int (0), .int (1)]], .list [.list [.int (2), .int (3), .int (0), .int (4), .int (1)]], .list [.list [.int (2), .int (3), .int (0), .int (1), .int (4)]]]
def a_c7 : List D := [.list [.list [.int (4), .int (2), .int (0), .int (3), .int (1)]], .list [.list [.int (2), .int (4), .int (0), .int (3), .int (1)]], .list [.list [.int (2), .int (0), .int (4), .int (3), .int (1)]], .list [.list [.int (2), .int (0), .int (3), .int (4), .int (1)]], .list [.list [.int (2), .int (0), .int (3), .int (1), .int (4)]], .list [.list [.int (4), .int (2), .int (0), .int (1), .int (3)]], .list [.list [.int (2), .int (4), .int (0), .int (1), .int (3)]], .list [.list [.int (2), .int (0), .int (4), .int (1), .int (3)]], .list [.list [.int (2), .int (0), .int (1), .int (4), .int (3)]], .list [.list [.int (2), .int (0), .int (1), .int (3), .int (4)]]]
def a_c8 : List D := [.list [.list [.int (4), .int (3), .int (0), .int (2), .int (1)]], .list [.list [.int (3), .int (4), .int (0), .int (2), .int (1)]], .list [.list [.int (3), .int (0), .int (4), .int (2), .int (1)]], .list [.list [.int (3), .int (0), .int (2), .int (4), .int (1)]], .list [.list [.int (3), .int (0), .int (2), .int (1), .int (4)]], .list [.list [.int (4), .int (0), .int (3), .int (2), .int (1)]], .list [.list [.int (0), .int (4), .int (3), .int (2), .int (1)]], .list [.list [.int (0), .int (3), .int (4), .int (2), .int (1)]], .list [.list [.int (0), .int (3), .int (2), .int (4), .int (1)]], .list [.list [.int (0), .int (3), .int (2), .int (1), .int (4)]]]
def a_c9 : List D := [.list [.list [.int (4), .int (0), .int (2), .int (3), .int (1)]], .list [.list [.int (0), .int (4), .int (2), .int (3), .int (1)]], .list [.list [.int (0), .int (2), .int (4), .int (3), .int (1)]], .list [.list [.int (0), .int (2), .int (3), .int (4), .int (1)]], .list [.list [.int (0), .int (2), .int (3), .int (1), .int (4)]], .list [.list [.int (4), .int (0), .int (2), .int (1), .int (3)]], .list [.list [.int (0), .int (4), .int (2), .int (1), .int (3)]], .list [.list [.int (0), .int (2), .int (4), .int (1), .int (3)]], .list [.list [.int (0), .int (2), .int (1), .int (4), .int (3)]], .list [.list [.int (0), .int (2), .int (1), .int (3), .int (4)]]]
def a_c10 : List D := [.list [.list [.int (4), .int (3), .int (0), .int (1), .int (2)]], .list [.list [.int (3), .int (4), .int (0), .int (1), .int (2)]], .list [.list [.int (3), .int (0), .int (4), .int (1), .int (2)]], .list [.list [.int (3), .int (0), .int (1), .int (4), .int (2)]], .list [.list [.int (3), .int (0), .int (1), .int (2), .int (4)]], .list [.list [.int (4), .int (0), .int (3), .int (1), .int (2)]], .list [.list [.int (0), .int (4), .int (3), .int (1), .int (2)]], .list [.list [.int (0), .int (3), .int (4), .int (1), .int (2)]], .list [.list [.int (0), .int (3), .int (1), .int (4), .int (2)]], .list [.list [.int (0), .int (3), .int (1), .int (2), .int (4)]]]
def a_c11 : List D := [.list [.list [.int (4), .int (0), .int (1), .int (3), .int (2)]], .list [.list [.int (0), .int (4), .int (1), .int (3), .int (2)]], .list [.list [.int (0), .int (1), .int (4), .int (3), .int (2)]], .list [.list [.int (0), .int (1), .int (3), .int (4), .int (2)]], .list [.list [.int (0), .int (1), .int (3), .int (2), .int (4)]], .list [.list [.int (4), .int (0), .int (1), .int (2), .int (3)]], .list [.list [.int (0), .int (4), .int (1), .int (2), .int (3)]], .list [.list [.int (0), .int (1), .int (4), .int (2), .int (3)]], .list [.list [.int (0), .int (1), .int (2), .int (4), .int (3)]], .list [.list [.int (0), .int (1), .int (2), .int (3), .int (4)]]]
def a_all : List D := a_c0 ++ (a_c1 ++ (a_c2 ++ (a_c3 ++ (a_c4 ++ (a_c5 ++ (a_c6 ++ (a_c7 ++ (a_c8 ++ (a_c9 ++ (a_c10 ++ (a_c11)))))))))))
theorem a_t0 (a2 a3 a6 a7 a8 a9 : Option Slot) : forl F5 a_c0 [some (0, .int 1), some (0, .int 5), a2, a3, some (9, .dict []), some (0, .int (0)), a6, a7, a8, a9] = some (.nx [some (0, .int 1), some (0, .int 5), a2, a3, some (9, .dict [(.str "(5, [(0, 1, 1), (1, 1, 3), (2, 1, 0), (3, 1, 4), (4, 1, 2)])", .bool true)]), some (0, .int (3)), some (0, .list [.list [.int (2), .int (3), .int (1), .int (0), .int (4)]]), a7, some (2, .tuple [.int (4), .list [.tuple [.int (0), .int (1), .int (1)], .tuple [.int (1), .int (1), .int (3)], .tuple [.int (2), .int (1), .int (0)], .tuple [.int (3), .int (1), .int (2)]]]), a9]) := by kernel_rfl
theorem a_t1 (a2 a3 a6 a7 a8 a9 : Option Slot) : forl F5 a_c1 [some (0, .int 1), some (0, .int 5), a2, a3, some (9, .dict [(.str "(5, [(0, 1, 1), (1, 1, 3), (2, 1, 0), (3, 1, 4), (4, 1, 2)])", .bool true)]), some (0, .int (3)), a6, a7, a8, a9] = some (.nx [some (0, .int 1), some (0, .int 5), a2, a3, some (9, .dict [(.str "(5, [(0, 1, 1), (1, 1, 3), (2, 1, 0), (3, 1, 4), (4, 1, 2)])", .bool true)]), some (0, .int (4)), some (0, .list [.list [.int (2), .int (1), .int (0), .int (3), .int (4)]]), a7, some (2, .tuple [.int (2), .list [.tuple [.int (0), .int (1), .int (1)], .tuple [.int (1), .int (1), .int (0)]]]), a9]) := by kernel_rfl
theorem a_t2 (a2 a3 a6 a7 a8 a9 : Option Slot) : forl F5 a_c2 [some (0, .int 1), some (0, .int 5), a2, a3, some (9, .dict [(.str "(5, [(0, 1, 1), (1, 1, 3), (2, 1, 0), (3, 1, 4), (4, 1, 2)])", .bool true)]), some (0, .int (4)), a6, a7, a8, a9] = some (.nx [some (0, .int 1), some (0, .int 5), a2, a3, some (9, .dict [(.str "(5, [(0, 1, 1), (1, 1, 3), (2, 1, 0), (3, 1, 4), (4, 1, 2)])", .bool true)]), some (0, .int (6)), some (0, .list [.list [.int (1), .int (3), .int (2), .int (0), .int (4)]]), a7, some (2, .tuple [.int (3), .list [.tuple [.int (0), .int (1), .int (1)], .tuple [.int (1), .int (1), .int (2)], .tuple [.int (2), .int (1), .int (0)]]]), a9]) := by kernel_rfl
theorem a_t3 (a2 a3 a6 a7 a8 a9 : Option Slot) : forl F5 a_c3 [some (0, .int 1), some (0, .int 5), a2, a3, some (9, .dict [(.str "(5, [(0, 1, 1), (1, 1, 3), (2, 1, 0), (3, 1, 4), (4, 1, 2)])", .bool true)]), some (0, .int (6)), a6, a7, a8, a9] = some (.nx [some (0, .int 1), some (0, .int 5), a2, a3, some (9, .dict [(.str "(5, [(0, 1, 1), (1, 1, 3), (2, 1, 0), (3, 1, 4), (4, 1, 2)])", .bool true)]), some (0, .int (8)), some (0, .list [.list [.int (1), .int (2), .int (0), .int (3), .int (4)]]), a7, some (2, .tuple [.int (3), .list [.tuple [.int (0), .int (1), .int (1)], .tuple [.int (1), .int (1), .int (2)], .tuple [.int (2), .int (1), .int (0)]]]), a9]) := by kernel_rfl
theorem a_t4 (a2 a3 a6 a7 a8 a9 : Option Slot) : forl F5 a_c4 [some (0, .int 1), some (0, .int 5), a2, a3, some (9, .dict [(.str "(5, [(0, 1, 1), (1, 1, 3), (2, 1, 0), (3, 1, 4), (4, 1, 2)])", .bool true)]), some (0, .int (8)), a6, a7, a8, a9] = some (.nx [some (0, .int 1), some (0, .int 5), a2, a3, some (9, .dict [(.str "(5, [(0, 1, 1), (1, 1, 3), (2, 1, 0), (3, 1, 4), (4, 1, 2)])", .bool true)]), some (0, .int (11)), some (0, .list [.list [.int (1), .int (3), .int (0), .int (2), .int (4)]]), a7, some (2, .tuple [.int (4), .list [.tuple [.int (0), .int (1), .int (1)], .tuple [.int (1), .int (1), .int (3)], .tuple [.int (2), .int (1), .int (0)], .tuple [.int (3), .int (1), .int (2)]]]), a9]) := by kernel_rfl
theorem a_t5 (a2 a3 a6 a7 a8 a9 : Option Slot) : forl F5 a_c5 [some (0, .int 1), some (0, .int 5), a2, a3, some (9, .dict [(.str "(5, [(0, 1, 1), (1, 1, 3), (2, 1, 0), (3, 1, 4), (4, 1, 2)])", .bool true)]), some (0, .int (11)), a6, a7, a8, a9] = some (.nx [some (0, .int 1), some (0, .int 5), a2, a3, some (9, .dict [(.str "(5, [(0, 1, 1), (1, 1, 3), (2, 1, 0), (3, 1, 4), (4, 1, 2)])", .bool true)]), some (0, .int (12)), some (0, .list [.list [.int (1), .int (0), .int (2), .int (3), .int (4)]]), a7, some (2, .tuple [.int (2), .list [.tuple [.int (0), .int (1), .int (1)], .tuple [.int (1), .int (1), .int (0)]]]), a9]) := by kernel_rfl
theorem a_t6 (a2 a3 a6 a7 a8 a9 : Option Slot) : forl F5 a_c6 [some (0, .int 1), some (0, .int 5), a2, a3, some (9, .dict [(.str "(5, [(0, 1, 1), (1, 1, 3), (2, 1, 0), (3, 1, 4), (4, 1, 2)])", .bool true)]), some (0, .int (12)), a6, a7, a8, a9] = some (.nx [some (0, .int 1), some (0, .int 5), a2, a3, some (9, .dict [(.str "(5, [(0, 1, 1), (1, 1, 3), (2, 1, 0), (3, 1, 4), (4, 1, 2)])", .bool true)]), some (0, .int (15)), some (0, .list [.list [.int (2), .int (3), .int (0), .int (1), .int (4)]]), a7, some (2, .tuple [.int (2), .list [.tuple [.int (0), .int (1), .int (1)], .tuple [.int (1), .int (1), .int (0)]]]), a9]) := by kernel_rfl
theorem a_t7 (a2 a3 a6 a7 a8 a9 : Option Slot) : forl F5 a_c7 [some (0, .int 1), some (0, .int 5), a2, a3, some (9, .dict [(.str "(5, [(0, 1, 1), (1, 1, 3), (2, 1, 0), (3, 1, 4), (4, 1, 2)])", .bool true)]), some (0, .int (15)), a6, a7, a8, a9] = some (.nx [some (0, .int 1), some (0, .int 5), a2, a3, some (9, .dict [(.str "(5, [(0, 1, 1), (1, 1, 3), (2, 1, 0), (3, 1, 4), (4, 1, 2)])", .bool true)]), some (0, .int (18)), some (0, .list [.list [.int (2), .int (0), .int (1), .int (3), .int (4)]]), a7, some (2, .tuple [.int (3), .list [.tuple [.int (0), .int (1), .int (1)], .tuple [.int (1), .int (1), .int (2)], .tuple [.int (2), .int (1), .int (0)]]]), a9]) := by kernel_rfl
theorem a_t8 (a2 a3 a6 a7 a8 a9 : Option Slot) : forl F5 a_c8 [some (0, .int 1), some (0, .int 5), a2, a3, some (9, .dict [(.str "(5, [(0, 1, 1), (1, 1, 3), (2, 1, 0), (3, 1, 4), (4, 1, 2)])", .bool true)]), some (0, .int (18)), a6, a7, a8, a9] = some (.nx [some (0, .int 1), some (0, .int 5), a2, a3, some (9, .dict [(.str "(5, [(0, 1, 1), (1, 1, 3), (2, 1, 0), (3, 1, 4), (4, 1, 2)])", .bool true)]), some (0, .int (20)), some (0, .list [.list [.int (0), .int (3), .int (2), .int (1), .int (4)]]), a7, some (2, .tuple [.int (1), .list [.tuple [.int (0), .int (1), .int (0)]]]), a9]) := by kernel_rfl
theorem a_t9 (a2 a3 a6 a7 a8 a9 : Option Slot) : forl F5 a_c9 [some (0, .int 1), some (0, .int 5), a2, a3, some (9, .dict [(.str "(5, [(0, 1, 1), (1, 1, 3), (2, 1, 0), (3, 1, 4), (4, 1, 2)])", .bool true)]), some (0, .int (20)), a6, a7, a8, a9] = some (.nx [some (0, .int 1), some (0, .int 5), a2, a3, some (9, .dict [(.str "(5, [(0, 1, 1), (1, 1, 3), (2, 1, 0), (3, 1, 4), (4, 1, 2)])", .bool true)]), some (0, .int (20)), some (0, .list [.list [.int (0), .int (2), .int (1), .int (3), .int (4)]]), a7, some (2, .tuple [.int (1), .list [.tuple [.int (0), .int (1), .int (0)]]]), a9]) := by kernel_rfl
theorem a_t10 (a2 a3 a6 a7 a8 a9 : Option Slot) : forl F5 a_c10 [some (0, .int 1), some (0, .int 5), a2, a3, some (9, .dict [(.str "(5, [(0, 1, 1), (1, 1, 3), (2, 1, 0), (3, 1, 4), (4, 1, 2)])", .bool true)]), some (0, .int (20)), a6, a7, a8, a9] = some (.nx [some (0, .int 1), some (0, .int 5), a2, a3, some (9, .dict [(.str "(5, [(0, 1, 1), (1, 1, 3), (2, 1, 0), (3, 1, 4), (4, 1, 2)])", .bool true)]), some (0, .int (23)), some (0, .list [.list [.int (0), .int (3), .int (1), .int (2), .int (4)]]), a7, some (2, .tuple [.int (1), .list [.tuple [.int (0), .int (1), .int (0)]]]), a9]) := by kernel_rfl
theorem a_t11 (a2 a3 a6 a7 a8 a9 : Option Slot) : forl F5 a_c11 [some (0, .int 1), some (0, .int 5), a2, a3, some (9, .dict [(.str "(5, [(0, 1, 1), (1, 1, 3), (2, 1, 0), (3, 1, 4), (4, 1, 2)])", .bool true)]), some (0, .int (23)), a6, a7, a8, a9] = some (.nx [some (0, .int 1), some (0, .int 5), a2, a3, some (9, .dict [(.str "(5, [(0, 1, 1), (1, 1, 3), (2, 1, 0), (3, 1, 4), (4, 1, 2)])", .bool true)]), some (0, .int (24)), some (0, .list [.list [.int (0), .int (1), .int (2), .int (3), .int (4)]]), a7, some (2, .tuple [.int (1), .list [.tuple [.int (0), .int (1), .int (0)]]]), a9]) := by kernel_rfl
theorem a_walk (a2 a3 a6 a7 a8 a9 : Option Slot) : forl F5 a_all [some (0, .int 1), some (0, .int 5), a2, a3, some (9, .dict []), some (0, .int (0)), a6, a7, a8, a9] = some (.nx [some (0, .int 1), some (0, .int 5), a2, a3, some (9, .dict [(.str "(5, [(0, 1, 1), (1, 1, 3), (2, 1, 0), (3, 1, 4), (4, 1, 2)])", .bool true)]), some (0, .int (24)), some (0, .list [.list [.int (0), .int (1), .int (2), .int (3), .int (4)]]), a7, some (2, .tuple [.int (1), .list [.tuple [.int (0), .int (1), .int (0)]]]), a9]) := by
  unfold a_all
  rw [forl_append (a_t0 _ _ _ _ _ _)]
  rw [forl_append (a_t1 _ _ _ _ _ _)]
  rw [forl_append (a_t2 _ _ _ _ _ _)]
  rw [forl_append (a_t3 _ _ _ _ _ _)]
  rw [forl_append (a_t4 _ _ _ _ _ _)]
  rw [forl_append (a_t5 _ _ _ _ _ _)]
  rw [forl_append (a_t6 _ _ _ _ _ _)]
  rw [forl_append (a_t7 _ _ _ _ _ _)]
  rw [forl_append (a_t8 _ _ _ _ _ _)]
  rw [forl_append (a_t9 _ _ _ _ _ _)]
  rw [forl_append (a_t10 _ _ _ _ _ _)]
  exact a_t11 _ _ _ _ _ _
theorem a_pre : evSs C5 (start 10 [.int 1, .int 5]) (b__law_searched.take 4) = some (.nx [some (0, .int (1)), some (0, .int (5)), some (0, .list [.list [.list [.int (4), .int (3), .int (2), .int (1), .int (0)]], .list [.list [.int (3), .int (4), .int (2), .int (1), .int (0)]], .list [.list [.int (3), .int (2), .int (4), .int (1), .int (0)]], .list [.list [.int (3), .int (2), .int (1), .int (4), .int (0)]], .list [.list [.int (3), .int (2), .int (1), .int (0), .int (4)]], .list [.list [.int (4), .int (2), .int (3), .int (1), .int (0)]], .list [.list [.int (2), .int (4), .int (3), .int (1), .int (0)]], .list [.list [.int (2), .int (3), .int (4), .int (1), .int (0)]], .list [.list [.int (2), .int (3), .int (1), .int (4), .int (0)]], .list [.list [.int (2), .int (3), .int (1), .int (0), .int (4)]], .list [.list [.int (4), .int (2), .int (1), .int (3), .int (0)]], .list [.list [.int (2), .int (4), .int (1), .int (3), .int (0)]], .list [.list [.int (2), .int (1), .int (4), .int (3), .int (0)]], .list [.list [.int (2), .int (1), .int (3), .int (4), .int (0)]], .list [.list [.int (2), .int (1), .int (3), .int (0), .int (4)]], .list [.list [.int (4), .int (2), .int (1), .int (0), .int (3)]], .list [.list [.int (2), .int (4), .int (1), .int (0), .int (3)]], .list [.list [.int (2), .int (1), .int (4), .int (0), .int (3)]], .list [.list [.int (2), .int (1), .int (0), .int (4), .int (3)]], .list [.list [.int (2), .int (1), .int (0), .int (3), .int (4)]], .list [.list [.int (4), .int (3), .int (1), .int (2), .int (0)]], .list [.list [.int (3), .int (4), .int (1), .int (2), .int (0)]], .list [.list [.int (3), .int (1), .int (4), .int (2), .int (0)]], .list [.list [.int (3), .int (1), .int (2), .int (4), .int (0)]], .list [.list [.int (3), .int (1), .int (2), .int (0), .int (4)]], .list [.list [.int (4), .int (1), .int (3), .int (2), .int (0)]], .list [.list [.int (1), .int (4), .int (3), .int (2), .int (0)]], .list [.list [.int (1), .int (3), .int (4), .int (2), .int (0)]], .list [.list [.int (1), .int (3), .int (2), .int (4), .int (0)]], .list [.list [.int (1), .int (3), .int (2), .int (0), .int (4)]], .list [.list [.int (4), .int (1), .int (2), .int (3), .int (0)]], .list [.list [.int (1), .int (4), .int (2), .int (3), .int (0)]], .list [.list [.int (1), .int (2), .int (4), .int (3), .int (0)]], .list [.list [.int (1), .int (2), .int (3), .int (4), .int (0)]], .list [.list [.int (1), .int (2), .int (3), .int (0), .int (4)]], .list [.list [.int (4), .int (1), .int (2), .int (0), .int (3)]], .list [.list [.int (1), .int (4), .int (2), .int (0), .int (3)]], .list [.list [.int (1), .int (2), .int (4), .int (0), .int (3)]], .list [.list [.int (1), .int (2), .int (0), .int (4), .int (3)]], .list [.list [.int (1), .int (2), .int (0), .int (3), .int (4)]], .list [.list [.int (4), .int (3), .int (1), .int (0), .int (2)]], .list [.list [.int (3), .int (4), .int (1), .int (0), .int (2)]], .list [.list [.int (3), .int (1), .int (4), .int (0), .int (2)]], .list [.list [.int (3), .int (1), .int (0), .int (4), .int (2)]], .list [.list [.int (3), .int (1), .int (0), .int (2), .int (4)]], .list [.list [.int (4), .int (1), .int (3), .int (0), .int (2)]], .list [.list [.int (1), .int (4), .int (3), .int (0), .int (2)]], .list [.list [.int (1), .int (3), .int (4), .int (0), .int (2)]], .list [.list [.int (1), .int (3), .int (0), .int (4), .int (2)]], .list [.list [.int (1), .int (3), .int (0), .int (2), .int (4)]], .list [.list [.int (4), .int (1), .int (0), .int (3), .int (2)]], .list [.list [.int (1), .int (4), .int (0), .int (3), .int (2)]], .list [.list [.int (1), .int (0), .int (4), .int (3), .int (2)]], .list [.list [.int (1), .int (0), .int (3), .int (4), .int (2)]], .list [.list [.int (1), .int (0), .int (3), .int (2), .int (4)]], .list [.list [.int (4), .int (1), .int (0), .int (2), .int (3)]], .list [.list [.int (1), .int (4), .int (0), .int (2), .int (3)]], .list [.list [.int (1), .int (0), .int (4), .int (2), .int (3)]], .list [.list [.int (1), .int (0), .int (2), .int (4), .int (3)]], .list [.list [.int (1), .int (0), .int (2), .int (3), .int (4)]], .list [.list [.int (4), .int (3), .int (2), .int (0), .int (1)]], .list [.list [.int (3), .int (4), .int (2), .int (0), .int (1)]], .list [.list [.int (3), .int (2), .int (4), .int (0), .int (1)]], .list [.list [.int (3), .int (2), .int (0), .int (4), .int (1)]], .list [.list [.int (3), .int (2), .int (0), .int (1), .int (4)]], .list [.list [.int (4), .int (2), .int (3), .int (0), .int (1)]], .list [.list [.int (2), .int (4), .int (3), .int (0), .int (1)]], .list [.list [.int (2), .int (3), .int (4), .int (0), .int (1)]], .list [.list [.int (2), .int (3), .int (0), .int (4), .int (1)]], .list [.list [.int (2), .int (3), .int (0), .int (1), .int (4)]], .list [.list [.int (4), .int (2), .int (0), .int (3), .int (1)]], .list [.list [.int (2), .int (4), .int (0), .int (3), .int (1)]], .list [.list [.int (2), .int (0), .int (4), .int (3), .int (1)]], .list [.list [.int (2), .int (0), .int (3), .int (4), .int (1)]], .list [.list [.int (2), .int (0), .int (3), .int (1), .int (4)]], .list [.list [.int (4), .int (2), .int (0), .int (1), .int (3)]], .list [.list [.int (2), .int (4), .int (0), .int (1), .int (3)]], .list [.list [.int (2), .int (0), .int (4), .int (1), .int (3)]], .list [.list [.int (2), .int (0), .int (1), .int (4), .int (3)]], .list [.list [.int (2), .int (0), .int (1), .int (3), .int (4)]], .list [.list [.int (4), .int (3), .int (0), .int (2), .int (1)]], .list [.list [.int (3), .int (4), .int (0), .int (2), .int (1)]], .list [.list [.int (3), .int (0), .int (4), .int (2), .int (1)]], .list [.list [.int (3), .int (0), .int (2), .int (4), .int (1)]], .list [.list [.int (3), .int (0), .int (2), .int (1), .int (4)]], .list [.list [.int (4), .int (0), .int (3), .int (2), .int (1)]], .list [.list [.int (0), .int (4), .int (3), .int (2), .int (1)]], .list [.list [.int (0), .int (3), .int (4), .int (2), .int (1)]], .list [.list [.int (0), .int (3), .int (2), .int (4), .int (1)]], .list [.list [.int (0), .int (3), .int (2), .int (1), .int (4)]], .list [.list [.int (4), .int (0), .int (2), .int (3), .int (1)]], .list [.list [.int (0), .int (4), .int (2), .int (3), .int (1)]], .list [.list [.int (0), .int (2), .int (4), .int (3), .int (1)]], .list [.list [.int (0), .int (2), .int (3), .int (4), .int (1)]], .list [.list [.int (0), .int (2), .int (3), .int (1), .int (4)]], .list [.list [.int (4), .int (0), .int (2), .int (1), .int (3)]], .list [.list [.int (0), .int (4), .int (2), .int (1), .int (3)]], .list [.list [.int (0), .int (2), .int (4), .int (1), .int (3)]], .list [.list [.int (0), .int (2), .int (1), .int (4), .int (3)]], .list [.list [.int (0), .int (2), .int (1), .int (3), .int (4)]], .list [.list [.int (4), .int (3), .int (0), .int (1), .int (2)]], .list [.list [.int (3), .int (4), .int (0), .int (1), .int (2)]], .list [.list [.int (3), .int (0), .int (4), .int (1), .int (2)]], .list [.list [.int (3), .int (0), .int (1), .int (4), .int (2)]], .list [.list [.int (3), .int (0), .int (1), .int (2), .int (4)]], .list [.list [.int (4), .int (0), .int (3), .int (1), .int (2)]], .list [.list [.int (0), .int (4), .int (3), .int (1), .int (2)]], .list [.list [.int (0), .int (3), .int (4), .int (1), .int (2)]], .list [.list [.int (0), .int (3), .int (1), .int (4), .int (2)]], .list [.list [.int (0), .int (3), .int (1), .int (2), .int (4)]], .list [.list [.int (4), .int (0), .int (1), .int (3), .int (2)]], .list [.list [.int (0), .int (4), .int (1), .int (3), .int (2)]], .list [.list [.int (0), .int (1), .int (4), .int (3), .int (2)]], .list [.list [.int (0), .int (1), .int (3), .int (4), .int (2)]], .list [.list [.int (0), .int (1), .int (3), .int (2), .int (4)]], .list [.list [.int (4), .int (0), .int (1), .int (2), .int (3)]], .list [.list [.int (0), .int (4), .int (1), .int (2), .int (3)]], .list [.list [.int (0), .int (1), .int (4), .int (2), .int (3)]], .list [.list [.int (0), .int (1), .int (2), .int (4), .int (3)]], .list [.list [.int (0), .int (1), .int (2), .int (3), .int (4)]]]), some (0, .int (0)), some (9, .dict []), some (0, .int (0)), some (0, .list []), some (0, .list [.list [.list [.int (4), .int (3), .int (2), .int (1), .int (0)]], .list [.list [.int (3), .int (4), .int (2), .int (1), .int (0)]], .list [.list [.int (3), .int (2), .int (4), .int (1), .int (0)]], .list [.list [.int (3), .int (2), .int (1), .int (4), .int (0)]], .list [.list [.int (3), .int (2), .int (1), .int (0), .int (4)]], .list [.list [.int (4), .int (2), .int (3), .int (1), .int (0)]], .list [.list [.int (2), .int (4), .int (3), .int (1), .int (0)]], .list [.list [.int (2), .int (3), .int (4), .int (1), .int (0)]], .list [.list [.int (2), .int (3), .int (1), .int (4), .int (0)]], .list [.list [.int (2), .int (3), .int (1), .int (0), .int (4)]], .list [.list [.int (4), .int (2), .int (1), .int (3), .int (0)]], .list [.list [.int (2), .int (4), .int (1), .int (3), .int (0)]], .list [.list [.int (2), .int (1), .int (4), .int (3), .int (0)]], .list [.list [.int (2), .int (1), .int (3), .int (4), .int (0)]], .list [.list [.int (2), .int (1), .int (3), .int (0), .int (4)]], .list [.list [.int (4), .int (2), .int (1), .int (0), .int (3)]], .list [.list [.int (2), .int (4), .int (1), .int (0), .int (3)]], .list [.list [.int (2), .int (1), .int (4), .int (0), .int (3)]], .list [.list [.int (2), .int (1), .int (0), .int (4), .int (3)]], .list [.list [.int (2), .int (1), .int (0), .int (3), .int (4)]], .list [.list [.int (4), .int (3), .int (1), .int (2), .int (0)]], .list [.list [.int (3), .int (4), .int (1), .int (2), .int (0)]], .list [.list [.int (3), .int (1), .int (4), .int (2), .int (0)]], .list [.list [.int (3), .int (1), .int (2), .int (4), .int (0)]], .list [.list [.int (3), .int (1), .int (2), .int (0), .int (4)]], .list [.list [.int (4), .int (1), .int (3), .int (2), .int (0)]], .list [.list [.int (1), .int (4), .int (3), .int (2), .int (0)]], .list [.list [.int (1), .int (3), .int (4), .int (2), .int (0)]], .list [.list [.int (1), .int (3), .int (2), .int (4), .int (0)]], .list [.list [.int (1), .int (3), .int (2), .int (0), .int (4)]], .list [.list [.int (4), .int (1), .int (2), .int (3), .int (0)]], .list [.list [.int (1), .int (4), .int (2), .int (3), .int (0)]], .list [.list [.int (1), .int (2), .int (4), .int (3), .int (0)]], .list [.list [.int (1), .int (2), .int (3), .int (4), .int (0)]], .list [.list [.int (1), .int (2), .int (3), .int (0), .int (4)]], .list [.list [.int (4), .int (1), .int (2), .int (0), .int (3)]], .list [.list [.int (1), .int (4), .int (2), .int (0), .int (3)]], .list [.list [.int (1), .int (2), .int (4), .int (0), .int (3)]], .list [.list [.int (1), .int (2), .int (0), .int (4), .int (3)]], .list [.list [.int (1), .int (2), .int (0), .int (3), .int (4)]], .list [.list [.int (4), .int (3), .int (1), .int (0), .int (2)]], .list [.list [.int (3), .int (4), .int (1), .int (0), .int (2)]], .list [.list [.int (3), .int (1), .int (4), .int (0), .int (2)]], .list [.list [.int (3), .int (1), .int (0), .int (4), .int (2)]], .list [.list [.int (3), .int (1), .int (0), .int (2), .int (4)]], .list [.list [.int (4), .int (1), .int (3), .int (0), .int (2)]], .list [.list [.int (1), .int (4), .int (3), .int (0), .int (2)]], .list [.list [.int (1), .int (3), .int (4), .int (0), .int (2)]], .list [.list [.int (1), .int (3), .int (0), .int (4), .int (2)]], .list [.list [.int (1), .int (3), .int (0), .int (2), .int (4)]], .list [.list [.int (4), .int (1), .int (0), .int (3), .int (2)]], .list [.list [.int (1), .int (4), .int (0), .int (3), .int (2)]], .list [.list [.int (1), .int (0), .int (4), .int (3), .int (2)]], .list [.list [.int (1), .int (0), .int (3), .int (4), .int (2)]], .list [.list [.int (1), .int (0), .int (3), .int (2), .int (4)]], .list [.list [.int (4), .int (1), .int (0), .int (2), .int (3)]], .list [.list [.int (1), .int (4), .int (0), .int (2), .int (3)]], .list [.list [.int (1), .int (0), .int (4), .int (2), .int (3)]], .list [.list [.int (1), .int (0), .int (2), .int (4), .int (3)]], .list [.list [.int (1), .int (0), .int (2), .int (3), .int (4)]], .list [.list [.int (4), .int (3), .int (2), .int (0), .int (1)]], .list [.list [.int (3), .int (4), .int (2), .int (0), .int (1)]], .list [.list [.int (3), .int (2), .int (4), .int (0), .int (1)]], .list [.list [.int (3), .int (2), .int (0), .int (4), .int (1)]], .list [.list [.int (3), .int (2), .int (0), .int (1), .int (4)]], .list [.list [.int (4), .int (2), .int (3), .int (0), .int (1)]], .list [.list [.int (2), .int (4), .int (3), .int (0), .int (1)]], .list [.list [.int (2), .int (3), .int (4), .int (0), .int (1)]], .list [.list [.int (2), .int (3), .int (0), .int (4), .int (1)]], .list [.list [.int (2), .int (3), .int (0), .int (1), .int (4)]], .list [.list [.int (4), .int (2), .int (0), .int (3), .int (1)]], .list [.list [.int (2), .int (4), .int (0), .int (3), .int (1)]], .list [.list [.int (2), .int (0), .int (4), .int (3), .int (1)]], .list [.list [.int (2), .int (0), .int (3), .int (4), .int (1)]], .list [.list [.int (2), .int (0), .int (3), .int (1), .int (4)]], .list [.list [.int (4), .int (2), .int (0), .int (1), .int (3)]], .list [.list [.int (2), .int (4), .int (0), .int (1), .int (3)]], .list [.list [.int (2), .int (0), .int (4), .int (1), .int (3)]], .list [.list [.int (2), .int (0), .int (1), .int (4), .int (3)]], .list [.list [.int (2), .int (0), .int (1), .int (3), .int (4)]], .list [.list [.int (4), .int (3), .int (0), .int (2), .int (1)]], .list [.list [.int (3), .int (4), .int (0), .int (2), .int (1)]], .list [.list [.int (3), .int (0), .int (4), .int (2), .int (1)]], .list [.list [.int (3), .int (0), .int (2), .int (4), .int (1)]], .list [.list [.int (3), .int (0), .int (2), .int (1), .int (4)]], .list [.list [.int (4), .int (0), .int (3), .int (2), .int (1)]], .list [.list [.int (0), .int (4), .int (3), .int (2), .int (1)]], .list [.list [.int (0), .int (3), .int (4), .int (2), .int (1)]], .list [.list [.int (0), .int (3), .int (2), .int (4), .int (1)]], .list [.list [.int (0), .int (3), .int (2), .int (1), .int (4)]], .list [.list [.int (4), .int (0), .int (2), .int (3), .int (1)]], .list [.list [.int (0), .int (4), .int (2), .int (3), .int (1)]], .list [.list [.int (0), .int (2), .int (4), .int (3), .int (1)]], .list [.list [.int (0), .int (2), .int (3), .int (4), .int (1)]], .list [.list [.int (0), .int (2), .int (3), .int (1), .int (4)]], .list [.list [.int (4), .int (0), .int (2), .int (1), .int (3)]], .list [.list [.int (0), .int (4), .int (2), .int (1), .int (3)]], .list [.list [.int (0), .int (2), .int (4), .int (1), .int (3)]], .list [.list [.int (0), .int (2), .int (1), .int (4), .int (3)]], .list [.list [.int (0), .int (2), .int (1), .int (3), .int (4)]], .list [.list [.int (4), .int (3), .int (0), .int (1), .int (2)]], .list [.list [.int (3), .int (4), .int (0), .int (1), .int (2)]], .list [.list [.int (3), .int (0), .int (4), .int (1), .int (2)]], .list [.list [.int (3), .int (0), .int (1), .int (4), .int (2)]], .list [.list [.int (3), .int (0), .int (1), .int (2), .int (4)]], .list [.list [.int (4), .int (0), .int (3), .int (1), .int (2)]], .list [.list [.int (0), .int (4), .int (3), .int (1), .int (2)]], .list [.list [.int (0), .int (3), .int (4), .int (1), .int (2)]], .list [.list [.int (0), .int (3), .int (1), .int (4), .int (2)]], .list [.list [.int (0), .int (3), .int (1), .int (2), .int (4)]], .list [.list [.int (4), .int (0), .int (1), .int (3), .int (2)]], .list [.list [.int (0), .int (4), .int (1), .int (3), .int (2)]], .list [.list [.int (0), .int (1), .int (4), .int (3), .int (2)]], .list [.list [.int (0), .int (1), .int (3), .int (4), .int (2)]], .list [.list [.int (0), .int (1), .int (3), .int (2), .int (4)]], .list [.list [.int (4), .int (0), .int (1), .int (2), .int (3)]], .list [.list [.int (0), .int (4), .int (1), .int (2), .int (3)]], .list [.list [.int (0), .int (1), .int (4), .int (2), .int (3)]], .list [.list [.int (0), .int (1), .int (2), .int (4), .int (3)]], .list [.list [.int (0), .int (1), .int (2), .int (3), .int (4)]]]), none, none]) := by kernel_rfl
def b_c0 : List D := [.list [.list [.int (2), .int (1), .int (0)], .list [.int (2), .int (1), .int (0)]], .list [.list [.int (2), .int (1), .int (0)], .list [.int (1), .int (2), .int (0)]], .list [.list [.int (2), .int (1), .int (0)], .list [.int (1), .int (0), .int (2)]], .list [.list [.int (2), .int (1), .int (0)], .list [.int (2), .int (0), .int (1)]]]
def b_c1 : List D := [.list [.list [.int (2), .int (1), .int (0)], .list [.int (0), .int (2), .int (1)]], .list [.list [.int (2), .int (1), .int (0)], .list [.int (0), .int (1), .int (2)]], .list [.list [.int (1), .int (2), .int (0)], .list [.int (2), .int (1), .int (0)]], .list [.list [.int (1), .int (2), .int (0)], .list [.int (1), .int (2), .int (0)]]]
def b_c2 : List D := [.list [.list [.int (1), .int (2), .int (0)], .list [.int (1), .int (0), .int (2)]], .list [.list [.int (1), .int (2), .int (0)], .list [.int (2), .int (0), .int (1)]], .list [.list [.int (1), .int (2), .int (0)], .list [.int (0), .int (2), .int (1)]], .list [.list [.int (1), .int (2), .int (0)], .list [.int (0), .int (1), .int (2)]]]
def b_c3 : List D := [.list [.list [.int (1), .int (0), .int (2)], .list [.int (2), .int (1), .int (0)]], .list [.list [.int (1), .int (0), .int (2)], .list [.int (1), .int (2), .int (0)]], .list [.list [.int (1), .int (0), .int (2)], .list [.int (1), .int (0), .int (2)]], .list [.list [.int (1), .int (0), .int (2)], .list [.int (2), .int (0), .int (1)]]]
def b_c4 : List D := [.list [.list [.int (1), .int (0), .int (2)], .list [.int (0), .int (2), .int (1)]], .list [.list [.int (1), .int (0), .int (2)], .list [.int (0), .int (1), .int (2)]], .list [.list [.int (2), .int (0), .int (1)], .list [.int (2), .int (1), .int (0)]], .list [.list [.int (2), .int (0), .int (1)], .list [.int (1), .int (2), .int (0)]]]
def b_c5 : List D := [.list [.list [.int (2), .int (0), .int (1)], .list [.int (1), .int (0), .int (2)]], .list [.list [.int (2), .int (0), .int (1)], .list [.int (2), .int (0), .int (1)]], .list [.list [.int (2), .int (0), .int (1)], .list [.int (0), .int (2), .int (1)]], .list [.list [.int (2), .int (0), .int (1)], .list [.int (0), .int (1), .int (2)]]]
def b_c6 : List D := [.list [.list [.int (0), .int (2), .int (1)], .list [.int (2), .int (1), .int (0)]], .list [.list [.int (0), .int (2), .int (1)], .list [.int (1), .int (2), .int (0)]], .list [.list [.int (0), .int (2), .int (1)], .list [.int (1), .int (0), .int (2)]], .list [.list [.int (0), .int (2), .int (1)], .list [.int (2), .int (0), .int (1)]]]
def b_c7 : List D := [.list [.list [.int (0), .int (2), .int (1)], .list [.int (0), .int (2), .int (1)]], .list [.list [.int (0), .int (2), .int (1)], .list [.int (0), .int (1), .int (2)]], .list [.list [.int (0), .int (1), .int (2)], .list [.int (2), .int (1), .int (0)]], .list [.list [.int (0), .int (1), .int (2)], .list [.int (1), .int (2), .int (0)]]]
def b_c8 : List D := [.list [.list [.int (0), .int (1), .int (2)], .list [.int (1), .int (0), .int (2)]], .list [.list [.int (0), .int (1), .int (2)], .list [.int (2), .int (0), .int (1)]], .list [.list [.int (0), .int (1), .int (2)], .list [.int (0), .int (2), .int (1)]], .list [.list [.int (0), .int (1), .int (2)], .list [.int (0), .int (1), .int (2)]]]
def b_all : List D := b_c0 ++ (b_c1 ++ (b_c2 ++ (b_c3 ++ (b_c4 ++ (b_c5 ++ (b_c6 ++ (b_c7 ++ (b_c8))))))))
theorem b_t0 (a2 a3 a6 a7 a8 a9 : Option Slot) : forl F5 b_c0 [some (0, .int 2), some (0, .int 3), a2, a3, some (9, .dict []), some (0, .int (0)), a6, a7, a8, a9] = some (.nx [some (0, .int 2), some (0, .int 3), a2, a3, some (9, .dict [(.str "(3, [(0, 1, 1), (0, 2, 2), (1, 1, 0), (1, 2, 0), (2, 1, 2), (2, 2, 1)])", .bool true), (.str "(3, [(0, 1, 1), (0, 2, 2), (1, 1, 0), (1, 2, 1), (2, 1, 2), (2, 2, 0)])", .bool true), (.str "(3, [(0, 1, 1), (0, 2, 1), (1, 1, 0), (1, 2, 2), (2, 1, 2), (2, 2, 0)])", .bool true)]), some (0, .int (3)), some (0, .list [.list [.int (2), .int (1), .int (0)], .list [.int (2), .int (0), .int (1)]]), a7, some (2, .tuple [.int (3), .list [.tuple [.int (0), .int (1), .int (1)], .tuple [.int (0), .int (2), .int (1)], .tuple [.int (1), .int (1), .int (0)], .tuple [.int (1), .int (2), .int (2)], .tuple [.int (2), .int (1), .int (2)], .tuple [.int (2), .int (2), .int (0)]]]), a9]) := by kernel_rfl
theorem b_t1 (a2 a3 a6 a7 a8 a9 : Option Slot) : forl F5 b_c1 [some (0, .int 2), some (0, .int 3), a2, a3, some (9, .dict [(.str "(3, [(0, 1, 1), (0, 2, 2), (1, 1, 0), (1, 2, 0), (2, 1, 2), (2, 2, 1)])", .bool true), (.str "(3, [(0, 1, 1), (0, 2, 2), (1, 1, 0), (1, 2, 1), (2, 1, 2), (2, 2, 0)])", .bool true), (.str "(3, [(0, 1, 1), (0, 2, 1), (1, 1, 0), (1, 2, 2), (2, 1, 2), (2, 2, 0)])", .bool true)]), some (0, .int (3)), a6, a7, a8, a9] = some (.nx [some (0, .int 2), some (0, .int 3), a2, a3, some (9, .dict [(.str "(3, [(0, 1, 1), (0, 2, 2), (1, 1, 0), (1, 2, 0), (2, 1, 2), (2, 2, 1)])", .bool true), (.str "(3, [(0, 1, 1), (0, 2, 2), (1, 1, 0), (1, 2, 1), (2, 1, 2), (2, 2, 0)])", .bool true), (.str "(3, [(0, 1, 1), (0, 2, 1), (1, 1, 0), (1, 2, 2), (2, 1, 2), (2, 2, 0)])", .bool true), (.str "(3, [(0, 1, 1), (0, 2, 0), (1, 1, 0), (1, 2, 2), (2, 1, 2), (2, 2, 1)])", .bool true), (.str "(3, [(0, 1, 1), (0, 2, 2), (1, 1, 2), (1, 2, 1), (2, 1, 0), (2, 2, 0)])", .bool true), (.str "(3, [(0, 1, 1), (0, 2, 1), (1, 1, 2), (1, 2, 2), (2, 1, 0), (2, 2, 0)])", .bool true)]), some (0, .int (6)), some (0, .list [.list [.int (1), .int (2), .int (0)], .list [.int (1), .int (2), .int (0)]]), a7, some (2, .tuple [.int (3), .list [.tuple [.int (0), .int (1), .int (1)], .tuple [.int (0), .int (2), .int (1)], .tuple [.int (1), .int (1), .int (2)], .tuple [.int (1), .int (2), .int (2)], .tuple [.int (2), .int (1), .int (0)], .tuple [.int (2), .int (2), .int (0)]]]), a9]) := by kernel_rfl
theorem b_t2 (a2 a3 a6 a7 a8 a9 : Option Slot) : forl F5 b_c2 [some (0, .int 2), some (0, .int 3), a2, a3, some (9, .dict [(.str "(3, [(0, 1, 1), (0, 2, 2), (1, 1, 0), (1, 2, 0), (2, 1, 2), (2, 2, 1)])", .bool true), (.str "(3, [(0, 1, 1), (0, 2, 2), (1, 1, 0), (1, 2, 1), (2, 1, 2), (2, 2, 0)])", .bool true), (.str "(3, [(0, 1, 1), (0, 2, 1), (1, 1, 0), (1, 2, 2), (2, 1, 2), (2, 2, 0)])", .bool true), (.str "(3, [(0, 1, 1), (0, 2, 0), (1, 1, 0), (1, 2, 2), (2, 1, 2), (2, 2, 1)])", .bool true), (.str "(3, [(0, 1, 1), (0, 2, 2), (1, 1, 2), (1, 2, 1), (2, 1, 0), (2, 2, 0)])", .bool true), (.str "(3, [(0, 1, 1), (0, 2, 1), (1, 1, 2), (1, 2, 2), (2, 1, 0), (2, 2, 0)])", .bool true)]), some (0, .int (6)), a6, a7, a8, a9] = some (.nx [some (0, .int 2), some (0, .int 3), a2, a3, some (9, .dict [(.str "(3, [(0, 1, 1), (0, 2, 2), (1, 1, 0), (1, 2, 0), (2, 1, 2), (2, 2, 1)])", .bool true), (.str "(3, [(0, 1, 1), (0, 2, 2), (1, 1, 0), (1, 2, 1), (2, 1, 2), (2, 2, 0)])", .bool true), (.str "(3, [(0, 1, 1), (0, 2, 1), (1, 1, 0), (1, 2, 2), (2, 1, 2), (2, 2, 0)])", .bool true), (.str "(3, [(0, 1, 1), (0, 2, 0), (1, 1, 0), (1, 2, 2), (2, 1, 2), (2, 2, 1)])", .bool true), (.str "(3, [(0, 1, 1), (0, 2, 2), (1, 1, 2), (1, 2, 1), (2, 1, 0), (2, 2, 0)])", .bool true), (.str "(3, [(0, 1, 1), (0, 2, 1), (1, 1, 2), (1, 2, 2), (2, 1, 0), (2, 2, 0)])", .bool true), (.str "(3, [(0, 1, 1), (0, 2, 1), (1, 1, 2), (1, 2, 0), (2, 1, 0), (2, 2, 2)])", .bool true), (.str "(3, [(0, 1, 1), (0, 2, 2), (1, 1, 2), (1, 2, 0), (2, 1, 0), (2, 2, 1)])", .bool true), (.str "(3, [(0, 1, 1), (0, 2, 0), (1, 1, 2), (1, 2, 2), (2, 1, 0), (2, 2, 1)])", .bool true), (.str "(3, [(0, 1, 1), (0, 2, 0), (1, 1, 2), (1, 2, 1), (2, 1, 0), (2, 2, 2)])", .bool true)]), some (0, .int (10)), some (0, .list [.list [.int (1), .int (2), .int (0)], .list [.int (0), .int (1), .int (2)]]), a7, some (2, .tuple [.int (3), .list [.tuple [.int (0), .int (1), .int (1)], .tuple [.int (0), .int (2), .int (0)], .tuple [.int (1), .int (1), .int (2)], .tuple [.int (1), .int (2), .int (1)], .tuple [.int (2), .int (1), .int (0)], .tuple [.int (2), .int (2), .int (2)]]]), a9]) := by kernel_rfl
theorem b_t3 (a2 a3 a6 a7 a8 a9 : Option Slot) : forl F5 b_c3 [some (0, .int 2), some (0, .int 3), a2, a3, some (9, .dict [(.str "(3, [(0, 1, 1), (0, 2, 2), (1, 1, 0), (1, 2, 0), (2, 1, 2), (2, 2, 1)])", .bool true), (.str "(3, [(0, 1, 1), (0, 2, 2), (1, 1, 0), (1, 2, 1), (2, 1, 2), (2, 2, 0)])", .bool true), (.str "(3, [(0, 1, 1), (0, 2, 1), (1, 1, 0), (1, 2, 2), (2, 1, 2), (2, 2, 0)])", .bool true), (.str "(3, [(0, 1, 1), (0, 2, 0), (1, 1, 0), (1, 2, 2), (2, 1, 2), (2, 2, 1)])", .bool true), (.str "(3, [(0, 1, 1), (0, 2, 2), (1, 1, 2), (1, 2, 1), (2, 1, 0), (2, 2, 0)])", .bool true), (.str "(3, [(0, 1, 1), (0, 2, 1), (1, 1, 2), (1, 2, 2), (2, 1, 0), (2, 2, 0)])", .bool true), (.str "(3, [(0, 1, 1), (0, 2, 1), (1, 1, 2), (1, 2, 0), (2, 1, 0), (2, 2, 2)])", .bool true), (.str "(3, [(0, 1, 1), (0, 2, 2), (1, 1, 2), (1, 2, 0), (2, 1, 0), (2, 2, 1)])", .bool true), (.str "(3, [(0, 1, 1), (0, 2, 0), (1, 1, 2), (1, 2, 2), (2, 1, 0), (2, 2, 1)])", .bool true), (.str "(3, [(0, 1, 1), (0, 2, 0), (1, 1, 2), (1, 2, 1), (2, 1, 0), (2, 2, 2)])", .bool true)]), some (0, .int (10)), a6, a7, a8, a9] = some (.nx [some (0, .int 2), some (0, .int 3), a2, a3, some (9, .dict [(.str "(3, [(0, 1, 1), (0, 2, 2), (1, 1, 0), (1, 2, 0), (2, 1, 2), (2, 2, 1)])", .bool true), (.str "(3, [(0, 1, 1), (0, 2, 2), (1, 1, 0), (1, 2, 1), (2, 1, 2), (2, 2, 0)])", .bool true), (.str "(3, [(0, 1, 1), (0, 2, 1), (1, 1, 0), (1, 2, 2), (2, 1, 2), (2, 2, 0)])", .bool true), (.str "(3, [(0, 1, 1), (0, 2, 0), (1, 1, 0), (1, 2, 2), (2, 1, 2), (2, 2, 1)])", .bool true), (.str "(3, [(0, 1, 1), (0, 2, 2), (1, 1, 2), (1, 2, 1), (2, 1, 0), (2, 2, 0)])", .bool true), (.str "(3, [(0, 1, 1), (0, 2, 1), (1, 1, 2), (1, 2, 2), (2, 1, 0), (2, 2, 0)])", .bool true), (.str "(3, [(0, 1, 1), (0, 2, 1), (1, 1, 2), (1, 2, 0), (2, 1, 0), (2, 2, 2)])", .bool true), (.str "(3, [(0, 1, 1), (0, 2, 2), (1, 1, 2), (1, 2, 0), (2, 1, 0), (2, 2, 1)])", .bool true), (.str "(3, [(0, 1, 1), (0, 2, 0), (1, 1, 2), (1, 2, 2), (2, 1, 0), (2, 2, 1)])", .bool true), (.str "(3, [(0, 1, 1), (0, 2, 0), (1, 1, 2), (1, 2, 1), (2, 1, 0), (2, 2, 2)])", .bool true)]), some (0, .int (13)), some (0, .list [.list [.int (1), .int (0), .int (2)], .list [.int (2), .int (0), .int (1)]]), a7, some (2, .tuple [.int (3), .list [.tuple [.int (0), .int (1), .int (1)], .tuple [.int (0), .int (2), .int (2)], .tuple [.int (1), .int (1), .int (0)], .tuple [.int (1), .int (2), .int (0)], .tuple [.int (2), .int (1), .int (2)], .tuple [.int (2), .int (2), .int (1)]]]), a9]) := by kernel_rfl
theorem b_t4 (a2 a3 a6 a7 a8 a9 : Option Slot) : forl F5 b_c4 [some (0, .int 2), some (0, .int 3), a2, a3, some (9, .dict [(.str "(3, [(0, 1, 1), (0, 2, 2), (1, 1, 0), (1, 2, 0), (2, 1, 2), (2, 2, 1)])", .bool true), (.str "(3, [(0, 1, 1), (0, 2, 2), (1, 1, 0), (1, 2, 1), (2, 1, 2), (2, 2, 0)])", .bool true), (.str "(3, [(0, 1, 1), (0, 2, 1), (1, 1, 0), (1, 2, 2), (2, 1, 2), (2, 2, 0)])", .bool true), (.str "(3, [(0, 1, 1), (0, 2, 0), (1, 1, 0), (1, 2, 2), (2, 1, 2), (2, 2, 1)])", .bool true), (.str "(3, [(0, 1, 1), (0, 2, 2), (1, 1, 2), (1, 2, 1), (2, 1, 0), (2, 2, 0)])", .bool true), (.str "(3, [(0, 1, 1), (0, 2, 1), (1, 1, 2), (1, 2, 2), (2, 1, 0), (2, 2, 0)])", .bool true), (.str "(3, [(0, 1, 1), (0, 2, 1), (1, 1, 2), (1, 2, 0), (2, 1, 0), (2, 2, 2)])", .bool true), (.str "(3, [(0, 1, 1), (0, 2, 2), (1, 1, 2), (1, 2, 0), (2, 1, 0), (2, 2, 1)])", .bool true), (.str "(3, [(0, 1, 1), (0, 2, 0), (1, 1, 2), (1, 2, 2), (2, 1, 0), (2, 2, 1)])", .bool true), (.str "(3, [(0, 1, 1), (0, 2, 0), (1, 1, 2), (1, 2, 1), (2, 1, 0), (2, 2, 2)])", .bool true)]), some (0, .int (13)), a6, a7, a8, a9] = some (.nx [some (0, .int 2), some (0, .int 3), a2, a3, some (9, .dict [(.str "(3, [(0, 1, 1), (0, 2, 2), (1, 1, 0), (1, 2, 0), (2, 1, 2), (2, 2, 1)])", .bool true), (.str "(3, [(0, 1, 1), (0, 2, 2), (1, 1, 0), (1, 2, 1), (2, 1, 2), (2, 2, 0)])", .bool true), (.str "(3, [(0, 1, 1), (0, 2, 1), (1, 1, 0), (1, 2, 2), (2, 1, 2), (2, 2, 0)])", .bool true), (.str "(3, [(0, 1, 1), (0, 2, 0), (1, 1, 0), (1, 2, 2), (2, 1, 2), (2, 2, 1)])", .bool true), (.str "(3, [(0, 1, 1), (0, 2, 2), (1, 1, 2), (1, 2, 1), (2, 1, 0), (2, 2, 0)])", .bool true), (.str "(3, [(0, 1, 1), (0, 2, 1), (1, 1, 2), (1, 2, 2), (2, 1, 0), (2, 2, 0)])", .bool true), (.str "(3, [(0, 1, 1), (0, 2, 1), (1, 1, 2), (1, 2, 0), (2, 1, 0), (2, 2, 2)])", .bool true), (.str "(3, [(0, 1, 1), (0, 2, 2), (1, 1, 2), (1, 2, 0), (2, 1, 0), (2, 2, 1)])", .bool true), (.str "(3, [(0, 1, 1), (0, 2, 0), (1, 1, 2), (1, 2, 2), (2, 1, 0), (2, 2, 1)])", .bool true), (.str "(3, [(0, 1, 1), (0, 2, 0), (1, 1, 2), (1, 2, 1), (2, 1, 0), (2, 2, 2)])", .bool true)]), some (0, .int (16)), some (0, .list [.list [.int (2), .int (0), .int (1)], .list [.int (1), .int (2), .int (0)]]), a7, some (2, .tuple [.int (3), .list [.tuple [.int (0), .int (1), .int (1)], .tuple [.int (0), .int (2), .int (2)], .tuple [.int (1), .int (1), .int (2)], .tuple [.int (1), .int (2), .int (0)], .tuple [.int (2), .int (1), .int (0)], .tuple [.int (2), .int (2), .int (1)]]]), a9]) := by kernel_rfl
theorem b_t5 (a2 a3 a6 a7 a8 a9 : Option Slot) : forl F5 b_c5 [some (0, .int 2), some (0, .int 3), a2, a3, some (9, .dict [(.str "(3, [(0, 1, 1), (0, 2, 2), (1, 1, 0), (1, 2, 0), (2, 1, 2), (2, 2, 1)])", .bool true), (.str "(3, [(0, 1, 1), (0, 2, 2), (1, 1, 0), (1, 2, 1), (2, 1, 2), (2, 2, 0)])", .bool true), (.str "(3, [(0, 1, 1), (0, 2, 1), (1, 1, 0), (1, 2, 2), (2, 1, 2), (2, 2, 0)])", .bool true), (.str "(3, [(0, 1, 1), (0, 2, 0), (1, 1, 0), (1, 2, 2), (2, 1, 2), (2, 2, 1)])", .bool true), (.str "(3, [(0, 1, 1), (0, 2, 2), (1, 1, 2), (1, 2, 1), (2, 1, 0), (2, 2, 0)])", .bool true), (.str "(3, [(0, 1, 1), (0, 2, 1), (1, 1, 2), (1, 2, 2), (2, 1, 0), (2, 2, 0)])", .bool true), (.str "(3, [(0, 1, 1), (0, 2, 1), (1, 1, 2), (1, 2, 0), (2, 1, 0), (2, 2, 2)])", .bool true), (.str "(3, [(0, 1, 1), (0, 2, 2), (1, 1, 2), (1, 2, 0), (2, 1, 0), (2, 2, 1)])", .bool true), (.str "(3, [(0, 1, 1), (0, 2, 0), (1, 1, 2), (1, 2, 2), (2, 1, 0), (2, 2, 1)])", .bool true), (.str "(3, [(0, 1, 1), (0, 2, 0), (1, 1, 2), (1, 2, 1), (2, 1, 0), (2, 2, 2)])", .bool true)]), some (0, .int (16)), a6, a7, a8, a9] = some (.nx [some (0, .int 2), some (0, .int 3), a2, a3, some (9, .dict [(.str "(3, [(0, 1, 1), (0, 2, 2), (1, 1, 0), (1, 2, 0), (2, 1, 2), (2, 2, 1)])", .bool true), (.str "(3, [(0, 1, 1), (0, 2, 2), (1, 1, 0), (1, 2, 1), (2, 1, 2), (2, 2, 0)])", .bool true), (.str "(3, [(0, 1, 1), (0, 2, 1), (1, 1, 0), (1, 2, 2), (2, 1, 2), (2, 2, 0)])", .bool true), (.str "(3, [(0, 1, 1), (0, 2, 0), (1, 1, 0), (1, 2, 2), (2, 1, 2), (2, 2, 1)])", .bool true), (.str "(3, [(0, 1, 1), (0, 2, 2), (1, 1, 2), (1, 2, 1), (2, 1, 0), (2, 2, 0)])", .bool true), (.str "(3, [(0, 1, 1), (0, 2, 1), (1, 1, 2), (1, 2, 2), (2, 1, 0), (2, 2, 0)])", .bool true), (.str "(3, [(0, 1, 1), (0, 2, 1), (1, 1, 2), (1, 2, 0), (2, 1, 0), (2, 2, 2)])", .bool true), (.str "(3, [(0, 1, 1), (0, 2, 2), (1, 1, 2), (1, 2, 0), (2, 1, 0), (2, 2, 1)])", .bool true), (.str "(3, [(0, 1, 1), (0, 2, 0), (1, 1, 2), (1, 2, 2), (2, 1, 0), (2, 2, 1)])", .bool true), (.str "(3, [(0, 1, 1), (0, 2, 0), (1, 1, 2), (1, 2, 1), (2, 1, 0), (2, 2, 2)])", .bool true)]), some (0, .int (20)), some (0, .list [.list [.int (2), .int (0), .int (1)], .list [.int (0), .int (1), .int (2)]]), a7, some (2, .tuple [.int (3), .list [.tuple [.int (0), .int (1), .int (1)], .tuple [.int (0), .int (2), .int (0)], .tuple [.int (1), .int (1), .int (2)], .tuple [.int (1), .int (2), .int (1)], .tuple [.int (2), .int (1), .int (0)], .tuple [.int (2), .int (2), .int (2)]]]), a9]) := by kernel_rfl
theorem b_t6 (a2 a3 a6 a7 a8 a9 : Option Slot) : forl F5 b_c6 [some (0, .int 2), some (0, .int 3), a2, a3, some (9, .dict [(.str "(3, [(0, 1, 1), (0, 2, 2), (1, 1, 0), (1, 2, 0), (2, 1, 2), (2, 2, 1)])", .bool true), (.str "(3, [(0, 1, 1), (0, 2, 2), (1, 1, 0), (1, 2, 1), (2, 1, 2), (2, 2, 0)])", .bool true), (.str "(3, [(0, 1, 1), (0, 2, 1), (1, 1, 0), (1, 2, 2), (2, 1, 2), (2, 2, 0)])", .bool true), (.str "(3, [(0, 1, 1), (0, 2, 0), (1, 1, 0), (1, 2, 2), (2, 1, 2), (2, 2, 1)])", .bool true), (.str "(3, [(0, 1, 1), (0, 2, 2), (1, 1, 2), (1, 2, 1), (2, 1, 0), (2, 2, 0)])", .bool true), (.str "(3, [(0, 1, 1), (0, 2, 1), (1, 1, 2), (1, 2, 2), (2, 1, 0), (2, 2, 0)])", .bool true), (.str "(3, [(0, 1, 1), (0, 2, 1), (1, 1, 2), (1, 2, 0), (2, 1, 0), (2, 2, 2)])", .bool true), (.str "(3, [(0, 1, 1), (0, 2, 2), (1, 1, 2), (1, 2, 0), (2, 1, 0), (2, 2, 1)])", .bool true), (.str "(3, [(0, 1, 1), (0, 2, 0), (1, 1, 2), (1, 2, 2), (2, 1, 0), (2, 2, 1)])", .bool true), (.str "(3, [(0, 1, 1), (0, 2, 0), (1, 1, 2), (1, 2, 1), (2, 1, 0), (2, 2, 2)])", .bool true)]), some (0, .int (20)), a6, a7, a8, a9] = some (.nx [some (0, .int 2), some (0, .int 3), a2, a3, some (9, .dict [(.str "(3, [(0, 1, 1), (0, 2, 2), (1, 1, 0), (1, 2, 0), (2, 1, 2), (2, 2, 1)])", .bool true), (.str "(3, [(0, 1, 1), (0, 2, 2), (1, 1, 0), (1, 2, 1), (2, 1, 2), (2, 2, 0)])", .bool true), (.str "(3, [(0, 1, 1), (0, 2, 1), (1, 1, 0), (1, 2, 2), (2, 1, 2), (2, 2, 0)])", .bool true), (.str "(3, [(0, 1, 1), (0, 2, 0), (1, 1, 0), (1, 2, 2), (2, 1, 2), (2, 2, 1)])", .bool true), (.str "(3, [(0, 1, 1), (0, 2, 2), (1, 1, 2), (1, 2, 1), (2, 1, 0), (2, 2, 0)])", .bool true), (.str "(3, [(0, 1, 1), (0, 2, 1), (1, 1, 2), (1, 2, 2), (2, 1, 0), (2, 2, 0)])", .bool true), (.str "(3, [(0, 1, 1), (0, 2, 1), (1, 1, 2), (1, 2, 0), (2, 1, 0), (2, 2, 2)])", .bool true), (.str "(3, [(0, 1, 1), (0, 2, 2), (1, 1, 2), (1, 2, 0), (2, 1, 0), (2, 2, 1)])", .bool true), (.str "(3, [(0, 1, 1), (0, 2, 0), (1, 1, 2), (1, 2, 2), (2, 1, 0), (2, 2, 1)])", .bool true), (.str "(3, [(0, 1, 1), (0, 2, 0), (1, 1, 2), (1, 2, 1), (2, 1, 0), (2, 2, 2)])", .bool true), (.str "(3, [(0, 1, 0), (0, 2, 1), (1, 1, 2), (1, 2, 0), (2, 1, 1), (2, 2, 2)])", .bool true), (.str "(3, [(0, 1, 0), (0, 2, 1), (1, 1, 2), (1, 2, 2), (2, 1, 1), (2, 2, 0)])", .bool true)]), some (0, .int (24)), some (0, .list [.list [.int (0), .int (2), .int (1)], .list [.int (2), .int (0), .int (1)]]), a7, some (2, .tuple [.int (3), .list [.tuple [.int (0), .int (1), .int (0)], .tuple [.int (0), .int (2), .int (1)], .tuple [.int (1), .int (1), .int (2)], .tuple [.int (1), .int (2), .int (2)], .tuple [.int (2), .int (1), .int (1)], .tuple [.int (2), .int (2), .int (0)]]]), a9]) := by kernel_rfl
theorem b_t7 (a2 a3 a6 a7 a8 a9 : Option Slot) : forl F5 b_c7 [some (0, .int 2), some (0, .int 3), a2, a3, some (9, .dict [(.str "(3, [(0, 1, 1), (0, 2, 2), (1, 1, 0), (1, 2, 0), (2, 1, 2), (2, 2, 1)])", .bool true), (.str "(3, [(0, 1, 1), (0, 2, 2), (1, 1, 0), (1, 2, 1), (2, 1, 2), (2, 2, 0)])", .bool true), (.str "(3, [(0, 1, 1), (0, 2, 1), (1, 1, 0), (1, 2, 2), (2, 1, 2), (2, 2, 0)])", .bool true), (.str "(3, [(0, 1, 1), (0, 2, 0), (1, 1, 0), (1, 2, 2), (2, 1, 2), (2, 2, 1)])", .bool true), (.str "(3, [(0, 1, 1), (0, 2, 2), (1, 1, 2), (1, 2, 1), (2, 1, 0), (2, 2, 0)])", .bool true), (.str "(3, [(0, 1, 1), (0, 2, 1), (1, 1, 2), (1, 2, 2), (2, 1, 0), (2, 2, 0)])", .bool true), (.str "(3, [(0, 1, 1), (0, 2, 1), (1, 1, 2), (1, 2, 0), (2, 1, 0), (2, 2, 2)])", .bool true), (.str "(3, [(0, 1, 1), (0, 2, 2), (1, 1, 2), (1, 2, 0), (2, 1, 0), (2, 2, 1)])", .bool true), (.str "(3, [(0, 1, 1), (0, 2, 0), (1, 1, 2), (1, 2, 2), (2, 1, 0), (2, 2, 1)])", .bool true), (.str "(3, [(0, 1, 1), (0, 2, 0), (1, 1, 2), (1, 2, 1), (2, 1, 0), (2, 2, 2)])", .bool true), (.str "(3, [(0, 1, 0), (0, 2, 1), (1, 1, 2), (1, 2, 0), (2, 1, 1), (2, 2, 2)])", .bool true), (.str "(3, [(0, 1, 0), (0, 2, 1), (1, 1, 2), (1, 2, 2), (2, 1, 1), (2, 2, 0)])", .bool true)]), some (0, .int (24)), a6, a7, a8, a9] = some (.nx [some (0, .int 2), some (0, .int 3), a2, a3, some (9, .dict [(.str "(3, [(0, 1, 1), (0, 2, 2), (1, 1, 0), (1, 2, 0), (2, 1, 2), (2, 2, 1)])", .bool true), (.str "(3, [(0, 1, 1), (0, 2, 2), (1, 1, 0), (1, 2, 1), (2, 1, 2), (2, 2, 0)])", .bool true), (.str "(3, [(0, 1, 1), (0, 2, 1), (1, 1, 0), (1, 2, 2), (2, 1, 2), (2, 2, 0)])", .bool true), (.str "(3, [(0, 1, 1), (0, 2, 0), (1, 1, 0), (1, 2, 2), (2, 1, 2), (2, 2, 1)])", .bool true), (.str "(3, [(0, 1, 1), (0, 2, 2), (1, 1, 2), (1, 2, 1), (2, 1, 0), (2, 2, 0)])", .bool true), (.str "(3, [(0, 1, 1), (0, 2, 1), (1, 1, 2), (1, 2, 2), (2, 1, 0), (2, 2, 0)])", .bool true), (.str "(3, [(0, 1, 1), (0, 2, 1), (1, 1, 2), (1, 2, 0), (2, 1, 0), (2, 2, 2)])", .bool true), (.str "(3, [(0, 1, 1), (0, 2, 2), (1, 1, 2), (1, 2, 0), (2, 1, 0), (2, 2, 1)])", .bool true), (.str "(3, [(0, 1, 1), (0, 2, 0), (1, 1, 2), (1, 2, 2), (2, 1, 0), (2, 2, 1)])", .bool true), (.str "(3, [(0, 1, 1), (0, 2, 0), (1, 1, 2), (1, 2, 1), (2, 1, 0), (2, 2, 2)])", .bool true), (.str "(3, [(0, 1, 0), (0, 2, 1), (1, 1, 2), (1, 2, 0), (2, 1, 1), (2, 2, 2)])", .bool true), (.str "(3, [(0, 1, 0), (0, 2, 1), (1, 1, 2), (1, 2, 2), (2, 1, 1), (2, 2, 0)])", .bool true), (.str "(3, [(0, 1, 0), (0, 2, 1), (1, 1, 1), (1, 2, 2), (2, 1, 2), (2, 2, 0)])", .bool true)]), some (0, .int (25)), some (0, .list [.list [.int (0), .int (1), .int (2)], .list [.int (1), .int (2), .int (0)]]), a7, some (2, .tuple [.int (3), .list [.tuple [.int (0), .int (1), .int (0)], .tuple [.int (0), .int (2), .int (1)], .tuple [.int (1), .int (1), .int (1)], .tuple [.int (1), .int (2), .int (2)], .tuple [.int (2), .int (1), .int (2)], .tuple [.int (2), .int (2), .int (0)]]]), a9]) := by kernel_rfl
theorem b_t8 (a2 a3 a6 a7 a8 a9 : Option Slot) : forl F5 b_c8 [some (0, .int 2), some (0, .int 3), a2, a3, some (9, .dict [(.str "(3, [(0, 1, 1), (0, 2, 2), (1, 1, 0), (1, 2, 0), (2, 1, 2), (2, 2, 1)])", .bool true), (.str "(3, [(0, 1, 1), (0, 2, 2), (1, 1, 0), (1, 2, 1), (2, 1, 2), (2, 2, 0)])", .bool true), (.str "(3, [(0, 1, 1), (0, 2, 1), (1, 1, 0), (1, 2, 2), (2, 1, 2), (2, 2, 0)])", .bool true), (.str "(3, [(0, 1, 1), (0, 2, 0), (1, 1, 0), (1, 2, 2), (2, 1, 2), (2, 2, 1)])", .bool true), (.str "(3, [(0, 1, 1), (0, 2, 2), (1, 1, 2), (1, 2, 1), (2, 1, 0), (2, 2, 0)])", .bool true), (.str "(3, [(0, 1, 1), (0, 2, 1), (1, 1, 2), (1, 2, 2), (2, 1, 0), (2, 2, 0)])", .bool true), (.str "(3, [(0, 1, 1), (0, 2, 1), (1, 1, 2), (1, 2, 0), (2, 1, 0), (2, 2, 2)])", .bool true), (.str "(3, [(0, 1, 1), (0, 2, 2), (1, 1, 2), (1, 2, 0), (2, 1, 0), (2, 2, 1)])", .bool true), (.str "(3, [(0, 1, 1), (0, 2, 0), (1, 1, 2), (1, 2, 2), (2, 1, 0), (2, 2, 1)])", .bool true), (.str "(3, [(0, 1, 1), (0, 2, 0), (1, 1, 2), (1, 2, 1), (2, 1, 0), (2, 2, 2)])", .bool true), (.str "(3, [(0, 1, 0), (0, 2, 1), (1, 1, 2), (1, 2, 0), (2, 1, 1), (2, 2, 2)])", .bool true), (.str "(3, [(0, 1, 0), (0, 2, 1), (1, 1, 2), (1, 2, 2), (2, 1, 1), (2, 2, 0)])", .bool true), (.str "(3, [(0, 1, 0), (0, 2, 1), (1, 1, 1), (1, 2, 2), (2, 1, 2), (2, 2, 0)])", .bool true)]), some (0, .int (25)), a6, a7, a8, a9] = some (.nx [some (0, .int 2), some (0, .int 3), a2, a3, some (9, .dict [(.str "(3, [(0, 1, 1), (0, 2, 2), (1, 1, 0), (1, 2, 0), (2, 1, 2), (2, 2, 1)])", .bool true), (.str "(3, [(0, 1, 1), (0, 2, 2), (1, 1, 0), (1, 2, 1), (2, 1, 2), (2, 2, 0)])", .bool true), (.str "(3, [(0, 1, 1), (0, 2, 1), (1, 1, 0), (1, 2, 2), (2, 1, 2), (2, 2, 0)])", .bool true), (.str "(3, [(0, 1, 1), (0, 2, 0), (1, 1, 0), (1, 2, 2), (2, 1, 2), (2, 2, 1)])", .bool true), (.str "(3, [(0, 1, 1), (0, 2, 2), (1, 1, 2), (1, 2, 1), (2, 1, 0), (2, 2, 0)])", .bool true), (.str "(3, [(0, 1, 1), (0, 2, 1), (1, 1, 2), (1, 2, 2), (2, 1, 0), (2, 2, 0)])", .bool true), (.str "(3, [(0, 1, 1), (0, 2, 1), (1, 1, 2), (1, 2, 0), (2, 1, 0), (2, 2, 2)])", .bool true), (.str "(3, [(0, 1, 1), (0, 2, 2), (1, 1, 2), (1, 2, 0), (2, 1, 0), (2, 2, 1)])", .bool true), (.str "(3, [(0, 1, 1), (0, 2, 0), (1, 1, 2), (1, 2, 2), (2, 1, 0), (2, 2, 1)])", .bool true), (.str "(3, [(0, 1, 1), (0, 2, 0), (1, 1, 2), (1, 2, 1), (2, 1, 0), (2, 2, 2)])", .bool true), (.str "(3, [(0, 1, 0), (0, 2, 1), (1, 1, 2), (1, 2, 0), (2, 1, 1), (2, 2, 2)])", .bool true), (.str "(3, [(0, 1, 0), (0, 2, 1), (1, 1, 2), (1, 2, 2), (2, 1, 1), (2, 2, 0)])", .bool true), (.str "(3, [(0, 1, 0), (0, 2, 1), (1, 1, 1), (1, 2, 2), (2, 1, 2), (2, 2, 0)])", .bool true)]), some (0, .int (26)), some (0, .list [.list [.int (0), .int (1), .int (2)], .list [.int (0), .int (1), .int (2)]]), a7, some (2, .tuple [.int (1), .list [.tuple [.int (0), .int (1), .int (0)], .tuple [.int (0), .int (2), .int (0)]]]), a9]) := by kernel_rfl
theorem b_walk (a2 a3 a6 a7 a8 a9 : Option Slot) : forl F5 b_all [some (0, .int 2), some (0, .int 3), a2, a3, some (9, .dict []), some (0, .int (0)), a6, a7, a8, a9] = some (.nx [some (0, .int 2), some (0, .int 3), a2, a3, some (9, .dict [(.str "(3, [(0, 1, 1), (0, 2, 2), (1, 1, 0), (1, 2, 0), (2, 1, 2), (2, 2, 1)])", .bool true), (.str "(3, [(0, 1, 1), (0, 2, 2), (1, 1, 0), (1, 2, 1), (2, 1, 2), (2, 2, 0)])", .bool true), (.str "(3, [(0, 1, 1), (0, 2, 1), (1, 1, 0), (1, 2, 2), (2, 1, 2), (2, 2, 0)])", .bool true), (.str "(3, [(0, 1, 1), (0, 2, 0), (1, 1, 0), (1, 2, 2), (2, 1, 2), (2, 2, 1)])", .bool true), (.str "(3, [(0, 1, 1), (0, 2, 2), (1, 1, 2), (1, 2, 1), (2, 1, 0), (2, 2, 0)])", .bool true), (.str "(3, [(0, 1, 1), (0, 2, 1), (1, 1, 2), (1, 2, 2), (2, 1, 0), (2, 2, 0)])", .bool true), (.str "(3, [(0, 1, 1), (0, 2, 1), (1, 1, 2), (1, 2, 0), (2, 1, 0), (2, 2, 2)])", .bool true), (.str "(3, [(0, 1, 1), (0, 2, 2), (1, 1, 2), (1, 2, 0), (2, 1, 0), (2, 2, 1)])", .bool true), (.str "(3, [(0, 1, 1), (0, 2, 0), (1, 1, 2), (1, 2, 2), (2, 1, 0), (2, 2, 1)])", .bool true), (.str "(3, [(0, 1, 1), (0, 2, 0), (1, 1, 2), (1, 2, 1), (2, 1, 0), (2, 2, 2)])", .bool true), (.str "(3, [(0, 1, 0), (0, 2, 1), (1, 1, 2), (1, 2, 0), (2, 1, 1), (2, 2, 2)])", .bool true), (.str "(3, [(0, 1, 0), (0, 2, 1), (1, 1, 2), (1, 2, 2), (2, 1, 1), (2, 2, 0)])", .bool true), (.str "(3, [(0, 1, 0), (0, 2, 1), (1, 1, 1), (1, 2, 2), (2, 1, 2), (2, 2, 0)])", .bool true)]), some (0, .int (26)), some (0, .list [.list [.int (0), .int (1), .int (2)], .list [.int (0), .int (1), .int (2)]]), a7, some (2, .tuple [.int (1), .list [.tuple [.int (0), .int (1), .int (0)], .tuple [.int (0), .int (2), .int (0)]]]), a9]) := by
  unfold b_all
  rw [forl_append (b_t0 _ _ _ _ _ _)]
  rw [forl_append (b_t1 _ _ _ _ _ _)]
  rw [forl_append (b_t2 _ _ _ _ _ _)]
  rw [forl_append (b_t3 _ _ _ _ _ _)]
  rw [forl_append (b_t4 _ _ _ _ _ _)]
  rw [forl_append (b_t5 _ _ _ _ _ _)]
  rw [forl_append (b_t6 _ _ _ _ _ _)]
  rw [forl_append (b_t7 _ _ _ _ _ _)]
  exact b_t8 _ _ _ _ _ _
theorem b_pre : evSs C5 (start 10 [.int 2, .int 3]) (b__law_searched.take 4) = some (.nx [some (0, .int (2)), some (0, .int (3)), some (0, .list [.list [.list [.int (2), .int (1), .int (0)], .list [.int (2), .int (1), .int (0)]], .list [.list [.int (2), .int (1), .int (0)], .list [.int (1), .int (2), .int (0)]], .list [.list [.int (2), .int (1), .int (0)], .list [.int (1), .int (0), .int (2)]], .list [.list [.int (2), .int (1), .int (0)], .list [.int (2), .int (0), .int (1)]], .list [.list [.int (2), .int (1), .int (0)], .list [.int (0), .int (2), .int (1)]], .list [.list [.int (2), .int (1), .int (0)], .list [.int (0), .int (1), .int (2)]], .list [.list [.int (1), .int (2), .int (0)], .list [.int (2), .int (1), .int (0)]], .list [.list [.int (1), .int (2), .int (0)], .list [.int (1), .int (2), .int (0)]], .list [.list [.int (1), .int (2), .int (0)], .list [.int (1), .int (0), .int (2)]], .list [.list [.int (1), .int (2), .int (0)], .list [.int (2), .int (0), .int (1)]], .list [.list [.int (1), .int (2), .int (0)], .list [.int (0), .int (2), .int (1)]], .list [.list [.int (1), .int (2), .int (0)], .list [.int (0), .int (1), .int (2)]], .list [.list [.int (1), .int (0), .int (2)], .list [.int (2), .int (1), .int (0)]], .list [.list [.int (1), .int (0), .int (2)], .list [.int (1), .int (2), .int (0)]], .list [.list [.int (1), .int (0), .int (2)], .list [.int (1), .int (0), .int (2)]], .list [.list [.int (1), .int (0), .int (2)], .list [.int (2), .int (0), .int (1)]], .list [.list [.int (1), .int (0), .int (2)], .list [.int (0), .int (2), .int (1)]], .list [.list [.int (1), .int (0), .int (2)], .list [.int (0), .int (1), .int (2)]], .list [.list [.int (2), .int (0), .int (1)], .list [.int (2), .int (1), .int (0)]], .list [.list [.int (2), .int (0), .int (1)], .list [.int (1), .int (2), .int (0)]], .list [.list [.int (2), .int (0), .int (1)], .list [.int (1), .int (0), .int (2)]], .list [.list [.int (2), .int (0), .int (1)], .list [.int (2), .int (0), .int (1)]], .list [.list [.int (2), .int (0), .int (1)], .list [.int (0), .int (2), .int (1)]], .list [.list [.int (2), .int (0), .int (1)], .list [.int (0), .int (1), .int (2)]], .list [.list [.int (0), .int (2), .int (1)], .list [.int (2), .int (1), .int (0)]], .list [.list [.int (0), .int (2), .int (1)], .list [.int (1), .int (2), .int (0)]], .list [.list [.int (0), .int (2), .int (1)], .list [.int (1), .int (0), .int (2)]], .list [.list [.int (0), .int (2), .int (1)], .list [.int (2), .int (0), .int (1)]], .list [.list [.int (0), .int (2), .int (1)], .list [.int (0), .int (2), .int (1)]], .list [.list [.int (0), .int (2), .int (1)], .list [.int (0), .int (1), .int (2)]], .list [.list [.int (0), .int (1), .int (2)], .list [.int (2), .int (1), .int (0)]], .list [.list [.int (0), .int (1), .int (2)], .list [.int (1), .int (2), .int (0)]], .list [.list [.int (0), .int (1), .int (2)], .list [.int (1), .int (0), .int (2)]], .list [.list [.int (0), .int (1), .int (2)], .list [.int (2), .int (0), .int (1)]], .list [.list [.int (0), .int (1), .int (2)], .list [.int (0), .int (2), .int (1)]], .list [.list [.int (0), .int (1), .int (2)], .list [.int (0), .int (1), .int (2)]]]), some (0, .int (1)), some (9, .dict []), some (0, .int (0)), some (0, .list [.list [.int (0), .int (1), .int (2)]]), some (0, .list [.list [.list [.int (2), .int (1), .int (0)], .list [.int (2), .int (1), .int (0)]], .list [.list [.int (2), .int (1), .int (0)], .list [.int (1), .int (2), .int (0)]], .list [.list [.int (2), .int (1), .int (0)], .list [.int (1), .int (0), .int (2)]], .list [.list [.int (2), .int (1), .int (0)], .list [.int (2), .int (0), .int (1)]], .list [.list [.int (2), .int (1), .int (0)], .list [.int (0), .int (2), .int (1)]], .list [.list [.int (2), .int (1), .int (0)], .list [.int (0), .int (1), .int (2)]], .list [.list [.int (1), .int (2), .int (0)], .list [.int (2), .int (1), .int (0)]], .list [.list [.int (1), .int (2), .int (0)], .list [.int (1), .int (2), .int (0)]], .list [.list [.int (1), .int (2), .int (0)], .list [.int (1), .int (0), .int (2)]], .list [.list [.int (1), .int (2), .int (0)], .list [.int (2), .int (0), .int (1)]], .list [.list [.int (1), .int (2), .int (0)], .list [.int (0), .int (2), .int (1)]], .list [.list [.int (1), .int (2), .int (0)], .list [.int (0), .int (1), .int (2)]], .list [.list [.int (1), .int (0), .int (2)], .list [.int (2), .int (1), .int (0)]], .list [.list [.int (1), .int (0), .int (2)], .list [.int (1), .int (2), .int (0)]], .list [.list [.int (1), .int (0), .int (2)], .list [.int (1), .int (0), .int (2)]], .list [.list [.int (1), .int (0), .int (2)], .list [.int (2), .int (0), .int (1)]], .list [.list [.int (1), .int (0), .int (2)], .list [.int (0), .int (2), .int (1)]], .list [.list [.int (1), .int (0), .int (2)], .list [.int (0), .int (1), .int (2)]], .list [.list [.int (2), .int (0), .int (1)], .list [.int (2), .int (1), .int (0)]], .list [.list [.int (2), .int (0), .int (1)], .list [.int (1), .int (2), .int (0)]], .list [.list [.int (2), .int (0), .int (1)], .list [.int (1), .int (0), .int (2)]], .list [.list [.int (2), .int (0), .int (1)], .list [.int (2), .int (0), .int (1)]], .list [.list [.int (2), .int (0), .int (1)], .list [.int (0), .int (2), .int (1)]], .list [.list [.int (2), .int (0), .int (1)], .list [.int (0), .int (1), .int (2)]], .list [.list [.int (0), .int (2), .int (1)], .list [.int (2), .int (1), .int (0)]], .list [.list [.int (0), .int (2), .int (1)], .list [.int (1), .int (2), .int (0)]], .list [.list [.int (0), .int (2), .int (1)], .list [.int (1), .int (0), .int (2)]], .list [.list [.int (0), .int (2), .int (1)], .list [.int (2), .int (0), .int (1)]], .list [.list [.int (0), .int (2), .int (1)], .list [.int (0), .int (2), .int (1)]], .list [.list [.int (0), .int (2), .int (1)], .list [.int (0), .int (1), .int (2)]], .list [.list [.int (0), .int (1), .int (2)], .list [.int (2), .int (1), .int (0)]], .list [.list [.int (0), .int (1), .int (2)], .list [.int (1), .int (2), .int (0)]], .list [.list [.int (0), .int (1), .int (2)], .list [.int (1), .int (0), .int (2)]], .list [.list [.int (0), .int (1), .int (2)], .list [.int (2), .int (0), .int (1)]], .list [.list [.int (0), .int (1), .int (2)], .list [.int (0), .int (2), .int (1)]], .list [.list [.int (0), .int (1), .int (2)], .list [.int (0), .int (1), .int (2)]]]), none, none]) := by kernel_rfl
end K69
/- part K69d -/
namespace K69
open PySem Wc
theorem callN_at {P : Nat → Option FDef} {k i : Nat} {f : FDef} {vs : List D} (h : P i = some f) : callN P (k + 1) i vs = runF (callN P k) f vs := by simp only [callN, h]
theorem runF_body {C : Orc} {f : FDef} {vs : List D} {d : D} {m : Nat} (h : vs.length = f.np) (e : evSs C (start f.ns vs) f.body = some (.rt d m)) : runF C f vs = some (d, m) := by
  unfold runF
  rw [if_pos h, e]
def a_env : Wc.Env := [some (0, .int (1)), some (0, .int (5)), some (0, .list [.list [.list [.int (4), .int (3), .int (2), .int (1), .int (0)]], .list [.list [.int (3), .int (4), .int (2), .int (1), .int (0)]], .list [.list [.int (3), .int (2), .int (4), .int (1), .int (0)]], .list [.list [.int (3), .int (2), .int (1), .int (4), .int (0)]], .list [.list [.int (3), .int (2), .int (1), .int (0), .int (4)]], .list [.list [.int (4), .int (2), .int (3), .int (1), .int (0)]], .list [.list [.int (2), .int (4), .int (3), .int (1), .int (0)]], .list [.list [.int (2), .int (3), .int (4), .int (1), .int (0)]], .list [.list [.int (2), .int (3), .int (1), .int (4), .int (0)]], .list [.list [.int (2), .int (3), .int (1), .int (0), .int (4)]], .list [.list [.int (4), .int (2), .int (1), .int (3), .int (0)]], .list [.list [.int (2), .int (4), .int (1), .int (3), .int (0)]], .list [.list [.int (2), .int (1), .int (4), .int (3), .int (0)]], .list [.list [.int (2), .int (1), .int (3), .int (4), .int (0)]], .list [.list [.int (2), .int (1), .int (3), .int (0), .int (4)]], .list [.list [.int (4), .int (2), .int (1), .int (0), .int (3)]], .list [.list [.int (2), .int (4), .int (1), .int (0), .int (3)]], .list [.list [.int (2), .int (1), .int (4), .int (0), .int (3)]], .list [.list [.int (2), .int (1), .int (0), .int (4), .int (3)]], .list [.list [.int (2), .int (1), .int (0), .int (3), .int (4)]], .list [.list [.int (4), .int (3), .int (1), .int (2), .int (0)]], .list [.list [.int (3), .int (4), .int (1), .int (2), .int (0)]], .list [.list [.int (3), .int (1), .int (4), .int (2), .int (0)]], .list [.list [.int (3), .int (1), .int (2), .int (4), .int (0)]], .list [.list [.int (3), .int (1), .int (2), .int (0), .int (4)]], .list [.list [.int (4), .int (1), .int (3), .int (2), .int (0)]], .list [.list [.int (1), .int (4), .int (3), .int (2), .int (0)]], .list [.list [.int (1), .int (3), .int (4), .int (2), .int (0)]], .list [.list [.int (1), .int (3), .int (2), .int (4), .int (0)]], .list [.list [.int (1), .int (3), .int (2), .int (0), .int (4)]], .list [.list [.int (4), .int (1), .int (2), .int (3), .int (0)]], .list [.list [.int (1), .int (4), .int (2), .int (3), .int (0)]], .list [.list [.int (1), .int (2), .int (4), .int (3), .int (0)]], .list [.list [.int (1), .int (2), .int (3), .int (4), .int (0)]], .list [.list [.int (1), .int (2), .int (3), .int (0), .int (4)]], .list [.list [.int (4), .int (1), .int (2), .int (0), .int (3)]], .list [.list [.int (1), .int (4), .int (2), .int (0), .int (3)]], .list [.list [.int (1), .int (2), .int (4), .int (0), .int (3)]], .list [.list [.int (1), .int (2), .int (0), .int (4), .int (3)]], .list [.list [.int (1), .int (2), .int (0), .int (3), .int (4)]], .list [.list [.int (4), .int (3), .int (1), .int (0), .int (2)]], .list [.list [.int (3), .int (4), .int (1), .int (0), .int (2)]], .list [.list [.int (3), .int (1), .int (4), .int (0), .int (2)]], .list [.list [.int (3), .int (1), .int (0), .int (4), .int (2)]], .list [.list [.int (3), .int (1), .int (0), .int (2), .int (4)]], .list [.list [.int (4), .int (1), .int (3), .int (0), .int (2)]], .list [.list [.int (1), .int (4), .int (3), .int (0), .int (2)]], .list [.list [.int (1), .int (3), .int (4), .int (0), .int (2)]], .list [.list [.int (1), .int (3), .int (0), .int (4), .int (2)]], .list [.list [.int (1), .int (3), .int (0), .int (2), .int (4)]], .list [.list [.int (4), .int (1), .int (0), .int (3), .int (2)]], .list [.list [.int (1), .int (4), .int (0), .int (3), .int (2)]], .list [.list [.int (1), .int (0), .int (4), .int (3), .int (2)]], .list [.list [.int (1), .int (0), .int (3), .int (4), .int (2)]], .list [.list [.int (1), .int (0), .int (3), .int (2), .int (4)]], .list [.list [.int (4), .int (1), .int (0), .int (2), .int (3)]], .list [.list [.int (1), .int (4), .int (0), .int (2), .int (3)]], .list [.list [.int (1), .int (0), .int (4), .int (2), .int (3)]], .list [.list [.int (1), .int (0), .int (2), .int (4), .int (3)]], .list [.list [.int (1), .int (0), .int (2), .int (3), .int (4)]], .list [.list [.int (4), .int (3), .int (2), .int (0), .int (1)]], .list [.list [.int (3), .int (4), .int (2), .int (0), .int (1)]], .list [.list [.int (3), .int (2), .int (4), .int (0), .int (1)]], .list [.list [.int (3), .int (2), .int (0), .int (4), .int (1)]], .list [.list [.int (3), .int (2), .int (0), .int (1), .int (4)]], .list [.list [.int (4), .int (2), .int (3), .int (0), .int (1)]], .list [.list [.int (2), .int (4), .int (3), .int (0), .int (1)]], .list [.list [.int (2), .int (3), .int (4), .int (0), .int (1)]], .list [.list [.int (2), .int (3), .int (0), .int (4), .int (1)]], .list [.list [.int (2), .int (3), .int (0), .int (1), .int (4)]], .list [.list [.int (4), .int (2), .int (0), .int (3), .int (1)]], .list [.list [.int (2), .int (4), .int (0), .int (3), .int (1)]], .list [.list [.int (2), .int (0), .int (4), .int (3), .int (1)]], .list [.list [.int (2), .int (0), .int (3), .int (4), .int (1)]], .list [.list [.int (2), .int (0), .int (3), .int (1), .int (4)]], .list [.list [.int (4), .int (2), .int (0), .int (1), .int (3)]], .list [.list [.int (2), .int (4), .int (0), .int (1), .int (3)]], .list [.list [.int (2), .int (0), .int (4), .int (1), .int (3)]], .list [.list [.int (2), .int (0), .int (1), .int (4), .int (3)]], .list [.list [.int (2), .int (0), .int (1), .int (3), .int (4)]], .list [.list [.int (4), .int (3), .int (0), .int (2), .int (1)]], .list [.list [.int (3), .int (4), .int (0), .int (2), .int (1)]], .list [.list [.int (3), .int (0), .int (4), .int (2), .int (1)]], .list [.list [.int (3), .int (0), .int (2), .int (4), .int (1)]], .list [.list [.int (3), .int (0), .int (2), .int (1), .int (4)]], .list [.list [.int (4), .int (0), .int (3), .int (2), .int (1)]], .list [.list [.int (0), .int (4), .int (3), .int (2), .int (1)]], .list [.list [.int (0), .int (3), .int (4), .int (2), .int (1)]], .list [.list [.int (0), .int (3), .int (2), .int (4), .int (1)]], .list [.list [.int (0), .int (3), .int (2), .int (1), .int (4)]], .list [.list [.int (4), .int (0), .int (2), .int (3), .int (1)]], .list [.list [.int (0), .int (4), .int (2), .int (3), .int (1)]], .list [.list [.int (0), .int (2), .int (4), .int (3), .int (1)]], .list [.list [.int (0), .int (2), .int (3), .int (4), .int (1)]], .list [.list [.int (0), .int (2), .int (3), .int (1), .int (4)]], .list [.list [.int (4), .int (0), .int (2), .int (1), .int (3)]], .list [.list [.int (0), .int (4), .int (2), .int (1), .int (3)]], .list [.list [.int (0), .int (2), .int (4), .int (1), .int (3)]], .list [.list [.int (0), .int (2), .int (1), .int (4), .int (3)]], .list [.list [.int (0), .int (2), .int (1), .int (3), .int (4)]], .list [.list [.int (4), .int (3), .int (0), .int (1), .int (2)]], .list [.list [.int (3), .int (4), .int (0), .int (1), .int (2)]], .list [.list [.int (3), .int (0), .int (4), .int (1), .int (2)]], .list [.list [.int (3), .int (0), .int (1), .int (4), .int (2)]], .list [.list [.int (3), .int (0), .int (1), .int (2), .int (4)]], .list [.list [.int (4), .int (0), .int (3), .int (1), .int (2)]], .list [.list [.int (0), .int (4), .int (3), .int (1), .int (2)]], .list [.list [.int (0), .int (3), .int (4), .int (1), .int (2)]], .list [.list [.int (0), .int (3), .int (1), .int (4), .int (2)]], .list [.list [.int (0), .int (3), .int (1), .int (2), .int (4)]], .list [.list [.int (4), .int (0), .int (1), .int (3), .int (2)]], .list [.list [.int (0), .int (4), .int (1), .int (3), .int (2)]], .list [.list [.int (0), .int (1), .int (4), .int (3), .int (2)]], .list [.list [.int (0), .int (1), .int (3), .int (4), .int (2)]], .list [.list [.int (0), .int (1), .int (3), .int (2), .int (4)]], .list [.list [.int (4), .int (0), .int (1), .int (2), .int (3)]], .list [.list [.int (0), .int (4), .int (1), .int (2), .int (3)]], .list [.list [.int (0), .int (1), .int (4), .int (2), .int (3)]], .list [.list [.int (0), .int (1), .int (2), .int (4), .int (3)]], .list [.list [.int (0), .int (1), .int (2), .int (3), .int (4)]]]), some (0, .int (0)), some (9, .dict []), some (0, .int (0)), some (0, .list []), some (0, .list [.list [.list [.int (4), .int (3), .int (2), .int (1), .int (0)]], .list [.list [.int (3), .int (4), .int (2), .int (1), .int (0)]], .list [.list [.int (3), .int (2), .int (4), .int (1), .int (0)]], .list [.list [.int (3), .int (2), .int (1), .int (4), .int (0)]], .list [.list [.int (3), .int (2), .int (1), .int (0), .int (4)]], .list [.list [.int (4), .int (2), .int (3), .int (1), .int (0)]], .list [.list [.int (2), .int (4), .int (3), .int (1), .int (0)]], .list [.list [.int (2), .int (3), .int (4), .int (1), .int (0)]], .list [.list [.int (2), .int (3), .int (1), .int (4), .int (0)]], .list [.list [.int (2), .int (3), .int (1), .int (0), .int (4)]], .list [.list [.int (4), .int (2), .int (1), .int (3), .int (0)]], .list [.list [.int (2), .int (4), .int (1), .int (3), .int (0)]], .list [.list [.int (2), .int (1), .int (4), .int (3), .int (0)]], .list [.list [.int (2), .int (1), .int (3), .int (4), .int (0)]], .list [.list [.int (2), .int (1), .int (3), .int (0), .int (4)]], .list [.list [.int (4), .int (2), .int (1), .int (0), .int (3)]], .list [.list [.int (2), .int (4), .int (1), .int (0), .int (3)]], .list [.list [.int (2), .int (1), .int (4), .int (0), .int (3)]], .list [.list [.int (2), .int (1), .int (0), .int (4), .int (3)]], .list [.list [.int (2), .int (1), .int (0), .int (3), .int (4)]], .list [.list [.int (4), .int (3), .int (1), .int (2), .int (0)]], .list [.list [.int (3), .int (4), .int (1), .int (2), .int (0)]], .list [.list [.int (3), .int (1), .int (4), .int (2), .int (0)]], .list [.list [.int (3), .int (1), .int (2), .int (4), .int (0)]], .list [.list [.int (3), .int (1), .int (2), .int (0), .int (4)]], .list [.list [.int (4), .int (1), .int (3), .int (2), .int (0)]], .list [.list [.int (1), .int (4), .int (3), .int (2), .int (0)]], .list [.list [.int (1), .int (3), .int (4), .int (2), .int (0)]], .list [.list [.int (1), .int (3), .int (2), .int (4), .int (0)]], .list [.list [.int (1), .int (3), .int (2), .int (0), .int (4)]], .list [.list [.int (4), .int (1), .int (2), .int (3), .int (0)]], .list [.list [.int (1), .int (4), .int (2), .int (3), .int (0)]], .list [.list [.int (1), .int (2), .int (4), .int (3), .int (0)]], .list [.list [.int (1), .int (2), .int (3), .int (4), .int (0)]], .list [.list [.int (1), .int (2), .int (3), .int (0), .int (4)]], .list [.list [.int (4), .int (1), .int (2), .int (0), .int (3)]], .list [.list [.int (1), .int (4), .int (2), .int (0), .int (3)]], .list [.list [.int (1), .int (2), .int (4), .int (0), .int (3)]], .list [.list [.int (1), .int (2), .int (0), .int (4), .int (3)]], .list [.list [.int (1), .int (2), .int (0), .int (3), .int (4)]], .list [.list [.int (4), .int (3), .int (1), .int (0), .int (2)]], .list [.list [.int (3), .int (4), .int (1), .int (0), .int (2)]], .list [.list [.int (3), .int (1), .int (4), .int (0), .int (2)]], .list [.list [.int (3), .int (1), .int (0), .int (4), .int (2)]], .list [.list [.int (3), .int (1), .int (0), .int (2), .int (4)]], .list [.list [.int (4), .int (1), .int (3), .int (0), .int (2)]], .list [.list [.int (1), .int (4), .int (3), .int (0), .int (2)]], .list [.list [.int (1), .int (3), .int (4), .int (0), .int (2)]], .list [.list [.int (1), .int (3), .int (0), .int (4), .int (2)]], .list [.list [.int (1), .int (3), .int (0), .int (2), .int (4)]], .list [.list [.int (4), .int (1), .int (0), .int (3), .int (2)]], .list [.list [.int (1), .int (4), .int (0), .int (3), .int (2)]], .list [.list [.int (1), .int (0), .int (4), .int (3), .int (2)]], .list [.list [.int (1), .int (0), .int (3), .int (4), .int (2)]], .list [.list [.int (1), .int (0), .int (3), .int (2), .int (4)]], .list [.list [.int (4), .int (1), .int (0), .int (2), .int (3)]], .list [.list [.int (1), .int (4), .int (0), .int (2), .int (3)]], .list [.list [.int (1), .int (0), .int (4), .int (2), .int (3)]], .list [.list [.int (1), .int (0), .int (2), .int (4), .int (3)]], .list [.list [.int (1), .int (0), .int (2), .int (3), .int (4)]], .list [.list [.int (4), .int (3), .int (2), .int (0), .int (1)]], .list [.list [.int (3), .int (4), .int (2), .int (0), .int (1)]], .list [.list [.int (3), .int (2), .int (4), .int (0), .int (1)]], .list [.list [.int (3), .int (2), .int (0), .int (4), .int (1)]], .list [.list [.int (3), .int (2), .int (0), .int (1), .int (4)]], .list [.list [.int (4), .int (2), .int (3), .int (0), .int (1)]], .list [.list [.int (2), .int (4), .int (3), .int (0), .int (1)]], .list [.list [.int (2), .int (3), .int (4), .int (0), .int (1)]], .list [.list [.int (2), .int (3), .int (0), .int (4), .int (1)]], .list [.list [.int (2), .int (3), .int (0), .int (1), .int (4)]], .list [.list [.int (4), .int (2), .int (0), .int (3), .int (1)]], .list [.list [.int (2), .int (4), .int (0), .int (3), .int (1)]], .list [.list [.int (2), .int (0), .int (4), .int (3), .int (1)]], .list [.list [.int (2), .int (0), .int (3), .int (4), .int (1)]], .list [.list [.int (2), .int (0), .int (3), .int (1), .int (4)]], .list [.list [.int (4), .int (2), .int (0), .int (1), .int (3)]], .list [.list [.int (2), .int (4), .int (0), .int (1), .int (3)]], .list [.list [.int (2), .int (0), .int (4), .int (1), .int (3)]], .list [.list [.int (2), .int (0), .int (1), .int (4), .int (3)]], .list [.list [.int (2), .int (0), .int (1), .int (3), .int (4)]], .list [.list [.int (4), .int (3), .int (0), .int (2), .int (1)]], .list [.list [.int (3), .int (4), .int (0), .int (2), .int (1)]], .list [.list [.int (3), .int (0), .int (4), .int (2), .int (1)]], .list [.list [.int (3), .int (0), .int (2), .int (4), .int (1)]], .list [.list [.int (3), .int (0), .int (2), .int (1), .int (4)]], .list [.list [.int (4), .int (0), .int (3), .int (2), .int (1)]], .list [.list [.int (0), .int (4), .int (3), .int (2), .int (1)]], .list [.list [.int (0), .int (3), .int (4), .int (2), .int (1)]], .list [.list [.int (0), .int (3), .int (2), .int (4), .int (1)]], .list [.list [.int (0), .int (3), .int (2), .int (1), .int (4)]], .list [.list [.int (4), .int (0), .int (2), .int (3), .int (1)]], .list [.list [.int (0), .int (4), .int (2), .int (3), .int (1)]], .list [.list [.int (0), .int (2), .int (4), .int (3), .int (1)]], .list [.list [.int (0), .int (2), .int (3), .int (4), .int (1)]], .list [.list [.int (0), .int (2), .int (3), .int (1), .int (4)]], .list [.list [.int (4), .int (0), .int (2), .int (1), .int (3)]], .list [.list [.int (0), .int (4), .int (2), .int (1), .int (3)]], .list [.list [.int (0), .int (2), .int (4), .int (1), .int (3)]], .list [.list [.int (0), .int (2), .int (1), .int (4), .int (3)]], .list [.list [.int (0), .int (2), .int (1), .int (3), .int (4)]], .list [.list [.int (4), .int (3), .int (0), .int (1), .int (2)]], .list [.list [.int (3), .int (4), .int (0), .int (1), .int (2)]], .list [.list [.int (3), .int (0), .int (4), .int (1), .int (2)]], .list [.list [.int (3), .int (0), .int (1), .int (4), .int (2)]], .list [.list [.int (3), .int (0), .int (1), .int (2), .int (4)]], .list [.list [.int (4), .int (0), .int (3), .int (1), .int (2)]], .list [.list [.int (0), .int (4), .int (3), .int (1), .int (2)]], .list [.list [.int (0), .int (3), .int (4), .int (1), .int (2)]], .list [.list [.int (0), .int (3), .int (1), .int (4), .int (2)]], .list [.list [.int (0), .int (3), .int (1), .int (2), .int (4)]], .list [.list [.int (4), .int (0), .int (1), .int (3), .int (2)]], .list [.list [.int (0), .int (4), .int (1), .int (3), .int (2)]], .list [.list [.int (0), .int (1), .int (4), .int (3), .int (2)]], .list [.list [.int (0), .int (1), .int (3), .int (4), .int (2)]], .list [.list [.int (0), .int (1), .int (3), .int (2), .int (4)]], .list [.list [.int (4), .int (0), .int (1), .int (2), .int (3)]], .list [.list [.int (0), .int (4), .int (1), .int (2), .int (3)]], .list [.list [.int (0), .int (1), .int (4), .int (2), .int (3)]], .list [.list [.int (0), .int (1), .int (2), .int (4), .int (3)]], .list [.list [.int (0), .int (1), .int (2), .int (3), .int (4)]]]), none, none]
def a_envf : Wc.Env := [some (0, .int (1)), some (0, .int (5)), some (0, .list [.list [.list [.int (4), .int (3), .int (2), .int (1), .int (0)]], .list [.list [.int (3), .int (4), .int (2), .int (1), .int (0)]], .list [.list [.int (3), .int (2), .int (4), .int (1), .int (0)]], .list [.list [.int (3), .int (2), .int (1), .int (4), .int (0)]], .list [.list [.int (3), .int (2), .int (1), .int (0), .int (4)]], .list [.list [.int (4), .int (2), .int (3), .int (1), .int (0)]], .list [.list [.int (2), .int (4), .int (3), .int (1), .int (0)]], .list [.list [.int (2), .int (3), .int (4), .int (1), .int (0)]], .list [.list [.int (2), .int (3), .int (1), .int (4), .int (0)]], .list [.list [.int (2), .int (3), .int (1), .int (0), .int (4)]], .list [.list [.int (4), .int (2), .int (1), .int (3), .int (0)]], .list [.list [.int (2), .int (4), .int (1), .int (3), .int (0)]], .list [.list [.int (2), .int (1), .int (4), .int (3), .int (0)]], .list [.list [.int (2), .int (1), .int (3), .int (4), .int (0)]], .list [.list [.int (2), .int (1), .int (3), .int (0), .int (4)]], .list [.list [.int (4), .int (2), .int (1), .int (0), .int (3)]], .list [.list [.int (2), .int (4), .int (1), .int (0), .int (3)]], .list [.list [.int (2), .int (1), .int (4), .int (0), .int (3)]], .list [.list [.int (2), .int (1), .int (0), .int (4), .int (3)]], .list [.list [.int (2), .int (1), .int (0), .int (3), .int (4)]], .list [.list [.int (4), .int (3), .int (1), .int (2), .int (0)]], .list [.list [.int (3), .int (4), .int (1), .int (2), .int (0)]], .list [.list [.int (3), .int (1), .int (4), .int (2), .int (0)]], .list [.list [.int (3), .int (1), .int (2), .int (4), .int (0)]], .list [.list [.int (3), .int (1), .int (2), .int (0), .int (4)]], .list [.list [.int (4), .int (1), .int (3), .int (2), .int (0)]], .list [.list [.int (1), .int (4), .int (3), .int (2), .int (0)]], .list [.list [.int (1), .int (3), .int (4), .int (2), .int (0)]], .list [.list [.int (1), .int (3), .int (2), .int (4), .int (0)]], .list [.list [.int (1), .int (3), .int (2), .int (0), .int (4)]], .list [.list [.int (4), .int (1), .int (2), .int (3), .int (0)]], .list [.list [.int (1), .int (4), .int (2), .int (3), .int (0)]], .list [.list [.int (1), .int (2), .int (4), .int (3), .int (0)]], .list [.list [.int (1), .int (2), .int (3), .int (4), .int (0)]], .list [.list [.int (1), .int (2), .int (3), .int (0), .int (4)]], .list [.list [.int (4), .int (1), .int (2), .int (0), .int (3)]], .list [.list [.int (1), .int (4), .int (2), .int (0), .int (3)]], .list [.list [.int (1), .int (2), .int (4), .int (0), .int (3)]], .list [.list [.int (1), .int (2), .int (0), .int (4), .int (3)]], .list [.list [.int (1), .int (2), .int (0), .int (3), .int (4)]], .list [.list [.int (4), .int (3), .int (1), .int (0), .int (2)]], .list [.list [.int (3), .int (4), .int (1), .int (0), .int (2)]], .list [.list [.int (3), .int (1), .int (4), .int (0), .int (2)]], .list [.list [.int (3), .int (1), .int (0), .int (4), .int (2)]], .list [.list [.int (3), .int (1), .int (0), .int (2), .int (4)]], .list [.list [.int (4), .int (1), .int (3), .int (0), .int (2)]], .list [.list [.int (1), .int (4), .int (3), .int (0), .int (2)]], .list [.list [.int (1), .int (3), .int (4), .int (0), .int (2)]], .list [.list [.int (1), .int (3), .int (0), .int (4), .int (2)]], .list [.list [.int (1), .int (3), .int (0), .int (2), .int (4)]], .list [.list [.int (4), .int (1), .int (0), .int (3), .int (2)]], .list [.list [.int (1), .int (4), .int (0), .int (3), .int (2)]], .list [.list [.int (1), .int (0), .int (4), .int (3), .int (2)]], .list [.list [.int (1), .int (0), .int (3), .int (4), .int (2)]], .list [.list [.int (1), .int (0), .int (3), .int (2), .int (4)]], .list [.list [.int (4), .int (1), .int (0), .int (2), .int (3)]], .list [.list [.int (1), .int (4), .int (0), .int (2), .int (3)]], .list [.list [.int (1), .int (0), .int (4), .int (2), .int (3)]], .list [.list [.int (1), .int (0), .int (2), .int (4), .int (3)]], .list [.list [.int (1), .int (0), .int (2), .int (3), .int (4)]], .list [.list [.int (4), .int (3), .int (2), .int (0), .int (1)]], .list [.list [.int (3), .int (4), .int (2), .int (0), .int (1)]], .list [.list [.int (3), .int (2), .int (4), .int (0), .int (1)]], .list [.list [.int (3), .int (2), .int (0), .int (4), .int (1)]], .list [.list [.int (3), .int (2), .int (0), .int (1), .int (4)]], .list [.list [.int (4), .int (2), .int (3), .int (0), .int (1)]], .list [.list [.int (2), .int (4), .int (3), .int (0), .int (1)]], .list [.list [.int (2), .int (3), .int (4), .int (0), .int (1)]], .list [.list [.int (2), .int (3), .int (0), .int (4), .int (1)]], .list [.list [.int (2), .int (3), .int (0), .int (1), .int (4)]], .list [.list [.int (4), .int (2), .int (0), .int (3), .int (1)]], .list [.list [.int (2), .int (4), .int (0), .int (3), .int (1)]], .list [.list [.int (2), .int (0), .int (4), .int (3), .int (1)]], .list [.list [.int (2), .int (0), .int (3), .int (4), .int (1)]], .list [.list [.int (2), .int (0), .int (3), .int (1), .int (4)]], .list [.list [.int (4), .int (2), .int (0), .int (1), .int (3)]], .list [.list [.int (2), .int (4), .int (0), .int (1), .int (3)]], .list [.list [.int (2), .int (0), .int (4), .int (1), .int (3)]], .list [.list [.int (2), .int (0), .int (1), .int (4), .int (3)]], .list [.list [.int (2), .int (0), .int (1), .int (3), .int (4)]], .list [.list [.int (4), .int (3), .int (0), .int (2), .int (1)]], .list [.list [.int (3), .int (4), .int (0), .int (2), .int (1)]], .list [.list [.int (3), .int (0), .int (4), .int (2), .int (1)]], .list [.list [.int (3), .int (0), .int (2), .int (4), .int (1)]], .list [.list [.int (3), .int (0), .int (2), .int (1), .int (4)]], .list [.list [.int (4), .int (0), .int (3), .int (2), .int (1)]], .list [.list [.int (0), .int (4), .int (3), .int (2), .int (1)]], .list [.list [.int (0), .int (3), .int (4), .int (2), .int (1)]], .list [.list [.int (0), .int (3), .int (2), .int (4), .int (1)]], .list [.list [.int (0), .int (3), .int (2), .int (1), .int (4)]], .list [.list [.int (4), .int (0), .int (2), .int (3), .int (1)]], .list [.list [.int (0), .int (4), .int (2), .int (3), .int (1)]], .list [.list [.int (0), .int (2), .int (4), .int (3), .int (1)]], .list [.list [.int (0), .int (2), .int (3), .int (4), .int (1)]], .list [.list [.int (0), .int (2), .int (3), .int (1), .int (4)]], .list [.list [.int (4), .int (0), .int (2), .int (1), .int (3)]], .list [.list [.int (0), .int (4), .int (2), .int (1), .int (3)]], .list [.list [.int (0), .int (2), .int (4), .int (1), .int (3)]], .list [.list [.int (0), .int (2), .int (1), .int (4), .int (3)]], .list [.list [.int (0), .int (2), .int (1), .int (3), .int (4)]], .list [.list [.int (4), .int (3), .int (0), .int (1), .int (2)]], .list [.list [.int (3), .int (4), .int (0), .int (1), .int (2)]], .list [.list [.int (3), .int (0), .int (4), .int (1), .int (2)]], .list [.list [.int (3), .int (0), .int (1), .int (4), .int (2)]], .list [.list [.int (3), .int (0), .int (1), .int (2), .int (4)]], .list [.list [.int (4), .int (0), .int (3), .int (1), .int (2)]], .list [.list [.int (0), .int (4), .int (3), .int (1), .int (2)]], .list [.list [.int (0), .int (3), .int (4), .int (1), .int (2)]], .list [.list [.int (0), .int (3), .int (1), .int (4), .int (2)]], .list [.list [.int (0), .int (3), .int (1), .int (2), .int (4)]], .list [.list [.int (4), .int (0), .int (1), .int (3), .int (2)]], .list [.list [.int (0), .int (4), .int (1), .int (3), .int (2)]], .list [.list [.int (0), .int (1), .int (4), .int (3), .int (2)]], .list [.list [.int (0), .int (1), .int (3), .int (4), .int (2)]], .list [.list [.int (0), .int (1), .int (3), .int (2), .int (4)]], .list [.list [.int (4), .int (0), .int (1), .int (2), .int (3)]], .list [.list [.int (0), .int (4), .int (1), .int (2), .int (3)]], .list [.list [.int (0), .int (1), .int (4), .int (2), .int (3)]], .list [.list [.int (0), .int (1), .int (2), .int (4), .int (3)]], .list [.list [.int (0), .int (1), .int (2), .int (3), .int (4)]]]), some (0, .int (0)), some (9, .dict []), some (0, .int (0)), some (0, .list []), some (0, .list [.list [.list [.int (4), .int (3), .int (2), .int (1), .int (0)]], .list [.list [.int (3), .int (4), .int (2), .int (1), .int (0)]], .list [.list [.int (3), .int (2), .int (4), .int (1), .int (0)]], .list [.list [.int (3), .int (2), .int (1), .int (4), .int (0)]], .list [.list [.int (3), .int (2), .int (1), .int (0), .int (4)]], .list [.list [.int (4), .int (2), .int (3), .int (1), .int (0)]], .list [.list [.int (2), .int (4), .int (3), .int (1), .int (0)]], .list [.list [.int (2), .int (3), .int (4), .int (1), .int (0)]], .list [.list [.int (2), .int (3), .int (1), .int (4), .int (0)]], .list [.list [.int (2), .int (3), .int (1), .int (0), .int (4)]], .list [.list [.int (4), .int (2), .int (1), .int (3), .int (0)]], .list [.list [.int (2), .int (4), .int (1), .int (3), .int (0)]], .list [.list [.int (2), .int (1), .int (4), .int (3), .int (0)]], .list [.list [.int (2), .int (1), .int (3), .int (4), .int (0)]], .list [.list [.int (2), .int (1), .int (3), .int (0), .int (4)]], .list [.list [.int (4), .int (2), .int (1), .int (0), .int (3)]], .list [.list [.int (2), .int (4), .int (1), .int (0), .int (3)]], .list [.list [.int (2), .int (1), .int (4), .int (0), .int (3)]], .list [.list [.int (2), .int (1), .int (0), .int (4), .int (3)]], .list [.list [.int (2), .int (1), .int (0), .int (3), .int (4)]], .list [.list [.int (4), .int (3), .int (1), .int (2), .int (0)]], .list [.list [.int (3), .int (4), .int (1), .int (2), .int (0)]], .list [.list [.int (3), .int (1), .int (4), .int (2), .int (0)]], .list [.list [.int (3), .int (1), .int (2), .int (4), .int (0)]], .list [.list [.int (3), .int (1), .int (2), .int (0), .int (4)]], .list [.list [.int (4), .int (1), .int (3), .int (2), .int (0)]], .list [.list [.int (1), .int (4), .int (3), .int (2), .int (0)]], .list [.list [.int (1), .int (3), .int (4), .int (2), .int (0)]], .list [.list [.int (1), .int (3), .int (2), .int (4), .int (0)]], .list [.list [.int (1), .int (3), .int (2), .int (0), .int (4)]], .list [.list [.int (4), .int (1), .int (2), .int (3), .int (0)]], .list [.list [.int (1), .int (4), .int (2), .int (3), .int (0)]], .list [.list [.int (1), .int (2), .int (4), .int (3), .int (0)]], .list [.list [.int (1), .int (2), .int (3), .int (4), .int (0)]], .list [.list [.int (1), .int (2), .int (3), .int (0), .int (4)]], .list [.list [.int (4), .int (1), .int (2), .int (0), .int (3)]], .list [.list [.int (1), .int (4), .int (2), .int (0), .int (3)]], .list [.list [.int (1), .int (2), .int (4), .int (0), .int (3)]], .list [.list [.int (1), .int (2), .int (0), .int (4), .int (3)]], .list [.list [.int (1), .int (2), .int (0), .int (3), .int (4)]], .list [.list [.int (4), .int (3), .int (1), .int (0), .int (2)]], .list [.list [.int (3), .int (4), .int (1), .int (0), .int (2)]], .list [.list [.int (3), .int (1), .int (4), .int (0), .int (2)]], .list [.list [.int (3), .int (1), .int (0), .int (4), .int (2)]], .list [.list [.int (3), .int (1), .int (0), .int (2), .int (4)]], .list [.list [.int (4), .int (1), .int (3), .int (0), .int (2)]], .list [.list [.int (1), .int (4), .int (3), .int (0), .int (2)]], .list [.list [.int (1), .int (3), .int (4), .int (0), .int (2)]], .list [.list [.int (1), .int (3), .int (0), .int (4), .int (2)]], .list [.list [.int (1), .int (3), .int (0), .int (2), .int (4)]], .list [.list [.int (4), .int (1), .int (0), .int (3), .int (2)]], .list [.list [.int (1), .int (4), .int (0), .int (3), .int (2)]], .list [.list [.int (1), .int (0), .int (4), .int (3), .int (2)]], .list [.list [.int (1), .int (0), .int (3), .int (4), .int (2)]], .list [.list [.int (1), .int (0), .int (3), .int (2), .int (4)]], .list [.list [.int (4), .int (1), .int (0), .int (2), .int (3)]], .list [.list [.int (1), .int (4), .int (0), .int (2), .int (3)]], .list [.list [.int (1), .int (0), .int (4), .int (2), .int (3)]], .list [.list [.int (1), .int (0), .int (2), .int (4), .int (3)]], .list [.list [.int (1), .int (0), .int (2), .int (3), .int (4)]], .list [.list [.int (4), .int (3), .int (2), .int (0), .int (1)]], .list [.list [.int (3), .int (4), .int (2), .int (0), .int (1)]], .list [.list [.int (3), .int (2), .int (4), .int (0), .int (1)]], .list [.list [.int (3), .int (2), .int (0), .int (4), .int (1)]], .list [.list [.int (3), .int (2), .int (0), .int (1), .int (4)]], .list [.list [.int (4), .int (2), .int (3), .int (0), .int (1)]], .list [.list [.int (2), .int (4), .int (3), .int (0), .int (1)]], .list [.list [.int (2), .int (3), .int (4), .int (0), .int (1)]], .list [.list [.int (2), .int (3), .int (0), .int (4), .int (1)]], .list [.list [.int (2), .int (3), .int (0), .int (1), .int (4)]], .list [.list [.int (4), .int (2), .int (0), .int (3), .int (1)]], .list [.list [.int (2), .int (4), .int (0), .int (3), .int (1)]], .list [.list [.int (2), .int (0), .int (4), .int (3), .int (1)]], .list [.list [.int (2), .int (0), .int (3), .int (4), .int (1)]], .list [.list [.int (2), .int (0), .int (3), .int (1), .int (4)]], .list [.list [.int (4), .int (2), .int (0), .int (1), .int (3)]], .list [.list [.int (2), .int (4), .int (0), .int (1), .int (3)]], .list [.list [.int (2), .int (0), .int (4), .int (1), .int (3)]], .list [.list [.int (2), .int (0), .int (1), .int (4), .int (3)]], .list [.list [.int (2), .int (0), .int (1), .int (3), .int (4)]], .list [.list [.int (4), .int (3), .int (0), .int (2), .int (1)]], .list [.list [.int (3), .int (4), .int (0), .int (2), .int (1)]], .list [.list [.int (3), .int (0), .int (4), .int (2), .int (1)]], .list [.list [.int (3), .int (0), .int (2), .int (4), .int (1)]], .list [.list [.int (3), .int (0), .int (2), .int (1), .int (4)]], .list [.list [.int (4), .int (0), .int (3), .int (2), .int (1)]], .list [.list [.int (0), .int (4), .int (3), .int (2), .int (1)]], .list [.list [.int (0), .int (3), .int (4), .int (2), .int (1)]], .list [.list [.int (0), .int (3), .int (2), .int (4), .int (1)]], .list [.list [.int (0), .int (3), .int (2), .int (1), .int (4)]], .list [.list [.int (4), .int (0), .int (2), .int (3), .int (1)]], .list [.list [.int (0), .int (4), .int (2), .int (3), .int (1)]], .list [.list [.int (0), .int (2), .int (4), .int (3), .int (1)]], .list [.list [.int (0), .int (2), .int (3), .int (4), .int (1)]], .list [.list [.int (0), .int (2), .int (3), .int (1), .int (4)]], .list [.list [.int (4), .int (0), .int (2), .int (1), .int (3)]], .list [.list [.int (0), .int (4), .int (2), .int (1), .int (3)]], .list [.list [.int (0), .int (2), .int (4), .int (1), .int (3)]], .list [.list [.int (0), .int (2), .int (1), .int (4), .int (3)]], .list [.list [.int (0), .int (2), .int (1), .int (3), .int (4)]], .list [.list [.int (4), .int (3), .int (0), .int (1), .int (2)]], .list [.list [.int (3), .int (4), .int (0), .int (1), .int (2)]], .list [.list [.int (3), .int (0), .int (4), .int (1), .int (2)]], .list [.list [.int (3), .int (0), .int (1), .int (4), .int (2)]], .list [.list [.int (3), .int (0), .int (1), .int (2), .int (4)]], .list [.list [.int (4), .int (0), .int (3), .int (1), .int (2)]], .list [.list [.int (0), .int (4), .int (3), .int (1), .int (2)]], .list [.list [.int (0), .int (3), .int (4), .int (1), .int (2)]], .list [.list [.int (0), .int (3), .int (1), .int (4), .int (2)]], .list [.list [.int (0), .int (3), .int (1), .int (2), .int (4)]], .list [.list [.int (4), .int (0), .int (1), .int (3), .int (2)]], .list [.list [.int (0), .int (4), .int (1), .int (3), .int (2)]], .list [.list [.int (0), .int (1), .int (4), .int (3), .int (2)]], .list [.list [.int (0), .int (1), .int (3), .int (4), .int (2)]], .list [.list [.int (0), .int (1), .int (3), .int (2), .int (4)]], .list [.list [.int (4), .int (0), .int (1), .int (2), .int (3)]], .list [.list [.int (0), .int (4), .int (1), .int (2), .int (3)]], .list [.list [.int (0), .int (1), .int (4), .int (2), .int (3)]], .list [.list [.int (0), .int (1), .int (2), .int (4), .int (3)]], .list [.list [.int (0), .int (1), .int (2), .int (3), .int (4)]]]), none, none]
theorem a_pre2 : evSs C5 (start 10 [.int 1, .int 5]) (b__law_searched.take 4) = some (.nx a_env) := a_pre
theorem a_frz : frz [2] a_env = a_envf := by kernel_rfl
theorem a_for : evS C5 a_env (b__law_searched.getD 4 CS.retN) = forl F5 a_all (frz [2] a_env) := by kernel_rfl
theorem a_body : evSs C5 (start 10 [.int 1, .int 5]) b__law_searched = some (.rt (.tuple [.int 1, .int 24]) 9) := by
  refine (evSs_parts 4 _ _).trans ?_
  rw [a_pre2]
  have w := a_walk
  have e2 := a_for
  rw [a_frz] at e2
  unfold a_envf at e2
  rw [w] at e2
  have e4 : b__law_searched.drop 4 = [b__law_searched.getD 4 CS.retN, b__law_searched.getD 5 CS.retN] := by kernel_rfl
  dsimp only
  rw [e4, evSs_cons e2]
  kernel_rfl
theorem a_srch : C6 13 [.int 1, .int 5] = some (.tuple [.int 1, .int 24], 9) := by
  have p : phi 13 = some f__law_searched := by kernel_rfl
  have h := runF_body (C := C5) (f := f__law_searched) (vs := [.int 1, .int 5]) rfl a_body
  exact (callN_at p).trans h
def b_env : Wc.Env := [some (0, .int (2)), some (0, .int (3)), some (0, .list [.list [.list [.int (2), .int (1), .int (0)], .list [.int (2), .int (1), .int (0)]], .list [.list [.int (2), .int (1), .int (0)], .list [.int (1), .int (2), .int (0)]], .list [.list [.int (2), .int (1), .int (0)], .list [.int (1), .int (0), .int (2)]], .list [.list [.int (2), .int (1), .int (0)], .list [.int (2), .int (0), .int (1)]], .list [.list [.int (2), .int (1), .int (0)], .list [.int (0), .int (2), .int (1)]], .list [.list [.int (2), .int (1), .int (0)], .list [.int (0), .int (1), .int (2)]], .list [.list [.int (1), .int (2), .int (0)], .list [.int (2), .int (1), .int (0)]], .list [.list [.int (1), .int (2), .int (0)], .list [.int (1), .int (2), .int (0)]], .list [.list [.int (1), .int (2), .int (0)], .list [.int (1), .int (0), .int (2)]], .list [.list [.int (1), .int (2), .int (0)], .list [.int (2), .int (0), .int (1)]], .list [.list [.int (1), .int (2), .int (0)], .list [.int (0), .int (2), .int (1)]], .list [.list [.int (1), .int (2), .int (0)], .list [.int (0), .int (1), .int (2)]], .list [.list [.int (1), .int (0), .int (2)], .list [.int (2), .int (1), .int (0)]], .list [.list [.int (1), .int (0), .int (2)], .list [.int (1), .int (2), .int (0)]], .list [.list [.int (1), .int (0), .int (2)], .list [.int (1), .int (0), .int (2)]], .list [.list [.int (1), .int (0), .int (2)], .list [.int (2), .int (0), .int (1)]], .list [.list [.int (1), .int (0), .int (2)], .list [.int (0), .int (2), .int (1)]], .list [.list [.int (1), .int (0), .int (2)], .list [.int (0), .int (1), .int (2)]], .list [.list [.int (2), .int (0), .int (1)], .list [.int (2), .int (1), .int (0)]], .list [.list [.int (2), .int (0), .int (1)], .list [.int (1), .int (2), .int (0)]], .list [.list [.int (2), .int (0), .int (1)], .list [.int (1), .int (0), .int (2)]], .list [.list [.int (2), .int (0), .int (1)], .list [.int (2), .int (0), .int (1)]], .list [.list [.int (2), .int (0), .int (1)], .list [.int (0), .int (2), .int (1)]], .list [.list [.int (2), .int (0), .int (1)], .list [.int (0), .int (1), .int (2)]], .list [.list [.int (0), .int (2), .int (1)], .list [.int (2), .int (1), .int (0)]], .list [.list [.int (0), .int (2), .int (1)], .list [.int (1), .int (2), .int (0)]], .list [.list [.int (0), .int (2), .int (1)], .list [.int (1), .int (0), .int (2)]], .list [.list [.int (0), .int (2), .int (1)], .list [.int (2), .int (0), .int (1)]], .list [.list [.int (0), .int (2), .int (1)], .list [.int (0), .int (2), .int (1)]], .list [.list [.int (0), .int (2), .int (1)], .list [.int (0), .int (1), .int (2)]], .list [.list [.int (0), .int (1), .int (2)], .list [.int (2), .int (1), .int (0)]], .list [.list [.int (0), .int (1), .int (2)], .list [.int (1), .int (2), .int (0)]], .list [.list [.int (0), .int (1), .int (2)], .list [.int (1), .int (0), .int (2)]], .list [.list [.int (0), .int (1), .int (2)], .list [.int (2), .int (0), .int (1)]], .list [.list [.int (0), .int (1), .int (2)], .list [.int (0), .int (2), .int (1)]], .list [.list [.int (0), .int (1), .int (2)], .list [.int (0), .int (1), .int (2)]]]), some (0, .int (1)), some (9, .dict []), some (0, .int (0)), some (0, .list [.list [.int (0), .int (1), .int (2)]]), some (0, .list [.list [.list [.int (2), .int (1), .int (0)], .list [.int (2), .int (1), .int (0)]], .list [.list [.int (2), .int (1), .int (0)], .list [.int (1), .int (2), .int (0)]], .list [.list [.int (2), .int (1), .int (0)], .list [.int (1), .int (0), .int (2)]], .list [.list [.int (2), .int (1), .int (0)], .list [.int (2), .int (0), .int (1)]], .list [.list [.int (2), .int (1), .int (0)], .list [.int (0), .int (2), .int (1)]], .list [.list [.int (2), .int (1), .int (0)], .list [.int (0), .int (1), .int (2)]], .list [.list [.int (1), .int (2), .int (0)], .list [.int (2), .int (1), .int (0)]], .list [.list [.int (1), .int (2), .int (0)], .list [.int (1), .int (2), .int (0)]], .list [.list [.int (1), .int (2), .int (0)], .list [.int (1), .int (0), .int (2)]], .list [.list [.int (1), .int (2), .int (0)], .list [.int (2), .int (0), .int (1)]], .list [.list [.int (1), .int (2), .int (0)], .list [.int (0), .int (2), .int (1)]], .list [.list [.int (1), .int (2), .int (0)], .list [.int (0), .int (1), .int (2)]], .list [.list [.int (1), .int (0), .int (2)], .list [.int (2), .int (1), .int (0)]], .list [.list [.int (1), .int (0), .int (2)], .list [.int (1), .int (2), .int (0)]], .list [.list [.int (1), .int (0), .int (2)], .list [.int (1), .int (0), .int (2)]], .list [.list [.int (1), .int (0), .int (2)], .list [.int (2), .int (0), .int (1)]], .list [.list [.int (1), .int (0), .int (2)], .list [.int (0), .int (2), .int (1)]], .list [.list [.int (1), .int (0), .int (2)], .list [.int (0), .int (1), .int (2)]], .list [.list [.int (2), .int (0), .int (1)], .list [.int (2), .int (1), .int (0)]], .list [.list [.int (2), .int (0), .int (1)], .list [.int (1), .int (2), .int (0)]], .list [.list [.int (2), .int (0), .int (1)], .list [.int (1), .int (0), .int (2)]], .list [.list [.int (2), .int (0), .int (1)], .list [.int (2), .int (0), .int (1)]], .list [.list [.int (2), .int (0), .int (1)], .list [.int (0), .int (2), .int (1)]], .list [.list [.int (2), .int (0), .int (1)], .list [.int (0), .int (1), .int (2)]], .list [.list [.int (0), .int (2), .int (1)], .list [.int (2), .int (1), .int (0)]], .list [.list [.int (0), .int (2), .int (1)], .list [.int (1), .int (2), .int (0)]], .list [.list [.int (0), .int (2), .int (1)], .list [.int (1), .int (0), .int (2)]], .list [.list [.int (0), .int (2), .int (1)], .list [.int (2), .int (0), .int (1)]], .list [.list [.int (0), .int (2), .int (1)], .list [.int (0), .int (2), .int (1)]], .list [.list [.int (0), .int (2), .int (1)], .list [.int (0), .int (1), .int (2)]], .list [.list [.int (0), .int (1), .int (2)], .list [.int (2), .int (1), .int (0)]], .list [.list [.int (0), .int (1), .int (2)], .list [.int (1), .int (2), .int (0)]], .list [.list [.int (0), .int (1), .int (2)], .list [.int (1), .int (0), .int (2)]], .list [.list [.int (0), .int (1), .int (2)], .list [.int (2), .int (0), .int (1)]], .list [.list [.int (0), .int (1), .int (2)], .list [.int (0), .int (2), .int (1)]], .list [.list [.int (0), .int (1), .int (2)], .list [.int (0), .int (1), .int (2)]]]), none, none]
def b_envf : Wc.Env := [some (0, .int (2)), some (0, .int (3)), some (0, .list [.list [.list [.int (2), .int (1), .int (0)], .list [.int (2), .int (1), .int (0)]], .list [.list [.int (2), .int (1), .int (0)], .list [.int (1), .int (2), .int (0)]], .list [.list [.int (2), .int (1), .int (0)], .list [.int (1), .int (0), .int (2)]], .list [.list [.int (2), .int (1), .int (0)], .list [.int (2), .int (0), .int (1)]], .list [.list [.int (2), .int (1), .int (0)], .list [.int (0), .int (2), .int (1)]], .list [.list [.int (2), .int (1), .int (0)], .list [.int (0), .int (1), .int (2)]], .list [.list [.int (1), .int (2), .int (0)], .list [.int (2), .int (1), .int (0)]], .list [.list [.int (1), .int (2), .int (0)], .list [.int (1), .int (2), .int (0)]], .list [.list [.int (1), .int (2), .int (0)], .list [.int (1), .int (0), .int (2)]], .list [.list [.int (1), .int (2), .int (0)], .list [.int (2), .int (0), .int (1)]], .list [.list [.int (1), .int (2), .int (0)], .list [.int (0), .int (2), .int (1)]], .list [.list [.int (1), .int (2), .int (0)], .list [.int (0), .int (1), .int (2)]], .list [.list [.int (1), .int (0), .int (2)], .list [.int (2), .int (1), .int (0)]], .list [.list [.int (1), .int (0), .int (2)], .list [.int (1), .int (2), .int (0)]], .list [.list [.int (1), .int (0), .int (2)], .list [.int (1), .int (0), .int (2)]], .list [.list [.int (1), .int (0), .int (2)], .list [.int (2), .int (0), .int (1)]], .list [.list [.int (1), .int (0), .int (2)], .list [.int (0), .int (2), .int (1)]], .list [.list [.int (1), .int (0), .int (2)], .list [.int (0), .int (1), .int (2)]], .list [.list [.int (2), .int (0), .int (1)], .list [.int (2), .int (1), .int (0)]], .list [.list [.int (2), .int (0), .int (1)], .list [.int (1), .int (2), .int (0)]], .list [.list [.int (2), .int (0), .int (1)], .list [.int (1), .int (0), .int (2)]], .list [.list [.int (2), .int (0), .int (1)], .list [.int (2), .int (0), .int (1)]], .list [.list [.int (2), .int (0), .int (1)], .list [.int (0), .int (2), .int (1)]], .list [.list [.int (2), .int (0), .int (1)], .list [.int (0), .int (1), .int (2)]], .list [.list [.int (0), .int (2), .int (1)], .list [.int (2), .int (1), .int (0)]], .list [.list [.int (0), .int (2), .int (1)], .list [.int (1), .int (2), .int (0)]], .list [.list [.int (0), .int (2), .int (1)], .list [.int (1), .int (0), .int (2)]], .list [.list [.int (0), .int (2), .int (1)], .list [.int (2), .int (0), .int (1)]], .list [.list [.int (0), .int (2), .int (1)], .list [.int (0), .int (2), .int (1)]], .list [.list [.int (0), .int (2), .int (1)], .list [.int (0), .int (1), .int (2)]], .list [.list [.int (0), .int (1), .int (2)], .list [.int (2), .int (1), .int (0)]], .list [.list [.int (0), .int (1), .int (2)], .list [.int (1), .int (2), .int (0)]], .list [.list [.int (0), .int (1), .int (2)], .list [.int (1), .int (0), .int (2)]], .list [.list [.int (0), .int (1), .int (2)], .list [.int (2), .int (0), .int (1)]], .list [.list [.int (0), .int (1), .int (2)], .list [.int (0), .int (2), .int (1)]], .list [.list [.int (0), .int (1), .int (2)], .list [.int (0), .int (1), .int (2)]]]), some (0, .int (1)), some (9, .dict []), some (0, .int (0)), some (0, .list [.list [.int (0), .int (1), .int (2)]]), some (0, .list [.list [.list [.int (2), .int (1), .int (0)], .list [.int (2), .int (1), .int (0)]], .list [.list [.int (2), .int (1), .int (0)], .list [.int (1), .int (2), .int (0)]], .list [.list [.int (2), .int (1), .int (0)], .list [.int (1), .int (0), .int (2)]], .list [.list [.int (2), .int (1), .int (0)], .list [.int (2), .int (0), .int (1)]], .list [.list [.int (2), .int (1), .int (0)], .list [.int (0), .int (2), .int (1)]], .list [.list [.int (2), .int (1), .int (0)], .list [.int (0), .int (1), .int (2)]], .list [.list [.int (1), .int (2), .int (0)], .list [.int (2), .int (1), .int (0)]], .list [.list [.int (1), .int (2), .int (0)], .list [.int (1), .int (2), .int (0)]], .list [.list [.int (1), .int (2), .int (0)], .list [.int (1), .int (0), .int (2)]], .list [.list [.int (1), .int (2), .int (0)], .list [.int (2), .int (0), .int (1)]], .list [.list [.int (1), .int (2), .int (0)], .list [.int (0), .int (2), .int (1)]], .list [.list [.int (1), .int (2), .int (0)], .list [.int (0), .int (1), .int (2)]], .list [.list [.int (1), .int (0), .int (2)], .list [.int (2), .int (1), .int (0)]], .list [.list [.int (1), .int (0), .int (2)], .list [.int (1), .int (2), .int (0)]], .list [.list [.int (1), .int (0), .int (2)], .list [.int (1), .int (0), .int (2)]], .list [.list [.int (1), .int (0), .int (2)], .list [.int (2), .int (0), .int (1)]], .list [.list [.int (1), .int (0), .int (2)], .list [.int (0), .int (2), .int (1)]], .list [.list [.int (1), .int (0), .int (2)], .list [.int (0), .int (1), .int (2)]], .list [.list [.int (2), .int (0), .int (1)], .list [.int (2), .int (1), .int (0)]], .list [.list [.int (2), .int (0), .int (1)], .list [.int (1), .int (2), .int (0)]], .list [.list [.int (2), .int (0), .int (1)], .list [.int (1), .int (0), .int (2)]], .list [.list [.int (2), .int (0), .int (1)], .list [.int (2), .int (0), .int (1)]], .list [.list [.int (2), .int (0), .int (1)], .list [.int (0), .int (2), .int (1)]], .list [.list [.int (2), .int (0), .int (1)], .list [.int (0), .int (1), .int (2)]], .list [.list [.int (0), .int (2), .int (1)], .list [.int (2), .int (1), .int (0)]], .list [.list [.int (0), .int (2), .int (1)], .list [.int (1), .int (2), .int (0)]], .list [.list [.int (0), .int (2), .int (1)], .list [.int (1), .int (0), .int (2)]], .list [.list [.int (0), .int (2), .int (1)], .list [.int (2), .int (0), .int (1)]], .list [.list [.int (0), .int (2), .int (1)], .list [.int (0), .int (2), .int (1)]], .list [.list [.int (0), .int (2), .int (1)], .list [.int (0), .int (1), .int (2)]], .list [.list [.int (0), .int (1), .int (2)], .list [.int (2), .int (1), .int (0)]], .list [.list [.int (0), .int (1), .int (2)], .list [.int (1), .int (2), .int (0)]], .list [.list [.int (0), .int (1), .int (2)], .list [.int (1), .int (0), .int (2)]], .list [.list [.int (0), .int (1), .int (2)], .list [.int (2), .int (0), .int (1)]], .list [.list [.int (0), .int (1), .int (2)], .list [.int (0), .int (2), .int (1)]], .list [.list [.int (0), .int (1), .int (2)], .list [.int (0), .int (1), .int (2)]]]), none, none]
theorem b_pre2 : evSs C5 (start 10 [.int 2, .int 3]) (b__law_searched.take 4) = some (.nx b_env) := b_pre
theorem b_frz : frz [2] b_env = b_envf := by kernel_rfl
theorem b_for : evS C5 b_env (b__law_searched.getD 4 CS.retN) = forl F5 b_all (frz [2] b_env) := by kernel_rfl
theorem b_body : evSs C5 (start 10 [.int 2, .int 3]) b__law_searched = some (.rt (.tuple [.int 13, .int 26]) 9) := by
  refine (evSs_parts 4 _ _).trans ?_
  rw [b_pre2]
  have w := b_walk
  have e2 := b_for
  rw [b_frz] at e2
  unfold b_envf at e2
  rw [w] at e2
  have e4 : b__law_searched.drop 4 = [b__law_searched.getD 4 CS.retN, b__law_searched.getD 5 CS.retN] := by kernel_rfl
  dsimp only
  rw [e4, evSs_cons e2]
  kernel_rfl
theorem b_srch : C6 13 [.int 2, .int 3] = some (.tuple [.int 13, .int 26], 9) := by
  have p : phi 13 = some f__law_searched := by kernel_rfl
  have h := runF_body (C := C5) (f := f__law_searched) (vs := [.int 2, .int 3]) rfl b_body
  exact (callN_at p).trans h
end K69
/- part K69a -/
namespace K69
open PySem Wc
def B1 : List CS := match b_law.getD 2 CS.retN with | CS.for _ _ b => b | _ => []
def B2 : List CS := match b_law.getD 3 CS.retN with | CS.for _ _ b => b | _ => []
def cnt (L n : Int) : Int := match callN phi 5 2 [.int L, .int n] with | some (.int c, _) => c | _ => 0
def Goal1 (L n : Int) : Prop := ∀ s0 s1 a4 a5 a6 : Option Slot, evSs C6 [s0, s1, some (0, .int L), some (0, .int n), a4, a5, a6] B1 = some (.nx [s0, s1, some (0, .int L), some (0, .int n), some (0, .int (cnt L n)), a5, a6])
def Goal2 (L n a b : Int) : Prop := ∀ s0 s1 a4 a5 a6 : Option Slot, evSs C6 [s0, s1, some (0, .int L), some (0, .int n), a4, a5, a6] B2 = some (.nx [s0, s1, some (0, .int L), some (0, .int n), a4, some (8, .int a), some (8, .int b)])
theorem one_L (n : Int) (h : n = 1 ∨ n = 2 ∨ n = 3 ∨ n = 4 ∨ n = 5 ∨ n = 6 ∨ n = 7 ∨ n = 8 ∨ n = 9 ∨ n = 10 ∨ n = 11 ∨ n = 12) : Goal1 1 n := by
  rcases h with rfl | rfl | rfl | rfl | rfl | rfl | rfl | rfl | rfl | rfl | rfl | rfl <;> (intro s0 s1 a4 a5 a6; kernel_rfl)
theorem two_L (n : Int) (h : n = 1 ∨ n = 2 ∨ n = 3 ∨ n = 4 ∨ n = 5 ∨ n = 6 ∨ n = 7 ∨ n = 8 ∨ n = 9 ∨ n = 10 ∨ n = 11 ∨ n = 12) : Goal1 2 n := by
  rcases h with rfl | rfl | rfl | rfl | rfl | rfl | rfl | rfl | rfl | rfl | rfl | rfl <;> (intro s0 s1 a4 a5 a6; kernel_rfl)
theorem three_L (n : Int) (h : n = 1 ∨ n = 2 ∨ n = 3 ∨ n = 4 ∨ n = 5 ∨ n = 6 ∨ n = 7 ∨ n = 8 ∨ n = 9 ∨ n = 10 ∨ n = 11 ∨ n = 12) : Goal1 3 n := by
  rcases h with rfl | rfl | rfl | rfl | rfl | rfl | rfl | rfl | rfl | rfl | rfl | rfl <;> (intro s0 s1 a4 a5 a6; kernel_rfl)
theorem four_L (n : Int) (h : n = 1 ∨ n = 2 ∨ n = 3 ∨ n = 4 ∨ n = 5 ∨ n = 6 ∨ n = 7 ∨ n = 8 ∨ n = 9 ∨ n = 10 ∨ n = 11 ∨ n = 12) : Goal1 4 n := by
  rcases h with rfl | rfl | rfl | rfl | rfl | rfl | rfl | rfl | rfl | rfl | rfl | rfl <;> (intro s0 s1 a4 a5 a6; kernel_rfl)
theorem all_L {L n : Int} (hL : 1 ≤ L) (hL4 : L ≤ 4) (hn : 1 ≤ n) (hn12 : n ≤ 12) : Goal1 L n := by
  have h : n = 1 ∨ n = 2 ∨ n = 3 ∨ n = 4 ∨ n = 5 ∨ n = 6 ∨ n = 7 ∨ n = 8 ∨ n = 9 ∨ n = 10 ∨ n = 11 ∨ n = 12 := by omega
  have h2 : L = 1 ∨ L = 2 ∨ L = 3 ∨ L = 4 := by omega
  rcases h2 with rfl | rfl | rfl | rfl
  · exact one_L n h
  · exact two_L n h
  · exact three_L n h
  · exact four_L n h
theorem g14 : Goal2 1 4 1 6 := by intro s0 s1 a4 a5 a6; kernel_rfl
theorem g22 : Goal2 2 2 3 3 := by intro s0 s1 a4 a5 a6; kernel_rfl
theorem g32 : Goal2 3 2 7 7 := by intro s0 s1 a4 a5 a6; kernel_rfl
theorem g21 : Goal2 2 1 1 1 := by intro s0 s1 a4 a5 a6; kernel_rfl
theorem g41 : Goal2 4 1 1 1 := by intro s0 s1 a4 a5 a6; kernel_rfl
theorem goal2_of {C : Orc} {L n a b : Int} {s0 s1 a4 a5 a6 : Option Slot} (h : C 13 [.int L, .int n] = some (.tuple [.int a, .int b], 9)) :
    evS C [s0, s1, some (0, .int L), some (0, .int n), a4, a5, a6] (.set (.many [5, 6]) (.call 13 [.var 2, .var 3])) = some (.nx [s0, s1, some (0, .int L), some (0, .int n), a4, some (8, .int a), some (8, .int b)]) := by
  have e1 : evE C [s0, s1, some (0, .int L), some (0, .int n), a4, a5, a6] (.call 13 [.var 2, .var 3]) = some (.tuple [.int a, .int b], 9) := h
  rw [evS, e1]
  rfl
theorem g15 : Goal2 1 5 1 24 := by
  intro s0 s1 a4 a5 a6
  have e3 : B2 = .set (.many [5, 6]) (.call 13 [.var 2, .var 3]) :: B2.drop 1 := by kernel_rfl
  rw [e3, evSs_cons (goal2_of a_srch)]
  kernel_rfl
theorem g23 : Goal2 2 3 13 26 := by
  intro s0 s1 a4 a5 a6
  have e3 : B2 = .set (.many [5, 6]) (.call 13 [.var 2, .var 3]) :: B2.drop 1 := by kernel_rfl
  rw [e3, evSs_cons (goal2_of b_srch)]
  kernel_rfl
end K69
/- part K69b -/
namespace K69
open PySem Wc
theorem forl_cons {f : D → Wc.Env → Option Out} {x : D} {xs : List D} {r r' : Wc.Env} (h : f x r = some (.nx r')) : forl f (x :: xs) r = forl f xs r' := by simp only [forl, h]
theorem menu1 (d : Int) : ∃ L n a b : Int, (evE C6 [none, none] (.idx (.lst [(.tup [(.lit (.int (1))), (.lit (.int (4)))]), (.tup [(.lit (.int (2))), (.lit (.int (2)))]), (.tup [(.lit (.int (3))), (.lit (.int (2)))]), (.tup [(.lit (.int (1))), (.lit (.int (5)))])]) (.lit (.int (d % 4))))) = some (.tuple [.int L, .int n], 0) ∧ Goal2 L n a b := by
  have h : d % 4 = 0 ∨ d % 4 = 1 ∨ d % 4 = 2 ∨ d % 4 = 3 := by omega
  rcases h with h | h | h | h <;> rw [h]
  · exact ⟨1, 4, 1, 6, rfl, g14⟩
  · exact ⟨2, 2, 3, 3, rfl, g22⟩
  · exact ⟨3, 2, 7, 7, rfl, g32⟩
  · exact ⟨1, 5, 1, 24, rfl, g15⟩
theorem menu2 (d : Int) : ∃ L n a b : Int, (evE C6 [none, none] (.idx (.lst [(.tup [(.lit (.int (2))), (.lit (.int (3)))]), (.tup [(.lit (.int (2))), (.lit (.int (1)))]), (.tup [(.lit (.int (4))), (.lit (.int (1)))]), (.tup [(.lit (.int (2))), (.lit (.int (2)))])]) (.lit (.int (d % 4))))) = some (.tuple [.int L, .int n], 0) ∧ Goal2 L n a b := by
  have h : d % 4 = 0 ∨ d % 4 = 1 ∨ d % 4 = 2 ∨ d % 4 = 3 := by omega
  rcases h with h | h | h | h <;> rw [h]
  · exact ⟨2, 3, 13, 26, rfl, g23⟩
  · exact ⟨2, 1, 1, 1, rfl, g21⟩
  · exact ⟨4, 1, 1, 1, rfl, g41⟩
  · exact ⟨2, 2, 3, 3, rfl, g22⟩
theorem fin (r : Wc.Env) : evS C6 r (b_law.getD 4 CS.retN) = some (.rt (.bool true) 0) := by kernel_rfl
set_option maxHeartbeats 4000000 in
theorem law_ok {ns : List Int} (hns : ns.length ≤ 63) : callN phi 7 14 [mkScr (iL ns)] = some (.bool true, 0) := by
  obtain ⟨l, hd, hl⟩ := draws_ok (C := callN phi 5) (ns := ns) (many := 6) hns (by decide) (by decide)
  generalize mkScr (iL ns) = s at hd
  have hl6 : l.length = 6 := hl
  match l, hl6 with
  | [d0, d1, d2, d3, d4, d5], _ =>
    have hc : C6 3 [s, .int 6] = some (.list (iL [d0, d1, d2, d3, d4, d5]), 1) := hd
    have s1e : evS C6 (start 7 [s]) (b_law.getD 0 CS.retN) = some (.nx [some (0, s), some (1, .list (iL [d0, d1, d2, d3, d4, d5])), none, none, none, none, none]) := by
      show (match (match evEs C6 (start 7 [s]) [.var 0, .lit (.int 6)] with | some l => C6 3 (l.map (·.1)) | none => none) with | some (d, m) => (setTg m (.one 1) d (kept (.call 3 [.var 0, .lit (.int 6)]) d m (start 7 [s]))).map Out.nx | none => none) = _
      have : evEs C6 (start 7 [s]) [.var 0, .lit (.int 6)] = some [(s, 0), (.int 6, 0)] := rfl
      rw [this]
      show (match C6 3 [s, .int 6] with | some (d, m) => (setTg m (.one 1) d (kept (.call 3 [.var 0, .lit (.int 6)]) d m (start 7 [s]))).map Out.nx | none => none) = _
      rw [hc]
      rfl
    have hL1 : 1 ≤ 1 + d0 % 4 := by omega
    have hL4 : 1 + d0 % 4 ≤ 4 := by omega
    generalize hL : 1 + d0 % 4 = L at hL1 hL4
    have s2e : evS C6 [some (0, s), some (1, .list (iL [d0, d1, d2, d3, d4, d5])), none, none, none, none, none] (b_law.getD 1 CS.retN) = some (.nx [some (0, s), some (1, .list (iL [d0, d1, d2, d3, d4, d5])), some (0, .int L), none, none, none, none]) := by
      rw [← hL]; rfl
    have s3e : ∃ c, evS C6 [some (0, s), some (1, .list (iL [d0, d1, d2, d3, d4, d5])), some (0, .int L), none, none, none, none] (b_law.getD 2 CS.retN) = some (.nx [some (0, s), some (1, .list (iL [d0, d1, d2, d3, d4, d5])), some (0, .int L), some (0, .int (1 + d2 % 6)), some (0, .int c), none, none]) := by
      refine ⟨cnt L (1 + d2 % 6), ?_⟩
      show forl (fun d r => match setTg 0 (.one 3) d r with | some r' => evSs C6 r' B1 | none => none) [.int (1 + d1 % 12), .int 1, .int 2, .int (1 + d2 % 6)] [some (0, s), some (1, .list (iL [d0, d1, d2, d3, d4, d5])), some (0, .int L), none, none, none, none] = _
      rw [forl_cons (all_L (n := 1 + d1 % 12) hL1 hL4 (by omega) (by omega) _ _ _ _ _), forl_cons (all_L (n := 1) hL1 hL4 (by omega) (by omega) _ _ _ _ _), forl_cons (all_L (n := 2) hL1 hL4 (by omega) (by omega) _ _ _ _ _), forl_cons (all_L (n := 1 + d2 % 6) hL1 hL4 (by omega) (by omega) _ _ _ _ _)]
      rfl
    obtain ⟨c, s3e⟩ := s3e
    obtain ⟨L1, n1, a1, b1, m1, q1⟩ := menu1 d3
    obtain ⟨L2, n2, a2, b2, m2, q2⟩ := menu2 d4
    have s4e : ∃ r4, evS C6 [some (0, s), some (1, .list (iL [d0, d1, d2, d3, d4, d5])), some (0, .int L), some (0, .int (1 + d2 % 6)), some (0, .int c), none, none] (b_law.getD 3 CS.retN) = some (.nx r4) := by
      have m1' : evE C6 [some (0, s), some (1, .list (iL [d0, d1, d2, d3, d4, d5])), some (0, .int L), some (0, .int (1 + d2 % 6)), some (0, .int c), none, none] (.idx (.lst [(.tup [(.lit (.int (1))), (.lit (.int (4)))]), (.tup [(.lit (.int (2))), (.lit (.int (2)))]), (.tup [(.lit (.int (3))), (.lit (.int (2)))]), (.tup [(.lit (.int (1))), (.lit (.int (5)))])]) (.bin .mod (.idx (.var 1) (.lit (.int (3)))) (.lit (.int (4))))) = some (.tuple [.int L1, .int n1], 0) := m1
      have m2' : evE C6 [some (0, s), some (1, .list (iL [d0, d1, d2, d3, d4, d5])), some (0, .int L), some (0, .int (1 + d2 % 6)), some (0, .int c), none, none] (.idx (.lst [(.tup [(.lit (.int (2))), (.lit (.int (3)))]), (.tup [(.lit (.int (2))), (.lit (.int (1)))]), (.tup [(.lit (.int (4))), (.lit (.int (1)))]), (.tup [(.lit (.int (2))), (.lit (.int (2)))])]) (.bin .mod (.idx (.var 1) (.lit (.int (4)))) (.lit (.int (4))))) = some (.tuple [.int L2, .int n2], 0) := m2
      generalize hr : [some (0, s), some (1, .list (iL [d0, d1, d2, d3, d4, d5])), some (0, .int L), some (0, .int (1 + d2 % 6)), some (0, .int c), none, none] = r3 at m1' m2'
      have e0 : evE C6 r3 (.lst [(.idx (.lst [(.tup [(.lit (.int (1))), (.lit (.int (4)))]), (.tup [(.lit (.int (2))), (.lit (.int (2)))]), (.tup [(.lit (.int (3))), (.lit (.int (2)))]), (.tup [(.lit (.int (1))), (.lit (.int (5)))])]) (.bin .mod (.idx (.var 1) (.lit (.int (3)))) (.lit (.int (4))))), (.idx (.lst [(.tup [(.lit (.int (2))), (.lit (.int (3)))]), (.tup [(.lit (.int (2))), (.lit (.int (1)))]), (.tup [(.lit (.int (4))), (.lit (.int (1)))]), (.tup [(.lit (.int (2))), (.lit (.int (2)))])]) (.bin .mod (.idx (.var 1) (.lit (.int (4)))) (.lit (.int (4)))))]) = some (.list [.tuple [.int L1, .int n1], .tuple [.int L2, .int n2]], 9) := by
        rw [evE, evEs, m1', evEs, m2', evEs]
        rfl
      refine ⟨[some (0, s), some (1, .list (iL [d0, d1, d2, d3, d4, d5])), some (0, .int L2), some (0, .int n2), some (0, .int c), some (8, .int a2), some (8, .int b2)], ?_⟩
      have e3 : b_law.getD 3 CS.retN = CS.for (.many [2, 3]) (.lst [(.idx (.lst [(.tup [(.lit (.int (1))), (.lit (.int (4)))]), (.tup [(.lit (.int (2))), (.lit (.int (2)))]), (.tup [(.lit (.int (3))), (.lit (.int (2)))]), (.tup [(.lit (.int (1))), (.lit (.int (5)))])]) (.bin .mod (.idx (.var 1) (.lit (.int (3)))) (.lit (.int (4))))), (.idx (.lst [(.tup [(.lit (.int (2))), (.lit (.int (3)))]), (.tup [(.lit (.int (2))), (.lit (.int (1)))]), (.tup [(.lit (.int (4))), (.lit (.int (1)))]), (.tup [(.lit (.int (2))), (.lit (.int (2)))])]) (.bin .mod (.idx (.var 1) (.lit (.int (4)))) (.lit (.int (4)))))]) B2 := rfl
      rw [e3, evS, e0]
      show forl (fun d r => match setTg 0 (.many [2, 3]) d r with | some r' => evSs C6 r' B2 | none => none) [.tuple [.int L1, .int n1], .tuple [.int L2, .int n2]] r3 = _
      subst hr
      rw [forl_cons (q1 _ _ _ _ _), forl_cons (q2 _ _ _ _ _)]
      rfl
    obtain ⟨r4, s4e⟩ := s4e
    have e5 : b_law = [b_law.getD 0 CS.retN, b_law.getD 1 CS.retN, b_law.getD 2 CS.retN, b_law.getD 3 CS.retN, b_law.getD 4 CS.retN] := rfl
    show (match evSs C6 (start 7 [s]) b_law with | some (.rt d m) => some (d, m) | some (.nx _) => some (.none, 0) | none => none) = _
    rw [e5, evSs_cons s1e, evSs_cons s2e, evSs_cons s3e, evSs_cons s4e]
    simp only [evSs, fin]
end K69
/- part K69e -/
set_option maxHeartbeats 0
namespace K69
open PySem PySem.Spec PyProof.Rows L2 Wc
def top (i : Nat) : Stmt := PySem.Challenge.pw_wordscancel_k69_numbers_of_lots.main.body.getD i (.Pass ⟨0, 0, 0, 0⟩)
def mk (x : Str) (i : Nat) : He.DefD := ⟨(x, none), x, x, defArgs (top i), defBody (top i), defScope (top i), [], []⟩
def loose0 : List Str := ["factorial", "raised", "count_lots", "_law_draws", "_law_is_number", "_law_signed", "_law_numbered", "_law_deck_track", "_law_reached", "_law_factorial", "_law_power", "_law_due", "_law_orders", "_law_searched"]
def loose : List Str := loose0
def e_0 : Ent := ⟨"factorial", 0, ["n"], ["n", "product", "number"], mk "factorial" 1⟩
def e_1 : Ent := ⟨"raised", 1, ["base", "times"], ["base", "times", "product", "_"], mk "raised" 2⟩
def e_2 : Ent := ⟨"count_lots", 2, ["letters", "n"], ["letters", "n", "numbers", "rows", "total", "k"], mk "count_lots" 3⟩
def e_3 : Ent := ⟨"_law_draws", 3, ["script", "many"], ["script", "many", "found", "cell", "k", "number", "mixed", "base"], mk "_law_draws" 5⟩
def e_4 : Ent := ⟨"_law_is_number", 4, ["value"], ["value"], mk "_law_is_number" 6⟩
def e_5 : Ent := ⟨"_law_signed", 5, ["letters"], ["letters", "found", "letter"], mk "_law_signed" 7⟩
def e_6 : Ent := ⟨"_law_numbered", 6, ["letters", "leads", "start"], ["letters", "leads", "start", "order", "k", "arrows", "place", "number", "goal"], mk "_law_numbered" 8⟩
def e_7 : Ent := ⟨"_law_deck_track", 7, ["letters", "deck"], ["letters", "deck", "leads", "letter", "card"], mk "_law_deck_track" 9⟩
def e_8 : Ent := ⟨"_law_reached", 8, ["letters", "leads", "start"], ["letters", "leads", "start", "found", "waiting", "kept", "place", "number", "goal"], mk "_law_reached" 10⟩
def e_9 : Ent := ⟨"_law_factorial", 9, ["n"], ["n", "product", "k"], mk "_law_factorial" 11⟩
def e_10 : Ent := ⟨"_law_power", 10, ["base", "times"], ["base", "times", "product", "k"], mk "_law_power" 12⟩
def e_11 : Ent := ⟨"_law_due", 11, ["letters", "n"], ["letters", "n", "known", "rows", "total", "k"], mk "_law_due" 13⟩
def e_12 : Ent := ⟨"_law_orders", 12, ["n"], ["n", "found", "item", "longer", "order", "k"], mk "_law_orders" 14⟩
def e_13 : Ent := ⟨"_law_searched", 13, ["letters", "n"], ["letters", "n", "decks", "letter", "tracks", "count", "deck", "longer", "track", "line"], mk "_law_searched" 15⟩
def e_14 : Ent := ⟨"law", 14, ["script"], ["script", "draws", "letters", "n", "told", "many", "together"], mk "law" 16⟩
def ents : List Ent := [e_0, e_1, e_2, e_3, e_4, e_5, e_6, e_7, e_8, e_9, e_10, e_11, e_12, e_13, e_14]
def gl : List (Str × Nat × Nat) := ents.map fun e => (e.x, e.id, e.ps.length)
def fr : List Str := ["len", "sorted", "int", "abs", "repr", "range", "isinstance", "bool"]
theorem ok_0 : e_0.okB gl fr = true := by kernel_rfl
theorem says_0 : e_0.says gl fr phi := ⟨b_factorial, by kernel_rfl, by kernel_rfl⟩
theorem bnd_0 : e_0.d.at_ = (e_0.x, none) ∧ e_0.d.dfl = [] ∧ e_0.d.kwd = [] ∧ ∀ (kV doc pm : Value) (an : Option Addr) (cdv ct : Value) (us : List Value), us.length = e_0.ps.length → bindArgs (PySem.W.fnOf e_0.d.name e_0.d.qual e_0.d.params e_0.d.body e_0.d.scope .none kV doc pm an cdv ct) ⟨us, []⟩ = pure (e_0.ps.zip us) :=
  ⟨rfl, rfl, rfl, fun _ _ _ _ _ _ us hl => match us, hl with | [_], _ => by kernel_rfl⟩
theorem ok_1 : e_1.okB gl fr = true := by kernel_rfl
theorem says_1 : e_1.says gl fr phi := ⟨b_raised, by kernel_rfl, by kernel_rfl⟩
theorem bnd_1 : e_1.d.at_ = (e_1.x, none) ∧ e_1.d.dfl = [] ∧ e_1.d.kwd = [] ∧ ∀ (kV doc pm : Value) (an : Option Addr) (cdv ct : Value) (us : List Value), us.length = e_1.ps.length → bindArgs (PySem.W.fnOf e_1.d.name e_1.d.qual e_1.d.params e_1.d.body e_1.d.scope .none kV doc pm an cdv ct) ⟨us, []⟩ = pure (e_1.ps.zip us) :=
  ⟨rfl, rfl, rfl, fun _ _ _ _ _ _ us hl => match us, hl with | [_, _], _ => by kernel_rfl⟩
theorem ok_2 : e_2.okB gl fr = true := by kernel_rfl
theorem says_2 : e_2.says gl fr phi := ⟨b_count_lots, by kernel_rfl, by kernel_rfl⟩
theorem bnd_2 : e_2.d.at_ = (e_2.x, none) ∧ e_2.d.dfl = [] ∧ e_2.d.kwd = [] ∧ ∀ (kV doc pm : Value) (an : Option Addr) (cdv ct : Value) (us : List Value), us.length = e_2.ps.length → bindArgs (PySem.W.fnOf e_2.d.name e_2.d.qual e_2.d.params e_2.d.body e_2.d.scope .none kV doc pm an cdv ct) ⟨us, []⟩ = pure (e_2.ps.zip us) :=
  ⟨rfl, rfl, rfl, fun _ _ _ _ _ _ us hl => match us, hl with | [_, _], _ => by kernel_rfl⟩
theorem ok_3 : e_3.okB gl fr = true := by kernel_rfl
theorem says_3 : e_3.says gl fr phi := ⟨b__law_draws, by kernel_rfl, by kernel_rfl⟩
theorem bnd_3 : e_3.d.at_ = (e_3.x, none) ∧ e_3.d.dfl = [] ∧ e_3.d.kwd = [] ∧ ∀ (kV doc pm : Value) (an : Option Addr) (cdv ct : Value) (us : List Value), us.length = e_3.ps.length → bindArgs (PySem.W.fnOf e_3.d.name e_3.d.qual e_3.d.params e_3.d.body e_3.d.scope .none kV doc pm an cdv ct) ⟨us, []⟩ = pure (e_3.ps.zip us) :=
  ⟨rfl, rfl, rfl, fun _ _ _ _ _ _ us hl => match us, hl with | [_, _], _ => by kernel_rfl⟩
theorem ok_4 : e_4.okB gl fr = true := by kernel_rfl
theorem says_4 : e_4.says gl fr phi := ⟨b__law_is_number, by kernel_rfl, by kernel_rfl⟩
theorem bnd_4 : e_4.d.at_ = (e_4.x, none) ∧ e_4.d.dfl = [] ∧ e_4.d.kwd = [] ∧ ∀ (kV doc pm : Value) (an : Option Addr) (cdv ct : Value) (us : List Value), us.length = e_4.ps.length → bindArgs (PySem.W.fnOf e_4.d.name e_4.d.qual e_4.d.params e_4.d.body e_4.d.scope .none kV doc pm an cdv ct) ⟨us, []⟩ = pure (e_4.ps.zip us) :=
  ⟨rfl, rfl, rfl, fun _ _ _ _ _ _ us hl => match us, hl with | [_], _ => by kernel_rfl⟩
theorem ok_5 : e_5.okB gl fr = true := by kernel_rfl
theorem says_5 : e_5.says gl fr phi := ⟨b__law_signed, by kernel_rfl, by kernel_rfl⟩
theorem bnd_5 : e_5.d.at_ = (e_5.x, none) ∧ e_5.d.dfl = [] ∧ e_5.d.kwd = [] ∧ ∀ (kV doc pm : Value) (an : Option Addr) (cdv ct : Value) (us : List Value), us.length = e_5.ps.length → bindArgs (PySem.W.fnOf e_5.d.name e_5.d.qual e_5.d.params e_5.d.body e_5.d.scope .none kV doc pm an cdv ct) ⟨us, []⟩ = pure (e_5.ps.zip us) :=
  ⟨rfl, rfl, rfl, fun _ _ _ _ _ _ us hl => match us, hl with | [_], _ => by kernel_rfl⟩
theorem ok_6 : e_6.okB gl fr = true := by kernel_rfl
theorem says_6 : e_6.says gl fr phi := ⟨b__law_numbered, by kernel_rfl, by kernel_rfl⟩
theorem bnd_6 : e_6.d.at_ = (e_6.x, none) ∧ e_6.d.dfl = [] ∧ e_6.d.kwd = [] ∧ ∀ (kV doc pm : Value) (an : Option Addr) (cdv ct : Value) (us : List Value), us.length = e_6.ps.length → bindArgs (PySem.W.fnOf e_6.d.name e_6.d.qual e_6.d.params e_6.d.body e_6.d.scope .none kV doc pm an cdv ct) ⟨us, []⟩ = pure (e_6.ps.zip us) :=
  ⟨rfl, rfl, rfl, fun _ _ _ _ _ _ us hl => match us, hl with | [_, _, _], _ => by kernel_rfl⟩
theorem ok_7 : e_7.okB gl fr = true := by kernel_rfl
theorem says_7 : e_7.says gl fr phi := ⟨b__law_deck_track, by kernel_rfl, by kernel_rfl⟩
theorem bnd_7 : e_7.d.at_ = (e_7.x, none) ∧ e_7.d.dfl = [] ∧ e_7.d.kwd = [] ∧ ∀ (kV doc pm : Value) (an : Option Addr) (cdv ct : Value) (us : List Value), us.length = e_7.ps.length → bindArgs (PySem.W.fnOf e_7.d.name e_7.d.qual e_7.d.params e_7.d.body e_7.d.scope .none kV doc pm an cdv ct) ⟨us, []⟩ = pure (e_7.ps.zip us) :=
  ⟨rfl, rfl, rfl, fun _ _ _ _ _ _ us hl => match us, hl with | [_, _], _ => by kernel_rfl⟩
theorem ok_8 : e_8.okB gl fr = true := by kernel_rfl
theorem says_8 : e_8.says gl fr phi := ⟨b__law_reached, by kernel_rfl, by kernel_rfl⟩
theorem bnd_8 : e_8.d.at_ = (e_8.x, none) ∧ e_8.d.dfl = [] ∧ e_8.d.kwd = [] ∧ ∀ (kV doc pm : Value) (an : Option Addr) (cdv ct : Value) (us : List Value), us.length = e_8.ps.length → bindArgs (PySem.W.fnOf e_8.d.name e_8.d.qual e_8.d.params e_8.d.body e_8.d.scope .none kV doc pm an cdv ct) ⟨us, []⟩ = pure (e_8.ps.zip us) :=
  ⟨rfl, rfl, rfl, fun _ _ _ _ _ _ us hl => match us, hl with | [_, _, _], _ => by kernel_rfl⟩
theorem ok_9 : e_9.okB gl fr = true := by kernel_rfl
theorem says_9 : e_9.says gl fr phi := ⟨b__law_factorial, by kernel_rfl, by kernel_rfl⟩
theorem bnd_9 : e_9.d.at_ = (e_9.x, none) ∧ e_9.d.dfl = [] ∧ e_9.d.kwd = [] ∧ ∀ (kV doc pm : Value) (an : Option Addr) (cdv ct : Value) (us : List Value), us.length = e_9.ps.length → bindArgs (PySem.W.fnOf e_9.d.name e_9.d.qual e_9.d.params e_9.d.body e_9.d.scope .none kV doc pm an cdv ct) ⟨us, []⟩ = pure (e_9.ps.zip us) :=
  ⟨rfl, rfl, rfl, fun _ _ _ _ _ _ us hl => match us, hl with | [_], _ => by kernel_rfl⟩
theorem ok_10 : e_10.okB gl fr = true := by kernel_rfl
theorem says_10 : e_10.says gl fr phi := ⟨b__law_power, by kernel_rfl, by kernel_rfl⟩
theorem bnd_10 : e_10.d.at_ = (e_10.x, none) ∧ e_10.d.dfl = [] ∧ e_10.d.kwd = [] ∧ ∀ (kV doc pm : Value) (an : Option Addr) (cdv ct : Value) (us : List Value), us.length = e_10.ps.length → bindArgs (PySem.W.fnOf e_10.d.name e_10.d.qual e_10.d.params e_10.d.body e_10.d.scope .none kV doc pm an cdv ct) ⟨us, []⟩ = pure (e_10.ps.zip us) :=
  ⟨rfl, rfl, rfl, fun _ _ _ _ _ _ us hl => match us, hl with | [_, _], _ => by kernel_rfl⟩
theorem ok_11 : e_11.okB gl fr = true := by kernel_rfl
theorem says_11 : e_11.says gl fr phi := ⟨b__law_due, by kernel_rfl, by kernel_rfl⟩
theorem bnd_11 : e_11.d.at_ = (e_11.x, none) ∧ e_11.d.dfl = [] ∧ e_11.d.kwd = [] ∧ ∀ (kV doc pm : Value) (an : Option Addr) (cdv ct : Value) (us : List Value), us.length = e_11.ps.length → bindArgs (PySem.W.fnOf e_11.d.name e_11.d.qual e_11.d.params e_11.d.body e_11.d.scope .none kV doc pm an cdv ct) ⟨us, []⟩ = pure (e_11.ps.zip us) :=
  ⟨rfl, rfl, rfl, fun _ _ _ _ _ _ us hl => match us, hl with | [_, _], _ => by kernel_rfl⟩
theorem ok_12 : e_12.okB gl fr = true := by kernel_rfl
theorem says_12 : e_12.says gl fr phi := ⟨b__law_orders, by kernel_rfl, by kernel_rfl⟩
theorem bnd_12 : e_12.d.at_ = (e_12.x, none) ∧ e_12.d.dfl = [] ∧ e_12.d.kwd = [] ∧ ∀ (kV doc pm : Value) (an : Option Addr) (cdv ct : Value) (us : List Value), us.length = e_12.ps.length → bindArgs (PySem.W.fnOf e_12.d.name e_12.d.qual e_12.d.params e_12.d.body e_12.d.scope .none kV doc pm an cdv ct) ⟨us, []⟩ = pure (e_12.ps.zip us) :=
  ⟨rfl, rfl, rfl, fun _ _ _ _ _ _ us hl => match us, hl with | [_], _ => by kernel_rfl⟩
theorem ok_13 : e_13.okB gl fr = true := by kernel_rfl
theorem says_13 : e_13.says gl fr phi := ⟨b__law_searched, by kernel_rfl, by kernel_rfl⟩
theorem bnd_13 : e_13.d.at_ = (e_13.x, none) ∧ e_13.d.dfl = [] ∧ e_13.d.kwd = [] ∧ ∀ (kV doc pm : Value) (an : Option Addr) (cdv ct : Value) (us : List Value), us.length = e_13.ps.length → bindArgs (PySem.W.fnOf e_13.d.name e_13.d.qual e_13.d.params e_13.d.body e_13.d.scope .none kV doc pm an cdv ct) ⟨us, []⟩ = pure (e_13.ps.zip us) :=
  ⟨rfl, rfl, rfl, fun _ _ _ _ _ _ us hl => match us, hl with | [_, _], _ => by kernel_rfl⟩
theorem ok_14 : e_14.okB gl fr = true := by kernel_rfl
theorem says_14 : e_14.says gl fr phi := ⟨b_law, by kernel_rfl, by kernel_rfl⟩
theorem bnd_14 : e_14.d.at_ = (e_14.x, none) ∧ e_14.d.dfl = [] ∧ e_14.d.kwd = [] ∧ ∀ (kV doc pm : Value) (an : Option Addr) (cdv ct : Value) (us : List Value), us.length = e_14.ps.length → bindArgs (PySem.W.fnOf e_14.d.name e_14.d.qual e_14.d.params e_14.d.body e_14.d.scope .none kV doc pm an cdv ct) ⟨us, []⟩ = pure (e_14.ps.zip us) :=
  ⟨rfl, rfl, rfl, fun _ _ _ _ _ _ us hl => match us, hl with | [_], _ => by kernel_rfl⟩
theorem allOk : ∀ e ∈ ents, e.okB gl fr = true := by
  intro e he
  simp only [ents, List.mem_cons, List.not_mem_nil, or_false] at he
  rcases he with rfl | rfl | rfl | rfl | rfl | rfl | rfl | rfl | rfl | rfl | rfl | rfl | rfl | rfl | rfl
  · exact ok_0
  · exact ok_1
  · exact ok_2
  · exact ok_3
  · exact ok_4
  · exact ok_5
  · exact ok_6
  · exact ok_7
  · exact ok_8
  · exact ok_9
  · exact ok_10
  · exact ok_11
  · exact ok_12
  · exact ok_13
  · exact ok_14
theorem allSays : ∀ e ∈ ents, e.says gl fr phi := by
  intro e he
  simp only [ents, List.mem_cons, List.not_mem_nil, or_false] at he
  rcases he with rfl | rfl | rfl | rfl | rfl | rfl | rfl | rfl | rfl | rfl | rfl | rfl | rfl | rfl | rfl
  · exact says_0
  · exact says_1
  · exact says_2
  · exact says_3
  · exact says_4
  · exact says_5
  · exact says_6
  · exact says_7
  · exact says_8
  · exact says_9
  · exact says_10
  · exact says_11
  · exact says_12
  · exact says_13
  · exact says_14
theorem allBnd : ∀ e ∈ ents, e.d.at_ = (e.x, none) ∧ e.d.dfl = [] ∧ e.d.kwd = [] ∧ ∀ (kV doc pm : Value) (an : Option Addr) (cdv ct : Value) (us : List Value), us.length = e.ps.length → bindArgs (PySem.W.fnOf e.d.name e.d.qual e.d.params e.d.body e.d.scope .none kV doc pm an cdv ct) ⟨us, []⟩ = pure (e.ps.zip us) := by
  intro e he
  simp only [ents, List.mem_cons, List.not_mem_nil, or_false] at he
  rcases he with rfl | rfl | rfl | rfl | rfl | rfl | rfl | rfl | rfl | rfl | rfl | rfl | rfl | rfl | rfl
  · exact bnd_0
  · exact bnd_1
  · exact bnd_2
  · exact bnd_3
  · exact bnd_4
  · exact bnd_5
  · exact bnd_6
  · exact bnd_7
  · exact bnd_8
  · exact bnd_9
  · exact bnd_10
  · exact bnd_11
  · exact bnd_12
  · exact bnd_13
  · exact bnd_14
theorem inTab : ∀ x id n, gl.lookup x = some (id, n) → ∃ e ∈ ents, e.x = x ∧ e.id = id ∧ e.ps.length = n := by
  intro x id n h
  obtain ⟨e, he, e2⟩ := List.mem_map.mp (PySem.mem_of_lookup h)
  cases e2
  exact ⟨e, he, rfl, rfl, rfl⟩
abbrev R : PySem.W.OpenRow := PySem.W.OpenLaw.row PySem.Challenge.rw_wordscancel_k69_numbers_of_lots
abbrev hk : PySem.W.Hook := He.hookD 4 (faOf ents fr) (ents.map (·.d))
def ob (s : PySem.W.SharedT) : He.AlD := He.obsDG 4 (faOf ents fr) (ents.map (·.d)) (HandSHeadRun.getT s)
theorem ob_eq (s : PySem.W.SharedT) : ob s = hk.obs s.abs := He.obsDG_eq (HandSHeadRun.getT_eq s)
theorem run (w : World) : HandSHeadRun.RunEq R (PySem.W.view R.prog [16]) hk ob 4000 loose w := by
  intro os
  kernel_rfl
end K69
open PySem PySem.W PySem.Calls PyProof.Rows
theorem PySem.Challenge.cw_wordscancel_k69_numbers_of_lots_holds : PySem.Challenge.rw_wordscancel_k69_numbers_of_lots.Holds := by
  w_on; o_law
  refine HandSHeadRun.head_any (r := OpenLaw.row PySem.Challenge.rw_wordscancel_k69_numbers_of_lots) (q := view (OpenLaw.row PySem.Challenge.rw_wordscancel_k69_numbers_of_lots).prog [16]) (H := K69.hk) (ob := K69.ob) (M := 4000) (loose := K69.loose) (d := HandSHeadRun.topDef (OpenLaw.row PySem.Challenge.rw_wordscancel_k69_numbers_of_lots).prog 16) (kwd := []) K69.ob_eq
    (by kernel_rfl) (fun s => by kernel_rfl) K69.run (by kernel_rfl) (by kernel_rfl) (by kernel_rfl) (by rfl) (by first | assumption | decide +kernel) (by decide +kernel) ⟨rfl, rfl, rfl, rfl, rfl, by decide +kernel⟩ ?hw ?hc
  case hw => w_witness2
  case hc =>
    refine Wc.walk_tab (l := PySem.Challenge.rw_wordscancel_k69_numbers_of_lots) (n := 63) (k := 7) (id := 14) rfl (by decide) (by kernel_rfl) ⟨rfl, by decide, by decide⟩ (by kernel_rfl) K69.inTab K69.allOk K69.allSays (by kernel_rfl) (fun w mg h Y G => ?_) (fun ns hns => ⟨0, K69.law_ok hns⟩)
    obtain ⟨K, KX, c⟩ := Y
    exact ⟨K, KX, Wc.facts_tab KX G c K69.allBnd⟩
